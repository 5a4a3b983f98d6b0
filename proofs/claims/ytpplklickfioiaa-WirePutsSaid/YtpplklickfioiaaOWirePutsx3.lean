/- One piece of the machine's side of the law, written by a program over the translation; Lean checks it. -/
import Derived.Test.YtpplklickfioiaaOWirePutsx0
import Derived.Test.YtpplklickfioiaaOWirePutsx2
import Derived.WalkSpells
import Derived.Test.YtpplklickfioiaaShort
namespace Go.Proofs.Ytpplklickfioiaa.PWirePuts
open Go.RowKit Go.Proofs.YtpplklickfioiaaW.PrintWords Go.Proofs.YtpplklickfioiaaW.PrintLast Go.Proofs.YtpplklickfioiaaW.PrintMore
attribute [local go_sem] max2_int min2_int max_two min_two max_three min_three max_four min_four   -- for this text's walks alone
set_option linter.unusedVariables false
set_option linter.unusedSimpArgs false

/-! ### row_Check: function 52 -/
def row_Check.l0 : Nat → List (S103) → Int → Int → Option (Int)
 | 0, _, _, _ => none
 | k + 1, x8, x9, x10 => if x10 < x9 then (if 0 ≤ x10 then (if x10 < (x8.length : Int) then (if ((rd_T103 x8 x10).f0) = 1 then (if (((rd_T103 x8 x10).f2).size : Int) > 4096 then (some 2) else (row_Check.l0 k x8 x9 (wrap64 (x10 + 1)))) else (if ((rd_T103 x8 x10).f0) = 0 then (row_Check.l0 k x8 x9 (wrap64 (x10 + 1))) else (some 8))) else (none)) else (none)) else (some 0)
def row_Check.f (k : Nat) (l0 : List (S103)) : Option (Int) := if (l0.length : Int) > 16 then (some 3) else (row_Check.l0 k l0 (l0.length : Int) 0)
theorem row_Check.mono_l : ∀ k, (∀ y0 y1 y2, LeO (row_Check.l0 k y0 y1 y2) (row_Check.l0 (k + 1) y0 y1 y2))
 | 0 => fun _ _ _ r h => by simp [row_Check.l0] at h
 | k + 1 => by
  have ih0 := row_Check.mono_l k
  ·
   intro y0 y1 y2
   unfold row_Check.l0
   repeat' first
   | (with_reducible exact ih0 _ _ _)
   | (with_reducible exact LeO.refl _)
   | (with_reducible exact LeO.none _)
   | (with_reducible refine LeO.ite ?_ ?_)
   | (with_reducible refine LeO.bind ?_ (fun _ => ?_))
   | exact ih0 _ _ _
   | exact LeO.none _
   | refine LeO.ite ?_ ?_
   | refine LeO.bind ?_ (fun _ => ?_)
theorem row_Check.mono : ∀ a0 k, LeO (row_Check.f k a0) (row_Check.f (k + 1) a0) := by
 intro a0 k
 have ih0 := row_Check.mono_l k
 unfold row_Check.f
 repeat' first
   | (with_reducible exact ih0 _ _ _)
   | (with_reducible exact LeO.refl _)
   | (with_reducible exact LeO.none _)
   | (with_reducible refine LeO.ite ?_ ?_)
   | (with_reducible refine LeO.bind ?_ (fun _ => ?_))
   | exact ih0 _ _ _
   | exact LeO.none _
   | refine LeO.ite ?_ ?_
   | refine LeO.bind ?_ (fun _ => ?_)
set_option maxHeartbeats 8000000 in
set_option maxRecDepth 100000 in
theorem row_Check.calls (k : Nat) (A0 : Option Addr) (c0 : Nat) (l0 : List (S103)) (r : Int) (w : World) (hr0 : Kd.C k103 w A0 l0.length l0) (hc0 : l0.length ≤ c0) (h : row_Check.f k l0 = some r) :
  Calls Try.prog 52 #[.slice A0 l0.length c0] w fun e w' => e = .returned (.int .i64 r) ∧ Below w.heap.size w w' := by
 have hu103 := Try.underlying103; have HR0 := Aside0.mk hr0; have HC0 := Aside0.mk hc0; clear hr0 hc0; have HB := Aside0.mk (Below.refl w.heap.size w); have H : (if (l0.length : Int) > 16 then (some 3) else (row_Check.l0 k l0 (l0.length : Int) 0)) = some r := h; clear h; by_cases c2 : (l0.length : Int) > 16
 ·
  rw [if_pos c2] at H; have c2b0 : decide (16 < (l0.length : Int)) = true := decide_eq_true c2; have c2b1 : decide (16 < l0.length) = true := decide_eq_true (by omega); clear c2; obtain rfl := Option.some.inj H; go_enter Try.func52, Try.ntmps52
  go_wp2
  go_ret
  exact ⟨erq, bl⟩
 rw [if_neg c2] at H; have c2b0 : decide (16 < (l0.length : Int)) = false := decide_eq_false c2; have c2b1 : decide (16 < l0.length) = false := decide_eq_false (by omega); clear c2; have H' := Aside0.mk H; clear H; go_enter Try.func52, Try.ntmps52
 go_wp2
 go_loopg [10] k (fun kq v10 w' => ∃ (x10_1 : Int), v10 = .int .i64 x10_1 ∧ Aside0 (row_Check.l0 kq l0 (l0.length : Int) x10_1 = some r) ∧ Aside0 (kq ≤ k) ∧ Aside0 (Below w.heap.size w w'))
 case atStart => exact ⟨(0), rsd, H', ⟨Nat.le_refl _⟩, ⟨bl⟩⟩
 clear H'; (try clear c2); (try clear c2b0); (try clear c2b1); obtain ⟨x10_1, rfl, HA, HK1, HB⟩ := hrel; cases gk with
 | zero => exact absurd HA.out (by simp [row_Check.l0])
 | succ k1 =>
  have H := HA.out; clear HA; simp only [row_Check.l0] at H; by_cases c3 : x10_1 < (l0.length : Int)
  rotate_left
  ·
   rw [if_neg c3] at H; have c3b0 : decide (x10_1 < (l0.length : Int)) = false := decide_eq_false c3; clear c3; obtain rfl := Option.some.inj H; go_wp2
   go_ret
   exact ⟨erq, bl⟩

  rw [if_pos c3] at H; have c3b0 : decide (x10_1 < (l0.length : Int)) = true := decide_eq_true c3; clear c3; by_cases c4 : 0 ≤ x10_1
  rotate_left
  · rw [if_neg c4] at H; exact absurd H (by simp)
  rw [if_pos c4] at H; have c4b0 : decide (0 ≤ x10_1) = true := decide_eq_true c4; clear c4; by_cases c5 : x10_1 < (l0.length : Int)
  rotate_left
  · rw [if_neg c5] at H; exact absurd H (by simp)
  rw [if_pos c5] at H; have c5b0 : decide (x10_1 < (l0.length : Int)) = true := decide_eq_true c5; clear c5; by_cases c6 : ((rd_T103 l0 x10_1).f0) = 1
  rotate_left
  ·
   rw [if_neg c6] at H; have c6b0 : (((rd_T103 l0 x10_1).f0) == 1) = false := beq_eq_false_iff_ne.mpr c6; have c6b1 : (((rd_T103 l0 x10_1).f0) != 1) = true := bne_iff_ne.mpr c6; by_cases c12 : ((rd_T103 l0 x10_1).f0) = 0
   rotate_left
   ·
    rw [if_neg c12] at H; have c12b0 : (((rd_T103 l0 x10_1).f0) == 0) = false := beq_eq_false_iff_ne.mpr c12; have c12b1 : (((rd_T103 l0 x10_1).f0) != 0) = true := bne_iff_ne.mpr c12; obtain rfl := Option.some.inj H; have p142 : 0 ≤ (x10_1 : Int) := of_decide_eq_true asm; have q142 : x10_1 < (l0.length : Int) := of_decide_eq_true asm; obtain ⟨ad142, e142, hx142_0, hx142_1, hx142_2⟩ := at_T103 HR0.out x10_1 p142 q142; cases e142
    replace hx142_0 := bc HB.out hx142_0; replace hx142_1 := bc HB.out hx142_1; replace hx142_2 := bc HB.out hx142_2; replace p142 := eq_true p142; replace q142 := eq_true q142; go_wp2_with (first | ((with_reducible refine gate_dst (N := 4) rfl ?_); refine box_event ?hg (N := 4) ?hd (cs := #[.int .i64 0, .int .i64 0, .string (⟨#[]⟩ : ByteArray)]) (t := 103) ?hr ?_; (case hd => rfl); (case hg => rfl); (case hr => first | (go_simp; done) | (go_simp; rfl)); intro gb143 hg w15 hbox hb; have n0_ := Aside0.mk (below_step bl hb); have n1_ := Aside0.mk (hbox); have n2_ := Aside0.mk ((by rw [hg]; exact (below_size bl) : w.heap.size ≤ gb143)); have n3_ := Aside0.mk ((by rw [hg]; exact (below_size bl) : w.heap.size ≤ gb143)); clear HB; have HB := n0_; have BK143 := n1_; have GW143 := n2_; have GE143 := n3_; clear n0_ n1_ n2_ n3_; clear hb hbox hg; obtain ⟨hcz16_0, hcz16_1, hcz16_2⟩ := cells3 BK143.out; obtain ⟨hfz16_0, hfz16_1, hfz16_2⟩ := frz3 BK143.out))
    go_ret
    exact ⟨erq, bl⟩
   rw [if_pos c12] at H; have c12b0 : (((rd_T103 l0 x10_1).f0) == 0) = true := beq_iff_eq.mpr c12; have c12b1 : (((rd_T103 l0 x10_1).f0) != 0) = false := bne_eq_false_iff_eq.mpr c12; clear c12; have H' := Aside0.mk H; clear H; have p142 : 0 ≤ (x10_1 : Int) := of_decide_eq_true asm; have q142 : x10_1 < (l0.length : Int) := of_decide_eq_true asm; obtain ⟨ad142, e142, hx142_0, hx142_1, hx142_2⟩ := at_T103 HR0.out x10_1 p142 q142; cases e142
   replace hx142_0 := bc HB.out hx142_0; replace hx142_1 := bc HB.out hx142_1; replace hx142_2 := bc HB.out hx142_2; replace p142 := eq_true p142; replace q142 := eq_true q142; go_wp2_with (first | ((with_reducible refine gate_dst (N := 4) rfl ?_); refine box_event ?hg (N := 4) ?hd (cs := #[.int .i64 0, .int .i64 0, .string (⟨#[]⟩ : ByteArray)]) (t := 103) ?hr ?_; (case hd => rfl); (case hg => rfl); (case hr => first | (go_simp; done) | (go_simp; rfl)); intro gb143 hg w13 hbox hb; have n0_ := Aside0.mk (below_step bl hb); have n1_ := Aside0.mk (hbox); have n2_ := Aside0.mk ((by rw [hg]; exact (below_size bl) : w.heap.size ≤ gb143)); have n3_ := Aside0.mk ((by rw [hg]; exact (below_size bl) : w.heap.size ≤ gb143)); clear HB; have HB := n0_; have BK143 := n1_; have GW143 := n2_; have GE143 := n3_; clear n0_ n1_ n2_ n3_; clear hb hbox hg; obtain ⟨hcz14_0, hcz14_1, hcz14_2⟩ := cells3 BK143.out; obtain ⟨hfz14_0, hfz14_1, hfz14_2⟩ := frz3 BK143.out))
   go_roundg k1
   case measure => have := HK1.out; omega
   case rel => exact ⟨(wrap64 (x10_1 + 1)), rsd, H', ⟨by have := HK1.out; omega⟩, ⟨bl⟩⟩
  rw [if_pos c6] at H; have c6b0 : (((rd_T103 l0 x10_1).f0) == 1) = true := beq_iff_eq.mpr c6; have c6b1 : (((rd_T103 l0 x10_1).f0) != 1) = false := bne_eq_false_iff_eq.mpr c6; clear c6; by_cases c7 : (((rd_T103 l0 x10_1).f2).size : Int) > 4096
  ·
   rw [if_pos c7] at H; have c7b0 : decide (4096 < (((rd_T103 l0 x10_1).f2).size : Int)) = true := decide_eq_true c7; have c7b1 : decide (4096 < ((rd_T103 l0 x10_1).f2).size) = true := decide_eq_true (by omega); clear c7; obtain rfl := Option.some.inj H; have p142 : 0 ≤ (x10_1 : Int) := of_decide_eq_true asm; have q142 : x10_1 < (l0.length : Int) := of_decide_eq_true asm; obtain ⟨ad142, e142, hx142_0, hx142_1, hx142_2⟩ := at_T103 HR0.out x10_1 p142 q142; cases e142
   replace hx142_0 := bc HB.out hx142_0; replace hx142_1 := bc HB.out hx142_1; replace hx142_2 := bc HB.out hx142_2; replace p142 := eq_true p142; replace q142 := eq_true q142; go_wp2_with (first | ((with_reducible refine gate_dst (N := 4) rfl ?_); refine box_event ?hg (N := 4) ?hd (cs := #[.int .i64 0, .int .i64 0, .string (⟨#[]⟩ : ByteArray)]) (t := 103) ?hr ?_; (case hd => rfl); (case hg => rfl); (case hr => first | (go_simp; done) | (go_simp; rfl)); intro gb143 hg w8 hbox hb; have n0_ := Aside0.mk (below_step bl hb); have n1_ := Aside0.mk (hbox); have n2_ := Aside0.mk ((by rw [hg]; exact (below_size bl) : w.heap.size ≤ gb143)); have n3_ := Aside0.mk ((by rw [hg]; exact (below_size bl) : w.heap.size ≤ gb143)); clear HB; have HB := n0_; have BK143 := n1_; have GW143 := n2_; have GE143 := n3_; clear n0_ n1_ n2_ n3_; clear hb hbox hg; obtain ⟨hcz9_0, hcz9_1, hcz9_2⟩ := cells3 BK143.out; obtain ⟨hfz9_0, hfz9_1, hfz9_2⟩ := frz3 BK143.out))
   go_ret
   exact ⟨erq, bl⟩
  rw [if_neg c7] at H; have c7b0 : decide (4096 < (((rd_T103 l0 x10_1).f2).size : Int)) = false := decide_eq_false c7; have c7b1 : decide (4096 < ((rd_T103 l0 x10_1).f2).size) = false := decide_eq_false (by omega); clear c7; have H' := Aside0.mk H; clear H; have p142 : 0 ≤ (x10_1 : Int) := of_decide_eq_true asm; have q142 : x10_1 < (l0.length : Int) := of_decide_eq_true asm; obtain ⟨ad142, e142, hx142_0, hx142_1, hx142_2⟩ := at_T103 HR0.out x10_1 p142 q142; cases e142
  replace hx142_0 := bc HB.out hx142_0; replace hx142_1 := bc HB.out hx142_1; replace hx142_2 := bc HB.out hx142_2; replace p142 := eq_true p142; replace q142 := eq_true q142; go_wp2_with (first | ((with_reducible refine gate_dst (N := 4) rfl ?_); refine box_event ?hg (N := 4) ?hd (cs := #[.int .i64 0, .int .i64 0, .string (⟨#[]⟩ : ByteArray)]) (t := 103) ?hr ?_; (case hd => rfl); (case hg => rfl); (case hr => first | (go_simp; done) | (go_simp; rfl)); intro gb143 hg w10 hbox hb; have n0_ := Aside0.mk (below_step bl hb); have n1_ := Aside0.mk (hbox); have n2_ := Aside0.mk ((by rw [hg]; exact (below_size bl) : w.heap.size ≤ gb143)); have n3_ := Aside0.mk ((by rw [hg]; exact (below_size bl) : w.heap.size ≤ gb143)); clear HB; have HB := n0_; have BK143 := n1_; have GW143 := n2_; have GE143 := n3_; clear n0_ n1_ n2_ n3_; clear hb hbox hg; obtain ⟨hcz11_0, hcz11_1, hcz11_2⟩ := cells3 BK143.out; obtain ⟨hfz11_0, hfz11_1, hfz11_2⟩ := frz3 BK143.out))
  go_roundg k1
  case measure => have := HK1.out; omega
  case rel => exact ⟨(wrap64 (x10_1 + 1)), rsd, H', ⟨by have := HK1.out; omega⟩, ⟨bl⟩⟩
/-! ### wire_Check: function 21 -/
mutual
def wire_Check.j0 : Nat → Int → Bool → Int → Int → List (S103) → Int → Int → Int → List (S36) → Int → List Int → Option (Int)
 | 0, _, _, _, _, _, _, _, _, _, _, _ => none
 | k + 1, x3, x10, x145000, x145001, x145002, x145003, x145004, x145005, x145006, x145007, x145008 => if x10 = true then (some 2) else (if (Go.bits .and .i64 x3 32) > 0 then (wire_Check.j1 k x3 (decide ((x145006.length : Int) > 16)) x145000 x145001 x145002 x145003 x145004 x145005 x145006 x145007 x145008) else (wire_Check.j1 k x3 false x145000 x145001 x145002 x145003 x145004 x145005 x145006 x145007 x145008))
def wire_Check.j1 : Nat → Int → Bool → Int → Int → List (S103) → Int → Int → Int → List (S36) → Int → List Int → Option (Int)
 | 0, _, _, _, _, _, _, _, _, _, _, _ => none
 | k + 1, x3, x20, x145000, x145001, x145002, x145003, x145004, x145005, x145006, x145007, x145008 => if x20 = true then (some 3) else (if (Go.bits .and .i64 x3 8) > 0 then ((row_Check.f k x145002).bind fun t146 => (some t146)) else (some 0))
end
def wire_Check.f (k : Nat) (a0_0 : Int) (a0_1 : Int) (l0_2 : List (S103)) (a0_3 : Int) (a0_4 : Int) (a0_5 : Int) (l0_6 : List (S36)) (a0_7 : Int) (l0_8 : List Int) : Option (Int) := (wire_uses.f k a0_0).bind fun t145 => (if t145 = 0 then (some 8) else (if (Go.bits .and .i64 t145 4) > 0 then (wire_Check.j0 k t145 (decide ((l0_8.length : Int) > 65536)) a0_0 a0_1 l0_2 a0_3 a0_4 a0_5 l0_6 a0_7 l0_8) else (wire_Check.j0 k t145 false a0_0 a0_1 l0_2 a0_3 a0_4 a0_5 l0_6 a0_7 l0_8)))
theorem wire_Check.mono_l : ∀ k, (∀ y0 y1 y2 y3 y4 y5 y6 y7 y8 y9 y10, LeO (wire_Check.j0 k y0 y1 y2 y3 y4 y5 y6 y7 y8 y9 y10) (wire_Check.j0 (k + 1) y0 y1 y2 y3 y4 y5 y6 y7 y8 y9 y10)) ∧ (∀ y0 y1 y2 y3 y4 y5 y6 y7 y8 y9 y10, LeO (wire_Check.j1 k y0 y1 y2 y3 y4 y5 y6 y7 y8 y9 y10) (wire_Check.j1 (k + 1) y0 y1 y2 y3 y4 y5 y6 y7 y8 y9 y10))
 | 0 => ⟨fun _ _ _ _ _ _ _ _ _ _ _ r h => by simp [wire_Check.j0] at h, fun _ _ _ _ _ _ _ _ _ _ _ r h => by simp [wire_Check.j1] at h⟩
 | k + 1 => by
  obtain ⟨ih0, ih1⟩ := wire_Check.mono_l k; refine ⟨?_, ?_⟩
  ·
   intro y0 y1 y2 y3 y4 y5 y6 y7 y8 y9 y10; unfold wire_Check.j0
   repeat' first
   | (with_reducible exact ih0 _ _ _ _ _ _ _ _ _ _ _)
   | (with_reducible exact ih1 _ _ _ _ _ _ _ _ _ _ _)
   | (with_reducible exact row_Check.mono _ _)
   | (with_reducible exact wire_uses.mono _ _)
   | (with_reducible exact LeO.refl _)
   | (with_reducible exact LeO.none _)
   | (with_reducible refine LeO.ite ?_ ?_)
   | (with_reducible refine LeO.bind ?_ (fun _ => ?_))
   | exact ih0 _ _ _ _ _ _ _ _ _ _ _
   | exact ih1 _ _ _ _ _ _ _ _ _ _ _
   | exact row_Check.mono _ _
   | exact wire_uses.mono _ _
   | exact LeO.none _
   | refine LeO.ite ?_ ?_
   | refine LeO.bind ?_ (fun _ => ?_)
  ·
   intro y0 y1 y2 y3 y4 y5 y6 y7 y8 y9 y10; unfold wire_Check.j1
   repeat' first
   | (with_reducible exact ih0 _ _ _ _ _ _ _ _ _ _ _)
   | (with_reducible exact ih1 _ _ _ _ _ _ _ _ _ _ _)
   | (with_reducible exact row_Check.mono _ _)
   | (with_reducible exact wire_uses.mono _ _)
   | (with_reducible exact LeO.refl _)
   | (with_reducible exact LeO.none _)
   | (with_reducible refine LeO.ite ?_ ?_)
   | (with_reducible refine LeO.bind ?_ (fun _ => ?_))
   | exact ih0 _ _ _ _ _ _ _ _ _ _ _
   | exact ih1 _ _ _ _ _ _ _ _ _ _ _
   | exact row_Check.mono _ _
   | exact wire_uses.mono _ _
   | exact LeO.none _
   | refine LeO.ite ?_ ?_
   | refine LeO.bind ?_ (fun _ => ?_)
theorem wire_Check.mono : ∀ a0 a1 a2 a3 a4 a5 a6 a7 a8 k, LeO (wire_Check.f k a0 a1 a2 a3 a4 a5 a6 a7 a8) (wire_Check.f (k + 1) a0 a1 a2 a3 a4 a5 a6 a7 a8) := by
 intro a0 a1 a2 a3 a4 a5 a6 a7 a8 k; obtain ⟨ih0, ih1⟩ := wire_Check.mono_l k; unfold wire_Check.f
 repeat' first
   | (with_reducible exact ih0 _ _ _ _ _ _ _ _ _ _ _)
   | (with_reducible exact ih1 _ _ _ _ _ _ _ _ _ _ _)
   | (with_reducible exact row_Check.mono _ _)
   | (with_reducible exact wire_uses.mono _ _)
   | (with_reducible exact LeO.refl _)
   | (with_reducible exact LeO.none _)
   | (with_reducible refine LeO.ite ?_ ?_)
   | (with_reducible refine LeO.bind ?_ (fun _ => ?_))
   | exact ih0 _ _ _ _ _ _ _ _ _ _ _
   | exact ih1 _ _ _ _ _ _ _ _ _ _ _
   | exact row_Check.mono _ _
   | exact wire_uses.mono _ _
   | exact LeO.none _
   | refine LeO.ite ?_ ?_
   | refine LeO.bind ?_ (fun _ => ?_)
set_option maxHeartbeats 8000000 in
set_option maxRecDepth 100000 in
theorem wire_Check.calls (k : Nat) (a0_0 : Int) (a0_1 : Int) (A0_2 : Option Addr) (c0_2 : Nat) (l0_2 : List (S103)) (a0_3 : Int) (a0_4 : Int) (a0_5 : Int) (A0_6 : Option Addr) (c0_6 : Nat) (l0_6 : List (S36)) (a0_7 : Int) (A0_8 : Option Addr) (c0_8 : Nat) (l0_8 : List Int) (r : Int) (w : World) (hr0_2 : Kd.C k103 w A0_2 l0_2.length l0_2) (hc0_2 : l0_2.length ≤ c0_2) (hr0_6 : Kd.C k36 w A0_6 l0_6.length l0_6) (hc0_6 : l0_6.length ≤ c0_6) (hr0_8 : Kd.C (Kd.int .u8) w A0_8 l0_8.length l0_8) (hc0_8 : l0_8.length ≤ c0_8) (h : wire_Check.f k a0_0 a0_1 l0_2 a0_3 a0_4 a0_5 l0_6 a0_7 l0_8 = some r) :
  Calls Try.prog 21 #[.agg #[.int .i64 a0_0, .int .i64 a0_1, .slice A0_2 l0_2.length c0_2, .int .i64 a0_3, .int .i64 a0_4, .int .i64 a0_5, .slice A0_6 l0_6.length c0_6, .int .i64 a0_7, .slice A0_8 l0_8.length c0_8]] w fun e w' => e = .returned (.int .i64 r) ∧ Below w.heap.size w w' := by
 have hu40 := Try.underlying40; have HR0_2 := Aside0.mk hr0_2; have HC0_2 := Aside0.mk hc0_2; clear hr0_2 hc0_2; have HR0_6 := Aside0.mk hr0_6; have HC0_6 := Aside0.mk hc0_6; clear hr0_6 hc0_6; have HR0_8 := Aside0.mk hr0_8; have HC0_8 := Aside0.mk hc0_8; clear hr0_8 hc0_8; have HB := Aside0.mk (Below.refl w.heap.size w); have H : ((wire_uses.f k a0_0).bind fun t145 => (if t145 = 0 then (some 8) else (if (Go.bits .and .i64 t145 4) > 0 then (wire_Check.j0 k t145 (decide ((l0_8.length : Int) > 65536)) a0_0 a0_1 l0_2 a0_3 a0_4 a0_5 l0_6 a0_7 l0_8) else (wire_Check.j0 k t145 false a0_0 a0_1 l0_2 a0_3 a0_4 a0_5 l0_6 a0_7 l0_8)))) = some r := h; clear h; replace H := Option.bind_eq_some_iff.mp H; obtain ⟨t145, A20, H⟩ := H; replace H : (if t145 = 0 then (some 8) else (if (Go.bits .and .i64 t145 4) > 0 then (wire_Check.j0 k t145 (decide ((l0_8.length : Int) > 65536)) a0_0 a0_1 l0_2 a0_3 a0_4 a0_5 l0_6 a0_7 l0_8) else (wire_Check.j0 k t145 false a0_0 a0_1 l0_2 a0_3 a0_4 a0_5 l0_6 a0_7 l0_8))) = some r := H; have A2 := Aside0.mk A20; clear A20; by_cases c3 : t145 = 0
 ·
  rw [if_pos c3] at H; have c3b0 : (t145 == 0) = true := beq_iff_eq.mpr c3; have c3b1 : (t145 != 0) = false := bne_eq_false_iff_eq.mpr c3; clear c3; obtain rfl := Option.some.inj H; go_enter Try.func21, Try.ntmps21
  go_wp2_with (first | ((with_reducible refine gate_dst (N := 1) rfl ?_); (try (refine gate_guard (by rfl) ?_; dsimp only)); refine box_event ?hg (N := 1) ?hd (cs := #[.int .i64 a0_0, .int .i64 a0_1, .slice A0_2 l0_2.length c0_2, .int .i64 a0_3, .int .i64 a0_4, .int .i64 a0_5, .slice A0_6 l0_6.length c0_6, .int .i64 a0_7, .slice A0_8 l0_8.length c0_8]) (t := 40) ?hr ?_; (case hd => rfl); (case hg => rfl); (case hr => first | (go_simp; done) | (go_simp; rfl)); intro gb144 hg w4 hbox hb; have n0_ := Aside0.mk (below_step bl hb); have n1_ := Aside0.mk (hbox); have n2_ := Aside0.mk ((by rw [hg]; exact (below_size bl) : w.heap.size ≤ gb144)); have n3_ := Aside0.mk ((by rw [hg]; exact (below_size bl) : w.heap.size ≤ gb144)); clear HB; have HB := n0_; have BK144 := n1_; have GW144 := n2_; have GE144 := n3_; clear n0_ n1_ n2_ n3_; clear hb hbox hg; obtain ⟨hcz5_0, hcz5_1, hcz5_2, hcz5_3, hcz5_4, hcz5_5, hcz5_6, hcz5_7, hcz5_8⟩ := cells9 BK144.out; have hfz5_0 := blk_frozen BK144.out 0; have hfz5_1 := blk_frozen BK144.out 1; have hfz5_2 := blk_frozen BK144.out 2; have hfz5_3 := blk_frozen BK144.out 3; have hfz5_4 := blk_frozen BK144.out 4; have hfz5_5 := blk_frozen BK144.out 5; have hfz5_6 := blk_frozen BK144.out 6; have hfz5_7 := blk_frozen BK144.out 7; have hfz5_8 := blk_frozen BK144.out 8) | ((with_reducible refine gate_callee (f := 35) rfl ?_); refine goesL_ (some 6) rfl rfl Try.func35 (by kernel_rfl) rfl #[.int .i64 a0_0] rfl mpq ?_; (with_reducible refine (wire_uses.calls k a0_0 t145 _ A2.out).mono ?_); rintro e w' ⟨rfl, ⟨nd, rfl⟩⟩; refine ⟨_, rfl, ?_⟩))
  go_ret
  exact ⟨erq, bl⟩
 rw [if_neg c3] at H; have c3b0 : (t145 == 0) = false := beq_eq_false_iff_ne.mpr c3; have c3b1 : (t145 != 0) = true := bne_iff_ne.mpr c3; have HC6 := Aside0.mk H; clear H; go_enter Try.func21, Try.ntmps21
 go_upto_region 4 with (first | ((with_reducible refine gate_dst (N := 1) rfl ?_); (try (refine gate_guard (by rfl) ?_; dsimp only)); refine box_event ?hg (N := 1) ?hd (cs := #[.int .i64 a0_0, .int .i64 a0_1, .slice A0_2 l0_2.length c0_2, .int .i64 a0_3, .int .i64 a0_4, .int .i64 a0_5, .slice A0_6 l0_6.length c0_6, .int .i64 a0_7, .slice A0_8 l0_8.length c0_8]) (t := 40) ?hr ?_; (case hd => rfl); (case hg => rfl); (case hr => first | (go_simp; done) | (go_simp; rfl)); intro gb144 hg w7 hbox hb; have n0_ := Aside0.mk (below_step bl hb); have n1_ := Aside0.mk (hbox); have n2_ := Aside0.mk ((by rw [hg]; exact (below_size bl) : w.heap.size ≤ gb144)); have n3_ := Aside0.mk ((by rw [hg]; exact (below_size bl) : w.heap.size ≤ gb144)); clear HB; have HB := n0_; have BK144 := n1_; have GW144 := n2_; have GE144 := n3_; clear n0_ n1_ n2_ n3_; clear hb hbox hg; obtain ⟨hcz8_0, hcz8_1, hcz8_2, hcz8_3, hcz8_4, hcz8_5, hcz8_6, hcz8_7, hcz8_8⟩ := cells9 BK144.out; have hfz8_0 := blk_frozen BK144.out 0; have hfz8_1 := blk_frozen BK144.out 1; have hfz8_2 := blk_frozen BK144.out 2; have hfz8_3 := blk_frozen BK144.out 3; have hfz8_4 := blk_frozen BK144.out 4; have hfz8_5 := blk_frozen BK144.out 5; have hfz8_6 := blk_frozen BK144.out 6; have hfz8_7 := blk_frozen BK144.out 7; have hfz8_8 := blk_frozen BK144.out 8) | ((with_reducible refine gate_callee (f := 35) rfl ?_); refine goesL_ (some 6) rfl rfl Try.func35 (by kernel_rfl) rfl #[.int .i64 a0_0] rfl mpq ?_; (with_reducible refine (wire_uses.calls k a0_0 t145 _ A2.out).mono ?_); rintro e w' ⟨rfl, ⟨nd, rfl⟩⟩; refine ⟨_, rfl, ?_⟩))
 (try simp only [Act.put, List.setIfInBounds_toArray, List.set_cons_zero, List.set_cons_succ]); go_cut [10] (fun v10 wc => ∃ (kq : Nat) (x10_5 : Bool), v10 = .bool x10_5 ∧ Aside0 (wire_Check.j0 kq t145 x10_5 a0_0 a0_1 l0_2 a0_3 a0_4 a0_5 l0_6 a0_7 l0_8 = some r) ∧ Aside0 (kq ≤ k) ∧ Aside0 (wc.heap[gb144]? = some (.cells #[.int .i64 a0_0, .int .i64 a0_1, (.slice A0_2 l0_2.length c0_2), .int .i64 a0_3, .int .i64 a0_4, .int .i64 a0_5, (.slice A0_6 l0_6.length c0_6), .int .i64 a0_7, (.slice A0_8 l0_8.length c0_8)] 40 (0, 0))) ∧ Aside0 (Below w.heap.size w wc))
 case first =>
  have H := HC6.out; clear HC6; by_cases c9 : (Go.bits .and .i64 t145 4) > 0
  rotate_left
  ·
   rw [if_neg c9] at H; have c9b0 : decide (0 < (Go.bits .and .i64 t145 4)) = false := decide_eq_false c9; clear c9; (first | rw [c9b0] | (simp only [i64_w, i32_w]; rw [c9b0]) | skip); have H' := Aside0.mk H; clear H; go_wp2
   go_meet
   case rel => exact ⟨_, (false), rsd, H', ⟨by first | omega | exact Nat.le_refl _⟩, ⟨bp BK144.out⟩, ⟨bl⟩⟩
  rw [if_pos c9] at H; have c9b0 : decide (0 < (Go.bits .and .i64 t145 4)) = true := decide_eq_true c9; clear c9; (first | rw [c9b0] | (simp only [i64_w, i32_w]; rw [c9b0]) | skip); have H' := Aside0.mk H; clear H; obtain ⟨hcz10_0, hcz10_1, hcz10_2, hcz10_3, hcz10_4, hcz10_5, hcz10_6, hcz10_7, hcz10_8⟩ := cells9 BK144.out; obtain ⟨hfz10_0, hfz10_1, hfz10_2, hfz10_3, hfz10_4, hfz10_5, hfz10_6, hfz10_7, hfz10_8⟩ := frz9 BK144.out; go_wp2
  go_meet
  case rel => exact ⟨_, (decide ((l0_8.length : Int) > 65536)), rsd, H', ⟨by first | omega | exact Nat.le_refl _⟩, ⟨bp BK144.out⟩, ⟨bl⟩⟩
 clear HC6; (try clear c3); (try clear c3b0); (try clear c3b1); (try clear hcz8_0); (try clear hcz8_1); (try clear hcz8_2); (try clear hcz8_3); (try clear hcz8_4); (try clear hcz8_5); (try clear hcz8_6); (try clear hcz8_7); (try clear hcz8_8); (try clear hfz8_0); (try clear hfz8_1); (try clear hfz8_2); (try clear hfz8_3); (try clear hfz8_4); (try clear hfz8_5); (try clear hfz8_6); (try clear hfz8_7); (try clear hfz8_8); obtain ⟨kq, x10_5, rfl, HA, HJ5, BK144, HB⟩ := hcut; cases kq with
 | zero => exact absurd HA.out (by simp [wire_Check.j0])
 | succ kj5 =>
  have H := HA.out; clear HA; simp only [wire_Check.j0] at H; by_cases c11 : x10_5 = true
  ·
   subst c11; have H1 : (some 2) = some r := by rw [if_pos rfl] at H; exact H
   clear H; have H := H1; clear H1; obtain rfl := Option.some.inj H; go_wp2
   go_ret
   exact ⟨erq, bl⟩
  replace c11 := Bool.eq_false_iff.mpr c11; subst c11; have H1 : (if (Go.bits .and .i64 t145 32) > 0 then (wire_Check.j1 kj5 t145 (decide ((l0_6.length : Int) > 16)) a0_0 a0_1 l0_2 a0_3 a0_4 a0_5 l0_6 a0_7 l0_8) else (wire_Check.j1 kj5 t145 false a0_0 a0_1 l0_2 a0_3 a0_4 a0_5 l0_6 a0_7 l0_8)) = some r := by rw [if_neg (show ¬ (false = true) by decide)] at H; exact H
  clear H; have H := H1; clear H1; have HC12 := Aside0.mk H; clear H; go_upto_region 6 with (fail); go_cut [20] (fun v20 wc => ∃ (kq : Nat) (x20_11 : Bool), v20 = .bool x20_11 ∧ Aside0 (wire_Check.j1 kq t145 x20_11 a0_0 a0_1 l0_2 a0_3 a0_4 a0_5 l0_6 a0_7 l0_8 = some r) ∧ Aside0 (kq ≤ kj5) ∧ Aside0 (wc.heap[gb144]? = some (.cells #[.int .i64 a0_0, .int .i64 a0_1, (.slice A0_2 l0_2.length c0_2), .int .i64 a0_3, .int .i64 a0_4, .int .i64 a0_5, (.slice A0_6 l0_6.length c0_6), .int .i64 a0_7, (.slice A0_8 l0_8.length c0_8)] 40 (0, 0))) ∧ Aside0 (Below w.heap.size w wc))
  case first =>
   have H := HC12.out; clear HC12; by_cases c13 : (Go.bits .and .i64 t145 32) > 0
   rotate_left
   ·
    rw [if_neg c13] at H; have c13b0 : decide (0 < (Go.bits .and .i64 t145 32)) = false := decide_eq_false c13; clear c13; (first | rw [c13b0] | (simp only [i64_w, i32_w]; rw [c13b0]) | skip); have H' := Aside0.mk H; clear H; go_wp2
    go_meet
    case rel => exact ⟨_, (false), rsd, H', ⟨by have := HJ5.out; first | omega | exact Nat.le_refl _⟩, ⟨bp BK144.out⟩, ⟨bl⟩⟩
   rw [if_pos c13] at H; have c13b0 : decide (0 < (Go.bits .and .i64 t145 32)) = true := decide_eq_true c13; clear c13; (first | rw [c13b0] | (simp only [i64_w, i32_w]; rw [c13b0]) | skip); have H' := Aside0.mk H; clear H; obtain ⟨hcz14_0, hcz14_1, hcz14_2, hcz14_3, hcz14_4, hcz14_5, hcz14_6, hcz14_7, hcz14_8⟩ := cells9 BK144.out; obtain ⟨hfz14_0, hfz14_1, hfz14_2, hfz14_3, hfz14_4, hfz14_5, hfz14_6, hfz14_7, hfz14_8⟩ := frz9 BK144.out; go_wp2
   go_meet
   case rel => exact ⟨_, (decide ((l0_6.length : Int) > 16)), rsd, H', ⟨by have := HJ5.out; first | omega | exact Nat.le_refl _⟩, ⟨bp BK144.out⟩, ⟨bl⟩⟩
  clear HC12; (try clear c3); (try clear c3b0); (try clear c3b1); (try clear c11); (try clear hcz8_0); (try clear hcz8_1); (try clear hcz8_2); (try clear hcz8_3); (try clear hcz8_4); (try clear hcz8_5); (try clear hcz8_6); (try clear hcz8_7); (try clear hcz8_8); (try clear hfz8_0); (try clear hfz8_1); (try clear hfz8_2); (try clear hfz8_3); (try clear hfz8_4); (try clear hfz8_5); (try clear hfz8_6); (try clear hfz8_7); (try clear hfz8_8); obtain ⟨kq, x20_11, rfl, HA, HJ11, BK144, HB⟩ := hcut; cases kq with
  | zero => exact absurd HA.out (by simp [wire_Check.j1])
  | succ kj11 =>
   have H := HA.out; clear HA; simp only [wire_Check.j1] at H; by_cases c15 : x20_11 = true
   ·
    subst c15; have H1 : (some 3) = some r := by rw [if_pos rfl] at H; exact H
    clear H; have H := H1; clear H1; obtain rfl := Option.some.inj H; go_wp2
    go_ret
    exact ⟨erq, bl⟩
   replace c15 := Bool.eq_false_iff.mpr c15; subst c15; have H1 : (if (Go.bits .and .i64 t145 8) > 0 then ((row_Check.f kj11 l0_2).bind fun t146 => (some t146)) else (some 0)) = some r := by rw [if_neg (show ¬ (false = true) by decide)] at H; exact H
   clear H; have H := H1; clear H1; by_cases c16 : (Go.bits .and .i64 t145 8) > 0
   rotate_left
   ·
    rw [if_neg c16] at H; have c16b0 : decide (0 < (Go.bits .and .i64 t145 8)) = false := decide_eq_false c16; clear c16; obtain rfl := Option.some.inj H; go_wp2
    go_ret
    exact ⟨erq, bl⟩

   rw [if_pos c16] at H; have c16b0 : decide (0 < (Go.bits .and .i64 t145 8)) = true := decide_eq_true c16; clear c16; replace H := Option.bind_eq_some_iff.mp H; obtain ⟨t146, A170, H⟩ := H; replace H : (some t146) = some r := H; have A17 := Aside0.mk A170; clear A170; obtain rfl := Option.some.inj H; obtain ⟨hcz18_0, hcz18_1, hcz18_2, hcz18_3, hcz18_4, hcz18_5, hcz18_6, hcz18_7, hcz18_8⟩ := cells9 BK144.out; obtain ⟨hfz18_0, hfz18_1, hfz18_2, hfz18_3, hfz18_4, hfz18_5, hfz18_6, hfz18_7, hfz18_8⟩ := frz9 BK144.out; go_wp2_with (first | ((with_reducible refine gate_callee (f := 52) rfl ?_); refine goesL_ (some 37) rfl rfl Try.func52 (by kernel_rfl) rfl #[.slice A0_2 l0_2.length c0_2] rfl mpq ?_; (with_reducible refine (row_Check.calls kj11 _ _ l0_2 t146 _ ?side1 ?side2 A17.out).mono ?_); (case side1 => exact cp ((Kd.C_below HR0_2.out HB.out))); (case side2 => exact HC0_2.out); rintro e w19 ⟨rfl, hb⟩; refine ⟨_, rfl, ?_⟩; have n0_ := Aside0.mk (blk_below (g := gb144) (o := .cells #[.int .i64 a0_0, .int .i64 a0_1, .slice A0_2 l0_2.length c0_2, .int .i64 a0_3, .int .i64 a0_4, .int .i64 a0_5, .slice A0_6 l0_6.length c0_6, .int .i64 a0_7, .slice A0_8 l0_8.length c0_8] 40 (0, 0)) bk hb); have n1_ := Aside0.mk (below_step bl hb); clear BK144; clear HB; have BK144 := n0_; have HB := n1_; clear n0_ n1_; (try clear hb); (try clear hb2); (try clear hk); (try clear hi)))
   go_ret
   exact ⟨erq, bl⟩
/-! ### slices_Clone_byte_byte: function 47 -/
def slices_Clone_byte_byte.f (l0 : List Int) : Option (List Int) := (some (([] : List Int) : List Int)).bind fun y147 => (if y147.length + l0.length < 140737488355328 then (some (y147 ++ l0)) else (none))
set_option maxHeartbeats 8000000 in
set_option maxRecDepth 100000 in
theorem slices_Clone_byte_byte.calls (A0 : Option Addr) (c0 : Nat) (l0 : List Int) (r : List Int) (w : World) (hr0 : Kd.C (Kd.int .u8) w A0 l0.length l0) (hc0 : l0.length ≤ c0) (h : slices_Clone_byte_byte.f l0 = some r) :
  Calls Try.prog 47 #[.slice A0 l0.length c0] w fun e w' => ∃ v0_ : Value, e = .returned (v0_) ∧ Kd.R (Kd.int .u8) 5 w' w.heap.size (fun _ => True) v0_ r ∧ Below w.heap.size w w' := by
 have HR0 := Aside0.mk hr0; have HC0 := Aside0.mk hc0; clear hr0 hc0; have HB := Aside0.mk (Below.refl w.heap.size w); have H : ((some (([] : List Int) : List Int)).bind fun y147 => (if y147.length + l0.length < 140737488355328 then (some (y147 ++ l0)) else (none))) = some r := h; clear h; obtain ⟨y147, hy147⟩ : ∃ y_ : List Int, y_ = (([] : List Int)) := ⟨_, rfl⟩; replace H : (if y147.length + l0.length < 140737488355328 then (some (y147 ++ l0)) else (none)) = some r := by first | (rw [hy147]; with_reducible exact H) | (have H2_ := (Option.bind_some _ _).symm.trans H; rw [hy147]; with_reducible exact H2_) | (have H2_ := (Option.bind_some _ _).symm.trans H; with_reducible exact H2_) | with_reducible exact H | (rw [hy147]; exact H) | exact H
 have Ny147 := Aside0.mk hy147; clear hy147; by_cases c2 : y147.length + l0.length < 140737488355328
 rotate_left
 · rw [if_neg c2] at H; exact absurd H (by simp)

 rw [if_pos c2] at H; have LMc2 := Aside0.mk c2; clear c2; obtain ⟨y150, hy150⟩ : ∃ y_ : List Int, y_ = (y147 ++ l0) := ⟨_, rfl⟩; replace H : (some y150) = some r := by first | (rw [hy150]; with_reducible exact H) | (have H2_ := (Option.bind_some _ _).symm.trans H; rw [hy150]; with_reducible exact H2_) | (have H2_ := (Option.bind_some _ _).symm.trans H; with_reducible exact H2_) | with_reducible exact H | (rw [hy150]; exact H) | exact H
 have Ny150 := Aside0.mk hy150; clear hy150; obtain rfl := Option.some.inj H; rcases A0 with _ | ad0
 ·
  have hnil : Aside0 (l0 = []) := Aside0.mk (by
   rcases Nat.eq_zero_or_pos l0.length with h0 | h0
   · exact List.eq_nil_of_length_eq_zero h0
   · obtain ⟨ad, he, _⟩ := HR0.out.2.2 h0; cases he)
  have hne : ∀ W, (binOp .eql 22 (.slice none l0.length c0) (.slice none 0 0)).run Try.prog W = .ok (.bool true) W := fun W => Lib.run_eql_slice_nil (P := Try.prog) W 22 5 none _ _ 0 0 Try.underlying22
  go_enter Try.func47, Try.ntmps47
  go_wp2
  go_ret
  exact ⟨_, rfl, (by rw [Ny150.out, Ny147.out, hnil.out]; exact Kd.R_nil _ _ _ _ _), bl⟩
 ·
  have hne : ∀ W, (binOp .eql 22 (.slice (some ad0) l0.length c0) (.slice none 0 0)).run Try.prog W = .ok (.bool false) W := fun W => Lib.run_eql_slice_nil (P := Try.prog) W 22 5 (some ad0) _ _ 0 0 Try.underlying22
  go_enter Try.func47, Try.ntmps47
  go_wp2_with (first | ((with_reducible refine gate_dst (N := 5) rfl ?_); refine Kd.R_lit (Kd.int .u8) _ 5 ?hg (N := 5) ?hd (xs := ([] : List Int)) (inner := []) (ok := fun _ => True) (okp := fun _ => True) ?hr ?hp (fun _ hk => hk) trivial (Below.refl _ _) (Nat.le_refl _) (by simp) ?_; (case hd => rfl); (case hg => rfl); (case hr => first | (go_simp; done) | (go_simp; rfl)); (case hp => exact (Reps.none _ _)); intro v148 w3 ho4 hb hg_ hnew_; clear hg_ hnew_; (first | rw [← Ny147.out] at ho4 | (simp only [Int.reduceToNat] at ho4; rw [← Ny147.out] at ho4)); have n0_ := Aside0.mk (Kd.R_lower ho4 (below_size bl)); have n1_ := Aside0.mk (below_step bl hb); clear HB; have HO149 := n0_; have HB := n1_; clear n0_ n1_; clear hb ho4) | ((with_reducible refine gate_builtin (b := .append) (xs := #[.tmp 5, .tmp 6]) rfl ?_); at_builtin; refine Kd.R_append_rows (Kd.int .u8) (w0 := w) w.heap.size rfl (.tmp 5) (.tmp 6) 22 5 (.int .u8 0) 1 rfl Try.underlying22 info5 rfl (by decide) (by omega) v148 y147 l0 _ _ _ (fun _ => True) (fun _ => False) rfl rfl ?aO ?aR (fun _ _ h => h) (fun _ h => h.elim) ?aF ?aB ?aS ?aL ?_; (case aR => exact cp ((Kd.C_below HR0.out HB.out))); (case aB => exact bl); (case aF => exact (fun _ _ => trivial)); (case aO => exact (rp HO149.out)); (case aS => exact (below_size bl)); (case aL => have := LMc2.out; omega); intro v151 w5 ho hb hg hat; rw [← Ny150.out] at ho; have n0_ := Aside0.mk (hb); have n1_ := Aside0.mk (ho); clear HB; clear HO149; have HB := n0_; have HO152 := n1_; clear n0_ n1_; clear ho hb hg hat))
  go_ret
  exact ⟨_, erq, rp HO152.out, bl⟩
/-! ### num_PutText: function 49 -/
def num_PutText.f (k : Nat) (l0 : List Int) (a1 : ByteArray) : Option (List Int) := (num_fresh.f l0).bind fun t153 => ((num_put.f k t153 (IntKind.u64.wrap ((a1.size : Int)))).bind fun t156 => (if t156.length + a1.size < 140737488355328 then (some (t156 ++ bytesOf a1)) else (none)))
theorem num_PutText.mono : ∀ a0 a1 k, LeO (num_PutText.f k a0 a1) (num_PutText.f (k + 1) a0 a1) := by
 intro a0 a1 k; unfold num_PutText.f
 repeat' first
   | (with_reducible exact num_put.mono _ _ _)
   | (with_reducible exact LeO.refl _)
   | (with_reducible exact LeO.none _)
   | (with_reducible refine LeO.ite ?_ ?_)
   | (with_reducible refine LeO.bind ?_ (fun _ => ?_))
   | exact num_put.mono _ _ _
   | exact LeO.none _
   | refine LeO.ite ?_ ?_
   | refine LeO.bind ?_ (fun _ => ?_)
set_option maxHeartbeats 8000000 in
set_option maxRecDepth 100000 in
theorem num_PutText.calls (k : Nat) (A0 : Option Addr) (c0 : Nat) (l0 : List Int) (a1 : ByteArray) (r : List Int) (w : World) (hr0 : Kd.C (Kd.int .u8) w A0 l0.length l0) (hc0 : l0.length ≤ c0) (h : num_PutText.f k l0 a1 = some r) :
  Calls Try.prog 49 #[.slice A0 l0.length c0, .string a1] w fun e w' => ∃ v0_ : Value, e = .returned (v0_) ∧ Kd.R (Kd.int .u8) 5 w' w.heap.size (fun _ => True) v0_ r ∧ Below w.heap.size w w' := by
 have HR0 := Aside0.mk hr0; have HC0 := Aside0.mk hc0; clear hr0 hc0; have HB := Aside0.mk (Below.refl w.heap.size w); have H : ((num_fresh.f l0).bind fun t153 => ((num_put.f k t153 (IntKind.u64.wrap ((a1.size : Int)))).bind fun t156 => (if t156.length + a1.size < 140737488355328 then (some (t156 ++ bytesOf a1)) else (none)))) = some r := h; clear h; replace H := Option.bind_eq_some_iff.mp H; obtain ⟨t153, A30, H⟩ := H; replace H : ((num_put.f k t153 (IntKind.u64.wrap ((a1.size : Int)))).bind fun t156 => (if t156.length + a1.size < 140737488355328 then (some (t156 ++ bytesOf a1)) else (none))) = some r := H; have A3 := Aside0.mk A30; clear A30; replace H := Option.bind_eq_some_iff.mp H; obtain ⟨t156, A40, H⟩ := H; replace H : (if t156.length + a1.size < 140737488355328 then (some (t156 ++ bytesOf a1)) else (none)) = some r := H; have A4 := Aside0.mk A40; clear A40; by_cases c5 : t156.length + a1.size < 140737488355328
 rotate_left
 · rw [if_neg c5] at H; exact absurd H (by simp)

 rw [if_pos c5] at H; have LMc5 := Aside0.mk c5; clear c5; obtain ⟨y159, hy159⟩ : ∃ y_ : List Int, y_ = (t156 ++ bytesOf a1) := ⟨_, rfl⟩; replace H : (some y159) = some r := by first | (rw [hy159]; with_reducible exact H) | (have H2_ := (Option.bind_some _ _).symm.trans H; rw [hy159]; with_reducible exact H2_) | (have H2_ := (Option.bind_some _ _).symm.trans H; with_reducible exact H2_) | with_reducible exact H | (rw [hy159]; exact H) | exact H
 have Ny159 := Aside0.mk hy159; clear hy159; obtain rfl := Option.some.inj H; go_enter Try.func49, Try.ntmps49
 go_wp2_with (first | ((with_reducible refine gate_callee (f := 59) rfl ?_); refine goesL_ (some 6) rfl rfl Try.func59 (by kernel_rfl) rfl #[.slice A0 l0.length c0] rfl mpq ?_; (with_reducible refine (num_fresh.calls _ _ l0 t153 _ ?side1 ?side2 A3.out).mono ?_); (case side1 => exact cp (HR0.out)); (case side2 => exact HC0.out); rintro e w6 ⟨v154, rfl, ho0, hb⟩; refine ⟨_, rfl, ?_⟩; have n0_ := Aside0.mk (Kd.R_lower ho0 (below_size bl)); have n1_ := Aside0.mk (below_step bl hb); clear HB; have HO155 := n0_; have HB := n1_; clear n0_ n1_; (try clear hb); (try clear hb2); (try clear hk); (try clear hi); (try clear ho0); obtain ⟨Ao7, co7, eo7⟩ := Kd.R_slice HO155.out; subst eo7) | ((with_reducible refine gate_callee (f := 58) rfl ?_); refine goesL_ (some 10) rfl rfl Try.func58 (by kernel_rfl) rfl #[.slice Ao7 t153.length co7, .int .u64 (IntKind.u64.wrap ((a1.size : Int)))] rfl mpq ?_; (with_reducible refine (num_put.calls k (fun k_ => some k_ = (.slice Ao7 t153.length co7 : Value).ownBlock) (.slice Ao7 t153.length co7) t153 (IntKind.u64.wrap ((a1.size : Int))) t156 w _ ?side1 ?side2 A4.out).mono ?_); (case side1 => repeat (first | (with_reducible first | exact HB.out | apply below_alloc | apply pw_below_drewN | apply below_drew1) | exact HB.out)); (case side2 => exact Kd.R_tight rfl HO155.out); rintro e w8 ⟨v157, rfl, ho0, hb, hkp⟩; refine ⟨_, rfl, ?_⟩; have n0_ := Aside0.mk (Kd.R_mono (ok' := fun k_ => True) ho0 (fun k_ hk_ => trivial)); have n1_ := Aside0.mk (hb); clear HB; clear HO155; have HO158 := n0_; have HB := n1_; clear n0_ n1_; (try clear hb); (try clear hkp); (try clear ho0)) | (at_builtin; refine print_append_str (w0 := w) w.heap.size rfl (.tmp 10) _ 22 9 5 rfl Try.underlying22 Try.underlying9 info5 v157 t156 a1 rfl rfl ?aO ?aB ?aS ?aL ?_; (case aB => exact bl); (case aO => exact (Kd.own_of_R (rp HO158.out))); (case aS => exact (below_size bl)); (case aL => have := LMc5.out; omega); intro v160 w9 ho0 hb hg; have ho := Kd.R_of_own (h1 := fun _ => rfl) (ok := fun _ => True) ho0 (fun _ _ => trivial); clear ho0; have hat := True.intro; rw [← Ny159.out] at ho; change Kd.R (Kd.int .u8) 5 w9 w.heap.size (fun _ => True) v160 y159 at ho; have n0_ := Aside0.mk (hb); have n1_ := Aside0.mk (ho); clear HB; clear HO158; have HB := n0_; have HO161 := n1_; clear n0_ n1_; clear ho hb hg hat))
 go_ret
 exact ⟨_, erq, rp HO161.out, bl⟩
/-! ### row_Put: function 50 -/
def row_Put.l0 : Nat → List Int → List (S103) → Int → Int → Option (List Int × Int)
 | 0, _, _, _, _ => none
 | k + 1, x0, x19, x20, x21 => if x21 < x20 then (if 0 ≤ x21 then (if x21 < (x19.length : Int) then (if x0.length < 140737488355328 then ((some (x0 ++ [((rd_T103 x19 x21).f0) % 256] : List Int)).bind fun y168 => (if ((rd_T103 x19 x21).f0) = 0 then ((num_PutInt.f k y168 ((rd_T103 x19 x21).f1)).bind fun t171 => (row_Put.l0 k t171 x19 x20 (wrap64 (x21 + 1)))) else ((num_PutText.f k y168 ((rd_T103 x19 x21).f2)).bind fun t174 => (row_Put.l0 k t174 x19 x20 (wrap64 (x21 + 1)))))) else (none)) else (none)) else (none)) else (some (x0, 0))
def row_Put.f (k : Nat) (l0 : List Int) (l1 : List (S103)) : Option (List Int × Int) := (row_Check.f k l1).bind fun t162 => (if t162 = 0 then ((num_Put.f k l0 (IntKind.u64.wrap ((l1.length : Int)))).bind fun t163 => (row_Put.l0 k t163 l1 (l1.length : Int) 0)) else (some (([] : List Int), t162)))
theorem row_Put.mono_l : ∀ k, (∀ y0 y1 y2 y3, LeO (row_Put.l0 k y0 y1 y2 y3) (row_Put.l0 (k + 1) y0 y1 y2 y3))
 | 0 => fun _ _ _ _ r h => by simp [row_Put.l0] at h
 | k + 1 => by
  have ih0 := row_Put.mono_l k
  ·
   intro y0 y1 y2 y3; unfold row_Put.l0
   repeat' first
   | (with_reducible exact ih0 _ _ _ _)
   | (with_reducible exact num_Put.mono _ _ _)
   | (with_reducible exact num_PutInt.mono _ _ _)
   | (with_reducible exact num_PutText.mono _ _ _)
   | (with_reducible exact row_Check.mono _ _)
   | (with_reducible exact LeO.refl _)
   | (with_reducible exact LeO.none _)
   | (with_reducible refine LeO.ite ?_ ?_)
   | (with_reducible refine LeO.bind ?_ (fun _ => ?_))
   | exact ih0 _ _ _ _
   | exact num_Put.mono _ _ _
   | exact num_PutInt.mono _ _ _
   | exact num_PutText.mono _ _ _
   | exact row_Check.mono _ _
   | exact LeO.none _
   | refine LeO.ite ?_ ?_
   | refine LeO.bind ?_ (fun _ => ?_)
theorem row_Put.mono : ∀ a0 a1 k, LeO (row_Put.f k a0 a1) (row_Put.f (k + 1) a0 a1) := by
 intro a0 a1 k; have ih0 := row_Put.mono_l k; unfold row_Put.f
 repeat' first
   | (with_reducible exact ih0 _ _ _ _)
   | (with_reducible exact num_Put.mono _ _ _)
   | (with_reducible exact num_PutInt.mono _ _ _)
   | (with_reducible exact num_PutText.mono _ _ _)
   | (with_reducible exact row_Check.mono _ _)
   | (with_reducible exact LeO.refl _)
   | (with_reducible exact LeO.none _)
   | (with_reducible refine LeO.ite ?_ ?_)
   | (with_reducible refine LeO.bind ?_ (fun _ => ?_))
   | exact ih0 _ _ _ _
   | exact num_Put.mono _ _ _
   | exact num_PutInt.mono _ _ _
   | exact num_PutText.mono _ _ _
   | exact row_Check.mono _ _
   | exact LeO.none _
   | refine LeO.ite ?_ ?_
   | refine LeO.bind ?_ (fun _ => ?_)
set_option maxHeartbeats 8000000 in
set_option maxRecDepth 100000 in
theorem row_Put.calls (k : Nat) (A0 : Option Addr) (c0 : Nat) (l0 : List Int) (A1 : Option Addr) (c1 : Nat) (l1 : List (S103)) (r1 : List Int) (r2 : Int) (w : World) (hr0 : Kd.C (Kd.int .u8) w A0 l0.length l0) (hc0 : l0.length ≤ c0) (hr1 : Kd.C k103 w A1 l1.length l1) (hc1 : l1.length ≤ c1) (h : row_Put.f k l0 l1 = some (r1, r2)) :
  Calls Try.prog 50 #[.slice A0 l0.length c0, .slice A1 l1.length c1] w fun e w' => ∃ v0_ : Value, e = .returned (.tuple #[v0_, .int .i64 r2]) ∧ Kd.R (Kd.int .u8) 5 w' w.heap.size (fun _ => True) v0_ r1 ∧ Below w.heap.size w w' := by
 have hu103 := Try.underlying103; have HR0 := Aside0.mk hr0; have HC0 := Aside0.mk hc0; clear hr0 hc0; have HR1 := Aside0.mk hr1; have HC1 := Aside0.mk hc1; clear hr1 hc1; have HB := Aside0.mk (Below.refl w.heap.size w); have H : ((row_Check.f k l1).bind fun t162 => (if t162 = 0 then ((num_Put.f k l0 (IntKind.u64.wrap ((l1.length : Int)))).bind fun t163 => (row_Put.l0 k t163 l1 (l1.length : Int) 0)) else (some (([] : List Int), t162)))) = some (r1, r2) := h; clear h; replace H := Option.bind_eq_some_iff.mp H; obtain ⟨t162, A30, H⟩ := H; replace H : (if t162 = 0 then ((num_Put.f k l0 (IntKind.u64.wrap ((l1.length : Int)))).bind fun t163 => (row_Put.l0 k t163 l1 (l1.length : Int) 0)) else (some (([] : List Int), t162))) = some (r1, r2) := H; have A3 := Aside0.mk A30; clear A30; by_cases c4 : t162 = 0
 rotate_left
 ·
  rw [if_neg c4] at H; have c4b0 : (t162 == 0) = false := beq_eq_false_iff_ne.mpr c4; have c4b1 : (t162 != 0) = true := bne_iff_ne.mpr c4; simp only [Option.some.injEq, Prod.mk.injEq] at H; obtain ⟨rfl, rfl⟩ := H; go_enter Try.func50, Try.ntmps50
  go_wp2_with (first | ((with_reducible refine gate_callee (f := 52) rfl ?_); refine goesL_ (some 10) rfl rfl Try.func52 (by kernel_rfl) rfl #[.slice A1 l1.length c1] rfl mpq ?_; (with_reducible refine (row_Check.calls k _ _ l1 t162 _ ?side1 ?side2 A3.out).mono ?_); (case side1 => exact cp (HR1.out)); (case side2 => exact HC1.out); rintro e w27 ⟨rfl, hb⟩; refine ⟨_, rfl, ?_⟩; have n0_ := Aside0.mk (below_step bl hb); clear HB; have HB := n0_; clear n0_; (try clear hb); (try clear hb2); (try clear hk); (try clear hi)))
  go_ret2
  exact ⟨_, erq, nlq, bl⟩

 rw [if_pos c4] at H; have c4b0 : (t162 == 0) = true := beq_iff_eq.mpr c4; have c4b1 : (t162 != 0) = false := bne_eq_false_iff_eq.mpr c4; clear c4; replace H := Option.bind_eq_some_iff.mp H; obtain ⟨t163, A50, H⟩ := H; replace H : (row_Put.l0 k t163 l1 (l1.length : Int) 0) = some (r1, r2) := H; have A5 := Aside0.mk A50; clear A50; have H' := Aside0.mk H; clear H; go_enter Try.func50, Try.ntmps50
 go_wp2_with (first | ((with_reducible refine gate_callee (f := 52) rfl ?_); refine goesL_ (some 10) rfl rfl Try.func52 (by kernel_rfl) rfl #[.slice A1 l1.length c1] rfl mpq ?_; (with_reducible refine (row_Check.calls k _ _ l1 t162 _ ?side1 ?side2 A3.out).mono ?_); (case side1 => exact cp (HR1.out)); (case side2 => exact HC1.out); rintro e w6 ⟨rfl, hb⟩; refine ⟨_, rfl, ?_⟩; have n0_ := Aside0.mk (below_step bl hb); clear HB; have HB := n0_; clear n0_; (try clear hb); (try clear hb2); (try clear hk); (try clear hi)) | ((with_reducible refine gate_callee (f := 29) rfl ?_); refine goesL_ (some 18) rfl rfl Try.func29 (by kernel_rfl) rfl #[.slice A0 l0.length c0, .int .u64 (IntKind.u64.wrap ((l1.length : Int)))] rfl mpq ?_; (with_reducible refine (num_Put.calls k _ _ l0 (IntKind.u64.wrap ((l1.length : Int))) t163 _ ?side1 ?side2 A5.out).mono ?_); (case side1 => exact cp ((Kd.C_below HR0.out HB.out))); (case side2 => exact HC0.out); rintro e w7 ⟨v164, rfl, ho0, hb⟩; refine ⟨_, rfl, ?_⟩; have n0_ := Aside0.mk (Kd.R_lower ho0 (below_size bl)); have n1_ := Aside0.mk (below_step bl hb); clear HB; have HO165 := n0_; have HB := n1_; clear n0_ n1_; (try clear hb); (try clear hb2); (try clear hk); (try clear hi); (try clear ho0)))
 go_loopg [0, 21] k (fun kq v0 v21 w' => ∃ (x0_1 : List Int) (x21_1 : Int), v21 = .int .i64 x21_1 ∧ Aside0 (row_Put.l0 kq x0_1 l1 (l1.length : Int) x21_1 = some (r1, r2)) ∧ Aside0 (kq ≤ k) ∧ Aside0 (Kd.R (Kd.int .u8) 5 w' w.heap.size (fun _ => True) v0 x0_1) ∧ Aside0 (Below w.heap.size w w'))
 case atStart => exact ⟨(t163), (0), rsd, H', ⟨Nat.le_refl _⟩, ⟨rp HO165.out⟩, ⟨bl⟩⟩
 clear H'; (try clear c1); (try clear c4); (try clear c4b0); (try clear c4b1); obtain ⟨x0_1, x21_1, rfl, HA, HK1, HO_0, HB⟩ := hrel; cases gk with
 | zero => exact absurd HA.out (by simp [row_Put.l0])
 | succ k1 =>
  have H := HA.out; clear HA; simp only [row_Put.l0] at H; by_cases c8 : x21_1 < (l1.length : Int)
  rotate_left
  ·
   rw [if_neg c8] at H; have c8b0 : decide (x21_1 < (l1.length : Int)) = false := decide_eq_false c8; clear c8; simp only [Option.some.injEq, Prod.mk.injEq] at H; obtain ⟨rfl, rfl⟩ := H; go_wp2
   go_ret2
   exact ⟨_, erq, rp HO_0.out, bl⟩
  rw [if_pos c8] at H; have c8b0 : decide (x21_1 < (l1.length : Int)) = true := decide_eq_true c8; clear c8; by_cases c9 : 0 ≤ x21_1
  rotate_left
  · rw [if_neg c9] at H; exact absurd H (by simp)
  rw [if_pos c9] at H; have c9b0 : decide (0 ≤ x21_1) = true := decide_eq_true c9; clear c9; by_cases c10 : x21_1 < (l1.length : Int)
  rotate_left
  · rw [if_neg c10] at H; exact absurd H (by simp)
  rw [if_pos c10] at H; have c10b0 : decide (x21_1 < (l1.length : Int)) = true := decide_eq_true c10; clear c10; by_cases c11 : x0_1.length < 140737488355328
  rotate_left
  · rw [if_neg c11] at H; exact absurd H (by simp)
  rw [if_pos c11] at H; have LMc11 := Aside0.mk c11; clear c11; obtain ⟨y168, hy168⟩ : ∃ y_ : List Int, y_ = (x0_1 ++ [((rd_T103 l1 x21_1).f0) % 256]) := ⟨_, rfl⟩; replace H : (if ((rd_T103 l1 x21_1).f0) = 0 then ((num_PutInt.f k1 y168 ((rd_T103 l1 x21_1).f1)).bind fun t171 => (row_Put.l0 k1 t171 l1 (l1.length : Int) (wrap64 (x21_1 + 1)))) else ((num_PutText.f k1 y168 ((rd_T103 l1 x21_1).f2)).bind fun t174 => (row_Put.l0 k1 t174 l1 (l1.length : Int) (wrap64 (x21_1 + 1))))) = some (r1, r2) := by first | (rw [hy168]; with_reducible exact H) | (have H2_ := (Option.bind_some _ _).symm.trans H; rw [hy168]; with_reducible exact H2_) | (have H2_ := (Option.bind_some _ _).symm.trans H; with_reducible exact H2_) | with_reducible exact H | (rw [hy168]; exact H) | exact H
  have Ny168 := Aside0.mk hy168; clear hy168; by_cases c12 : ((rd_T103 l1 x21_1).f0) = 0
  rotate_left
  ·
   rw [if_neg c12] at H; have c12b0 : (((rd_T103 l1 x21_1).f0) == 0) = false := beq_eq_false_iff_ne.mpr c12; have c12b1 : (((rd_T103 l1 x21_1).f0) != 0) = true := bne_iff_ne.mpr c12; replace H := Option.bind_eq_some_iff.mp H; obtain ⟨t174, A200, H⟩ := H; replace H : (row_Put.l0 k1 t174 l1 (l1.length : Int) (wrap64 (x21_1 + 1))) = some (r1, r2) := H; have A20 := Aside0.mk A200; clear A200; have H' := Aside0.mk H; clear H; have p166 : 0 ≤ (x21_1 : Int) := of_decide_eq_true asm; have q166 : x21_1 < (l1.length : Int) := of_decide_eq_true asm; obtain ⟨ad166, e166, hx166_0, hx166_1, hx166_2⟩ := at_T103 HR1.out x21_1 p166 q166; cases e166
   replace hx166_0 := bc HB.out hx166_0; replace hx166_1 := bc HB.out hx166_1; replace hx166_2 := bc HB.out hx166_2; replace p166 := eq_true p166; replace q166 := eq_true q166; go_wp2_with (first | ((with_reducible refine gate_dst (N := 8) rfl ?_); refine box_event ?hg (N := 8) ?hd (cs := #[.int .i64 0, .int .i64 0, .string (⟨#[]⟩ : ByteArray)]) (t := 103) ?hr ?_; (case hd => rfl); (case hg => rfl); (case hr => first | (go_simp; done) | (go_simp; rfl)); intro gb167 hg w21 hbox hb; have n0_ := Aside0.mk (Kd.R_below (rp HO_0.out) hb); have n1_ := Aside0.mk (below_step bl hb); have n2_ := Aside0.mk (hbox); have n3_ := Aside0.mk ((by rw [hg]; exact (below_size bl) : w.heap.size ≤ gb167)); have n4_ := Aside0.mk ((by rw [hg]; exact (below_size bl) : w.heap.size ≤ gb167)); clear HO_0; clear HB; have HO_0 := n0_; have HB := n1_; have BK167 := n2_; have GW167 := n3_; have GE167 := n4_; clear n0_ n1_ n2_ n3_ n4_; clear hb hbox hg; obtain ⟨hcz22_0, hcz22_1, hcz22_2⟩ := cells3 BK167.out; have hfz22_0 := blk_frozen BK167.out 0; have hfz22_1 := blk_frozen BK167.out 1; have hfz22_2 := blk_frozen BK167.out 2) | ((with_reducible refine gate_builtin (b := .append) (xs := #[.tmp 25, .tmp 29]) rfl ?_); at_builtin; refine Kd.R_append (Kd.int .u8) (w0 := w) w.heap.size rfl (.tmp 25) (.tmp 29) 22 5 (.int .u8 0) 1 rfl Try.underlying22 info5 rfl (by decide) (by omega) u0 x0_1 (((rd_T103 l1 x21_1).f0) % 256) [.int .u8 (((rd_T103 l1 x21_1).f0) % 256)] (fun _ => True) (fun _ => False) rfl (by first | (go_simp; done) | (go_simp; rfl)) ?aP (fun _ hk => hk.elim) ?aF ?aO ?aB ?aS ?aL ?_; (case aP => exact rfl); (case aB => exact bl); (case aF => exact (fun _ _ => trivial)); (case aO => exact (rp (Kd.R_mono (Kd.R_far (p := ⟨gb167, 2, none⟩) (Kd.R_far (p := ⟨gb167, 1, none⟩) (Kd.R_far (p := ⟨gb167, 0, none⟩) (Kd.R_types HO_0.out BK167.out (by decide)) (fun _ hk => hk.2) (.int .i64 ((rd_T103 l1 x21_1).f0))) (fun _ hk => hk.2) (.int .i64 ((rd_T103 l1 x21_1).f1))) (fun _ hk => hk.2) (.string ((rd_T103 l1 x21_1).f2))) (fun _ hk => trivial)))); (case aS => exact (below_size bl)); (case aL => have := LMc11.out; omega); intro v169 w23 ho hb hg hat; rw [← Ny168.out] at ho; have n0_ := Aside0.mk (blk_grown (g := gb167) (o := .cells #[.int .i64 ((rd_T103 l1 x21_1).f0), .int .i64 ((rd_T103 l1 x21_1).f1), .string ((rd_T103 l1 x21_1).f2)] 103 (0, 0)) bk hg (Kd.R_ne HO_0.out BK167.out (by decide))); have n1_ := Aside0.mk (hb); have n2_ := Aside0.mk (ho); clear BK167; clear HB; clear HO_0; have BK167 := n0_; have HB := n1_; have HO170 := n2_; clear n0_ n1_ n2_; clear ho hb hg hat; obtain ⟨hcz24_0, hcz24_1, hcz24_2⟩ := cells3 BK167.out; obtain ⟨hfz24_0, hfz24_1, hfz24_2⟩ := frz3 BK167.out; obtain ⟨Ao25, co25, eo25⟩ := Kd.R_slice HO170.out; subst eo25) | ((with_reducible refine gate_callee (f := 49) rfl ?_); refine goesL_ (some 41) rfl rfl Try.func49 (by kernel_rfl) rfl #[.slice Ao25 y168.length co25, .string ((rd_T103 l1 x21_1).f2)] rfl mpq ?_; (with_reducible refine (num_PutText.calls k1 _ _ y168 ((rd_T103 l1 x21_1).f2) t174 _ ?side1 ?side2 A20.out).mono ?_); (case side1 => exact cp ((Kd.R_reads' HO170.out).2.2)); (case side2 => exact (Kd.R_reads' HO170.out).2.1); rintro e w26 ⟨v175, rfl, ho0, hb⟩; refine ⟨_, rfl, ?_⟩; have n0_ := Aside0.mk (Kd.R_elder' (rp HO170.out) (Kd.R_base ho0) hb); have n1_ := Aside0.mk (Kd.R_lower (Kd.R_new' ho0 (Kd.R_lt (rp HO170.out))) (below_size bl)); have n2_ := Aside0.mk (blk_below (g := gb167) (o := .cells #[.int .i64 ((rd_T103 l1 x21_1).f0), .int .i64 ((rd_T103 l1 x21_1).f1), .string ((rd_T103 l1 x21_1).f2)] 103 (0, 0)) bk hb); have n3_ := Aside0.mk (below_step bl hb); clear HO170; clear BK167; clear HB; have HO170 := n0_; have HO176 := n1_; have BK167 := n2_; have HB := n3_; clear n0_ n1_ n2_ n3_; (try clear hb); (try clear hb2); (try clear hk); (try clear hi); (try clear ho0)))
   go_roundg k1
   case measure => have := HK1.out; omega
   case rel => exact ⟨(t174), (wrap64 (x21_1 + 1)), rsd, H', ⟨by have := HK1.out; omega⟩, ⟨by (with_reducible repeat (first | apply Kd.R_alloc | apply Kd.R_drewN | apply Kd.R_drew)); exact Kd.R_mono HO176.out (fun _ hk => trivial)⟩, ⟨bl⟩⟩
  rw [if_pos c12] at H; have c12b0 : (((rd_T103 l1 x21_1).f0) == 0) = true := beq_iff_eq.mpr c12; have c12b1 : (((rd_T103 l1 x21_1).f0) != 0) = false := bne_eq_false_iff_eq.mpr c12; clear c12; replace H := Option.bind_eq_some_iff.mp H; obtain ⟨t171, A130, H⟩ := H; replace H : (row_Put.l0 k1 t171 l1 (l1.length : Int) (wrap64 (x21_1 + 1))) = some (r1, r2) := H; have A13 := Aside0.mk A130; clear A130; have H' := Aside0.mk H; clear H; have p166 : 0 ≤ (x21_1 : Int) := of_decide_eq_true asm; have q166 : x21_1 < (l1.length : Int) := of_decide_eq_true asm; obtain ⟨ad166, e166, hx166_0, hx166_1, hx166_2⟩ := at_T103 HR1.out x21_1 p166 q166; cases e166
  replace hx166_0 := bc HB.out hx166_0; replace hx166_1 := bc HB.out hx166_1; replace hx166_2 := bc HB.out hx166_2; replace p166 := eq_true p166; replace q166 := eq_true q166; go_wp2_with (first | ((with_reducible refine gate_dst (N := 8) rfl ?_); refine box_event ?hg (N := 8) ?hd (cs := #[.int .i64 0, .int .i64 0, .string (⟨#[]⟩ : ByteArray)]) (t := 103) ?hr ?_; (case hd => rfl); (case hg => rfl); (case hr => first | (go_simp; done) | (go_simp; rfl)); intro gb167 hg w14 hbox hb; have n0_ := Aside0.mk (Kd.R_below (rp HO_0.out) hb); have n1_ := Aside0.mk (below_step bl hb); have n2_ := Aside0.mk (hbox); have n3_ := Aside0.mk ((by rw [hg]; exact (below_size bl) : w.heap.size ≤ gb167)); have n4_ := Aside0.mk ((by rw [hg]; exact (below_size bl) : w.heap.size ≤ gb167)); clear HO_0; clear HB; have HO_0 := n0_; have HB := n1_; have BK167 := n2_; have GW167 := n3_; have GE167 := n4_; clear n0_ n1_ n2_ n3_ n4_; clear hb hbox hg; obtain ⟨hcz15_0, hcz15_1, hcz15_2⟩ := cells3 BK167.out; have hfz15_0 := blk_frozen BK167.out 0; have hfz15_1 := blk_frozen BK167.out 1; have hfz15_2 := blk_frozen BK167.out 2) | ((with_reducible refine gate_builtin (b := .append) (xs := #[.tmp 25, .tmp 29]) rfl ?_); at_builtin; refine Kd.R_append (Kd.int .u8) (w0 := w) w.heap.size rfl (.tmp 25) (.tmp 29) 22 5 (.int .u8 0) 1 rfl Try.underlying22 info5 rfl (by decide) (by omega) u0 x0_1 (((rd_T103 l1 x21_1).f0) % 256) [.int .u8 (((rd_T103 l1 x21_1).f0) % 256)] (fun _ => True) (fun _ => False) rfl (by first | (go_simp; done) | (go_simp; rfl)) ?aP (fun _ hk => hk.elim) ?aF ?aO ?aB ?aS ?aL ?_; (case aP => exact rfl); (case aB => exact bl); (case aF => exact (fun _ _ => trivial)); (case aO => exact (rp (Kd.R_mono (Kd.R_far (p := ⟨gb167, 2, none⟩) (Kd.R_far (p := ⟨gb167, 1, none⟩) (Kd.R_far (p := ⟨gb167, 0, none⟩) (Kd.R_types HO_0.out BK167.out (by decide)) (fun _ hk => hk.2) (.int .i64 ((rd_T103 l1 x21_1).f0))) (fun _ hk => hk.2) (.int .i64 ((rd_T103 l1 x21_1).f1))) (fun _ hk => hk.2) (.string ((rd_T103 l1 x21_1).f2))) (fun _ hk => trivial)))); (case aS => exact (below_size bl)); (case aL => have := LMc11.out; omega); intro v169 w16 ho hb hg hat; rw [← Ny168.out] at ho; have n0_ := Aside0.mk (blk_grown (g := gb167) (o := .cells #[.int .i64 ((rd_T103 l1 x21_1).f0), .int .i64 ((rd_T103 l1 x21_1).f1), .string ((rd_T103 l1 x21_1).f2)] 103 (0, 0)) bk hg (Kd.R_ne HO_0.out BK167.out (by decide))); have n1_ := Aside0.mk (hb); have n2_ := Aside0.mk (ho); clear BK167; clear HB; clear HO_0; have BK167 := n0_; have HB := n1_; have HO170 := n2_; clear n0_ n1_ n2_; clear ho hb hg hat; obtain ⟨hcz17_0, hcz17_1, hcz17_2⟩ := cells3 BK167.out; obtain ⟨hfz17_0, hfz17_1, hfz17_2⟩ := frz3 BK167.out; obtain ⟨Ao18, co18, eo18⟩ := Kd.R_slice HO170.out; subst eo18) | ((with_reducible refine gate_callee (f := 48) rfl ?_); refine goesL_ (some 37) rfl rfl Try.func48 (by kernel_rfl) rfl #[.slice Ao18 y168.length co18, .int .i64 ((rd_T103 l1 x21_1).f1)] rfl mpq ?_; (with_reducible refine (num_PutInt.calls k1 _ _ y168 ((rd_T103 l1 x21_1).f1) t171 _ ?side1 ?side2 A13.out).mono ?_); (case side1 => exact cp ((Kd.R_reads' HO170.out).2.2)); (case side2 => exact (Kd.R_reads' HO170.out).2.1); rintro e w19 ⟨v172, rfl, ho0, hb⟩; refine ⟨_, rfl, ?_⟩; have n0_ := Aside0.mk (Kd.R_elder' (rp HO170.out) (Kd.R_base ho0) hb); have n1_ := Aside0.mk (Kd.R_lower (Kd.R_new' ho0 (Kd.R_lt (rp HO170.out))) (below_size bl)); have n2_ := Aside0.mk (blk_below (g := gb167) (o := .cells #[.int .i64 ((rd_T103 l1 x21_1).f0), .int .i64 ((rd_T103 l1 x21_1).f1), .string ((rd_T103 l1 x21_1).f2)] 103 (0, 0)) bk hb); have n3_ := Aside0.mk (below_step bl hb); clear HO170; clear BK167; clear HB; have HO170 := n0_; have HO173 := n1_; have BK167 := n2_; have HB := n3_; clear n0_ n1_ n2_ n3_; (try clear hb); (try clear hb2); (try clear hk); (try clear hi); (try clear ho0)))
  go_roundg k1
  case measure => have := HK1.out; omega
  case rel => exact ⟨(t171), (wrap64 (x21_1 + 1)), rsd, H', ⟨by have := HK1.out; omega⟩, ⟨by (with_reducible repeat (first | apply Kd.R_alloc | apply Kd.R_drewN | apply Kd.R_drew)); exact Kd.R_mono HO173.out (fun _ hk => trivial)⟩, ⟨bl⟩⟩
end Go.Proofs.Ytpplklickfioiaa.PWirePuts
