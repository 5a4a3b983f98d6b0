/- One piece of the machine's side of the law, written by a program over the translation; Lean checks it. -/
import Derived.Test.YtbdpnecnnokkkaaOSheetSamex0
import Derived.Test.YtbdpnecnnokkkaaOSheetSamex3
import Derived.Test.YtbdpnecnnokkkaaOSheetSamex7
import Derived.Test.YtbdpnecnnokkkaaOSheetSamex8
import Derived.Test.YtbdpnecnnokkkaaOSheetSamex10
namespace Go.Proofs.Ytbdpnecnnokkkaa.PSheetSame
open Go.RowKit Go.Proofs.YtbdpnecnnokkkaaW.PrintWords Go.Proofs.YtbdpnecnnokkkaaW.PrintLast Go.Proofs.YtbdpnecnnokkkaaW.PrintMore
attribute [local go_sem] max2_int min2_int max_two min_two max_three min_three max_four min_four   -- for this text's walks alone
set_option linter.unusedVariables false
set_option linter.unusedSimpArgs false

/-! ### runnellaw17_SheetSame: function 3 -/
def runnellaw17_SheetSame.j0 : Nat → Bool → List (S44) → List Int → Int → List (S44) → List Int → Int → Option (Bool)
  | 0, _, _, _, _, _, _, _ => none
  | k + 1, x10, x292000, x292001, x292002, x293000, x293001, x293002 => if x10 = true then ((runnellaw17_live.f k).bind fun t295 => (some t295)) else ((sheet_Same.f k x292000 x292001 x292002 x293000 x293001 x293002).bind fun t296 => ((runnelref17_Same.f k x292000 x292001 x292002 x293000 x293001 x293002).bind fun t297 => (if (t296 == t297) = true then ((sheet_Same.f k x292000 x292001 x292002 x292000 x292001 x292002).bind fun t298 => (if t298 = true then ((runnellaw17_live.f k).bind fun t299 => (some t299)) else (some false))) else (some false))))
def runnellaw17_SheetSame.f (k : Nat) (l0_0 : List (S44)) (l0_1 : List Int) (a0_2 : Int) (l1_0 : List (S44)) (l1_1 : List Int) (a1_2 : Int) : Option (Bool) := (runnelref16_Long.f k l0_0 l0_1 a0_2).bind fun t293 => (if t293 = true then (runnellaw17_SheetSame.j0 k true l0_0 l0_1 a0_2 l1_0 l1_1 a1_2) else ((runnelref16_Long.f k l1_0 l1_1 a1_2).bind fun t294 => (runnellaw17_SheetSame.j0 k t294 l0_0 l0_1 a0_2 l1_0 l1_1 a1_2)))
theorem runnellaw17_SheetSame.mono_l : ∀ k, (∀ y0 y1 y2 y3 y4 y5 y6, LeO (runnellaw17_SheetSame.j0 k y0 y1 y2 y3 y4 y5 y6) (runnellaw17_SheetSame.j0 (k + 1) y0 y1 y2 y3 y4 y5 y6))
  | 0 => fun _ _ _ _ _ _ _ r h => by simp [runnellaw17_SheetSame.j0] at h
  | k + 1 => by
    have ih0 := runnellaw17_SheetSame.mono_l k
    · intro y0 y1 y2 y3 y4 y5 y6
      unfold runnellaw17_SheetSame.j0
      repeat' first
      | (with_reducible exact ih0 _ _ _ _ _ _ _)
      | (with_reducible exact runnellaw17_live.mono _)
      | (with_reducible exact runnelref16_Long.mono _ _ _ _)
      | (with_reducible exact runnelref17_Same.mono _ _ _ _ _ _ _)
      | (with_reducible exact sheet_Same.mono _ _ _ _ _ _ _)
      | (with_reducible exact LeO.refl _)
      | (with_reducible exact LeO.none _)
      | (with_reducible refine LeO.ite ?_ ?_)
      | (with_reducible refine LeO.bind ?_ (fun _ => ?_))
      | exact ih0 _ _ _ _ _ _ _
      | exact runnellaw17_live.mono _
      | exact runnelref16_Long.mono _ _ _ _
      | exact runnelref17_Same.mono _ _ _ _ _ _ _
      | exact sheet_Same.mono _ _ _ _ _ _ _
      | exact LeO.none _
      | refine LeO.ite ?_ ?_
      | refine LeO.bind ?_ (fun _ => ?_)
theorem runnellaw17_SheetSame.mono : ∀ a0 a1 a2 a3 a4 a5 k, LeO (runnellaw17_SheetSame.f k a0 a1 a2 a3 a4 a5) (runnellaw17_SheetSame.f (k + 1) a0 a1 a2 a3 a4 a5) := by
  intro a0 a1 a2 a3 a4 a5 k
  have ih0 := runnellaw17_SheetSame.mono_l k
  unfold runnellaw17_SheetSame.f
  repeat' first
      | (with_reducible exact ih0 _ _ _ _ _ _ _)
      | (with_reducible exact runnellaw17_live.mono _)
      | (with_reducible exact runnelref16_Long.mono _ _ _ _)
      | (with_reducible exact runnelref17_Same.mono _ _ _ _ _ _ _)
      | (with_reducible exact sheet_Same.mono _ _ _ _ _ _ _)
      | (with_reducible exact LeO.refl _)
      | (with_reducible exact LeO.none _)
      | (with_reducible refine LeO.ite ?_ ?_)
      | (with_reducible refine LeO.bind ?_ (fun _ => ?_))
      | exact ih0 _ _ _ _ _ _ _
      | exact runnellaw17_live.mono _
      | exact runnelref16_Long.mono _ _ _ _
      | exact runnelref17_Same.mono _ _ _ _ _ _ _
      | exact sheet_Same.mono _ _ _ _ _ _ _
      | exact LeO.none _
      | refine LeO.ite ?_ ?_
      | refine LeO.bind ?_ (fun _ => ?_)
def runnellaw17_SheetSame.T3 : Bool × List (List Nat × List Nat) := (true, [([], []), ([], []), ([0, 1], [0, 1]), ([], []), ([], []), ([3, 4, 2], [3, 4]), ([2, 5], [2, 5]), ([6, 5], [6]), ([7], [7]), ([7], [7]), ([8, 9, 7, 7], [7, 8, 9]), ([7, 10], [7, 10]), ([11, 10], [11]), ([12, 12], [12]), ([12, 13], [12, 13]), ([14, 13, 0, 1, 2, 3, 4, 5, 6, 7, 8, 9, 10, 11, 12, 13, 14], [14])])
def runnellaw17_SheetSame.B3 : List Nat := [0, 0, 3, 0, 0, 31, 63, 127, 255, 255, 1023, 2047, 4095, 8191, 16383, 32767]
theorem runnellaw17_SheetSame.tab3 : rtab .any (opsOf Try.f3 3) = runnellaw17_SheetSame.T3 := by kernel_rfl
theorem runnellaw17_SheetSame.bits3 : waitsOk runnellaw17_SheetSame.T3.2 runnellaw17_SheetSame.B3 = true := by kernel_rfl
set_option maxHeartbeats 8000000 in
set_option maxRecDepth 100000 in
theorem runnellaw17_SheetSame.calls (k : Nat) (A0_0 : Option Addr) (c0_0 : Nat) (l0_0 : List (S44)) (A0_1 : Option Addr) (c0_1 : Nat) (l0_1 : List Int) (a0_2 : Int) (A1_0 : Option Addr) (c1_0 : Nat) (l1_0 : List (S44)) (A1_1 : Option Addr) (c1_1 : Nat) (l1_1 : List Int) (a1_2 : Int) (r : Bool) (w : World) (hr0_0 : Kd.C k44 w A0_0 l0_0.length l0_0) (hc0_0 : l0_0.length ≤ c0_0) (hr0_1 : Kd.C (Kd.int .i64) w A0_1 l0_1.length l0_1) (hc0_1 : l0_1.length ≤ c0_1) (hr1_0 : Kd.C k44 w A1_0 l1_0.length l1_0) (hc1_0 : l1_0.length ≤ c1_0) (hr1_1 : Kd.C (Kd.int .i64) w A1_1 l1_1.length l1_1) (hc1_1 : l1_1.length ≤ c1_1) (h : runnellaw17_SheetSame.f k l0_0 l0_1 a0_2 l1_0 l1_1 a1_2 = some r) :
    Calls Try.prog 3 #[.agg #[.slice A0_0 l0_0.length c0_0, .slice A0_1 l0_1.length c0_1, .int .i64 a0_2], .agg #[.slice A1_0 l1_0.length c1_0, .slice A1_1 l1_1.length c1_1, .int .i64 a1_2]] w fun e w' => e = .returned (.bool r) ∧ Below w.heap.size w w' := by
  have hu25 := Try.underlying25
  have HR0_0 := am hr0_0
  have HC0_0 := am hc0_0
  clear hr0_0 hc0_0
  have HR0_1 := am hr0_1
  have HC0_1 := am hc0_1
  clear hr0_1 hc0_1
  have HR1_0 := am hr1_0
  have HC1_0 := am hc1_0
  clear hr1_0 hc1_0
  have HR1_1 := am hr1_1
  have HC1_1 := am hc1_1
  clear hr1_1 hc1_1
  have HB := am (Below.refl w.heap.size w)
  have H : ((runnelref16_Long.f k l0_0 l0_1 a0_2).bind fun t293 => (if t293 = true then (runnellaw17_SheetSame.j0 k true l0_0 l0_1 a0_2 l1_0 l1_1 a1_2) else ((runnelref16_Long.f k l1_0 l1_1 a1_2).bind fun t294 => (runnellaw17_SheetSame.j0 k t294 l0_0 l0_1 a0_2 l1_0 l1_1 a1_2)))) = some r := h
  clear h
  have HC3 := am H
  clear H
  go_enter Try.func3, Try.ntmps3
  go_upto_region 1 with (first | ((with_reducible refine gate_dst (N := 2) rfl ?_); refine box_event ?hg (N := 2) ?hd (cs := #[.slice A0_0 l0_0.length c0_0, .slice A0_1 l0_1.length c0_1, .int .i64 a0_2]) (t := 25) ?hr ?_; (case hd => rfl); (case hg => rfl); (case hr => first | (go_simp; done) | (go_simp; rfl)); intro gb291 hg w4 hbox hb; have n0_ := am (below_step (by repeat (first | (with_reducible first | exact HB.out | apply c1 | apply c2 | apply c3) | exact HB.out)) hb); have n1_ := am (hbox); have n2_ := am ((by rw [hg]; exact (below_size (by repeat (first | (with_reducible first | exact HB.out | apply c1 | apply c2 | apply c3) | exact HB.out))) : w.heap.size ≤ gb291)); have n3_ := am ((by rw [hg]; exact (below_size (by repeat (first | (with_reducible first | exact HB.out | apply c1 | apply c2 | apply c3) | exact HB.out))) : w.heap.size ≤ gb291)); clear HB; have HB := n0_; have BK291 := n1_; have GW291 := n2_; have GE291 := n3_; clear n0_ n1_ n2_ n3_; clear hb hbox hg) | ((with_reducible refine gate_dst (N := 3) rfl ?_); refine box_event ?hg (N := 3) ?hd (cs := #[.slice A1_0 l1_0.length c1_0, .slice A1_1 l1_1.length c1_1, .int .i64 a1_2]) (t := 25) ?hr ?_; (case hd => rfl); (case hg => rfl); (case hr => first | (go_simp; done) | (go_simp; rfl)); intro gb292 hg w5 hbox hb; have n0_ := am (b5 (g := gb291) (o := .cells #[.slice A0_0 l0_0.length c0_0, .slice A0_1 l0_1.length c0_1, .int .i64 a0_2] 25 (0, 0)) (by (with_reducible repeat (first | refine b1 ?_ _ | refine b2 ?_ | refine b3 ?_ _)); exact BK291.out) hb); have n1_ := am (below_step (by repeat (first | (with_reducible first | exact HB.out | apply c1 | apply c2 | apply c3 | refine c4 ?_ GE291.out) | exact HB.out)) hb); have n2_ := am (hbox); have n3_ := am ((by rw [hg]; exact (below_size (by repeat (first | (with_reducible first | exact HB.out | apply c1 | apply c2 | apply c3 | refine c4 ?_ GE291.out) | exact HB.out))) : w.heap.size ≤ gb292)); have n4_ := am ((by rw [hg]; exact (below_size (by repeat (first | (with_reducible first | exact HB.out | apply c1 | apply c2 | apply c3 | refine c4 ?_ GE291.out) | exact HB.out))) : w.heap.size ≤ gb292)); have n5_ := am ((by rw [hg]; exact Nat.ne_of_lt (blk_lt (g := gb291) (o := .cells #[.slice A0_0 l0_0.length c0_0, .slice A0_1 l0_1.length c0_1, .int .i64 a0_2] 25 (0, 0)) (by (with_reducible repeat (first | refine b1 ?_ _ | refine b2 ?_ | refine b3 ?_ _)); exact BK291.out)) : gb291 ≠ gb292)); have n6_ := am ((by rw [hg]; exact Nat.ne_of_gt (blk_lt (g := gb291) (o := .cells #[.slice A0_0 l0_0.length c0_0, .slice A0_1 l0_1.length c0_1, .int .i64 a0_2] 25 (0, 0)) (by (with_reducible repeat (first | refine b1 ?_ _ | refine b2 ?_ | refine b3 ?_ _)); exact BK291.out)) : gb292 ≠ gb291)); clear BK291; clear HB; have BK291 := n0_; have HB := n1_; have BK292 := n2_; have GW292 := n3_; have GE292 := n4_; have NB291_292 := n5_; have NB292_291 := n6_; clear n0_ n1_ n2_ n3_ n4_ n5_ n6_; clear hb hbox hg))
  (try simp only [Act.put, List.setIfInBounds_toArray, List.set_cons_zero, List.set_cons_succ])
  go_cut [10] (fun v10 wc => ∃ (kq : Nat) (x10_2 : Bool), v10 = .bool x10_2 ∧ Aside0 (runnellaw17_SheetSame.j0 kq x10_2 l0_0 l0_1 a0_2 l1_0 l1_1 a1_2 = some r) ∧ Aside0 (kq ≤ k) ∧ Aside0 (wc.heap[gb291]? = some (.cells #[(.slice A0_0 l0_0.length c0_0), (.slice A0_1 l0_1.length c0_1), .int .i64 a0_2] 25 (0, 0))) ∧ Aside0 (wc.heap[gb292]? = some (.cells #[(.slice A1_0 l1_0.length c1_0), (.slice A1_1 l1_1.length c1_1), .int .i64 a1_2] 25 (0, 0))) ∧ Aside0 (Below w.heap.size w wc))
  case first =>
    have H := HC3.out
    clear HC3
    replace H := Option.bind_eq_some_iff.mp H
    obtain ⟨t293, A60, H⟩ := H
    replace H : (if t293 = true then (runnellaw17_SheetSame.j0 k true l0_0 l0_1 a0_2 l1_0 l1_1 a1_2) else ((runnelref16_Long.f k l1_0 l1_1 a1_2).bind fun t294 => (runnellaw17_SheetSame.j0 k t294 l0_0 l0_1 a0_2 l1_0 l1_1 a1_2))) = some r := H
    have A6 := am A60
    clear A60
    by_cases c7 : t293 = true
    · subst c7
      have H1 : (runnellaw17_SheetSame.j0 k true l0_0 l0_1 a0_2 l1_0 l1_1 a1_2) = some r := by rw [if_pos rfl] at H; exact H
      clear H
      have H := H1
      clear H1
      have H' := am H
      clear H
      have hnb8 := NB291_292.out
      have hnc8 := NB292_291.out
      have hcz9_0 : w5.cell? ⟨gb291, 0, none⟩ = some (.slice A0_0 l0_0.length c0_0) := (b4 BK291.out 0).trans rfl
      have hcz9_1 : w5.cell? ⟨gb291, 1, none⟩ = some (.slice A0_1 l0_1.length c0_1) := (b4 BK291.out 1).trans rfl
      have hcz9_2 : w5.cell? ⟨gb291, 2, none⟩ = some (.int .i64 a0_2) := (b4 BK291.out 2).trans rfl
      have hfz9_0 := blk_frozen BK291.out 0
      have hfz9_1 := blk_frozen BK291.out 1
      have hfz9_2 := blk_frozen BK291.out 2
      go_wp2_with (first | ((with_reducible refine gate_callee (f := 6) rfl ?_); refine goesL_ (some 6) rfl rfl Try.func6 (by kernel_rfl) rfl #[.agg #[.slice A0_0 l0_0.length c0_0, .slice A0_1 l0_1.length c0_1, .int .i64 a0_2]] rfl (by (try simp only [List.map_toArray, List.map_cons, List.map_nil]); first | done | rfl | (simp only [List.length_drop, List.length_take]; rfl)) ?_; (with_reducible refine (runnelref16_Long.calls k _ _ l0_0 _ _ l0_1 a0_2 true _ ?side1 ?side2 ?side3 ?side4 A6.out).mono ?_); (case side1 => repeat (first | exact (d1 HR0_0.out HB.out) | (with_reducible refine d2 ?_ _) | (with_reducible refine d3 ?_ _) | (with_reducible refine d4 ?_))); (case side2 => exact HC0_0.out); (case side3 => repeat (first | exact (d1 HR0_1.out HB.out) | (with_reducible refine d2 ?_ _) | (with_reducible refine d3 ?_ _) | (with_reducible refine d4 ?_))); (case side4 => exact HC0_1.out); rintro e w10 ⟨rfl, hb⟩; refine ⟨_, rfl, ?_⟩; have n0_ := am (b5 (g := gb291) (o := .cells #[.slice A0_0 l0_0.length c0_0, .slice A0_1 l0_1.length c0_1, .int .i64 a0_2] 25 (0, 0)) (by (with_reducible repeat (first | refine b1 ?_ _ | refine b2 ?_ | refine b3 ?_ _)); exact BK291.out) hb); have n1_ := am (b5 (g := gb292) (o := .cells #[.slice A1_0 l1_0.length c1_0, .slice A1_1 l1_1.length c1_1, .int .i64 a1_2] 25 (0, 0)) (by (with_reducible repeat (first | refine b1 ?_ _ | refine b2 ?_ | refine b3 ?_ _)); exact BK292.out) hb); have n2_ := am (below_step (by repeat (first | (with_reducible first | exact HB.out | apply c1 | apply c2 | apply c3 | refine c4 ?_ GE291.out | refine c4 ?_ GE292.out) | exact HB.out)) hb); clear BK291; clear BK292; clear HB; have BK291 := n0_; have BK292 := n1_; have HB := n2_; clear n0_ n1_ n2_; (try clear hb)))
      go_meet
      case rel => exact ⟨_, (true), (by first | rfl | (simp; done) | (simp [*]; done)), H', ⟨by first | omega | exact Nat.le_refl _⟩, ⟨by (with_reducible repeat (first | refine b1 ?_ _ | refine b2 ?_ | refine b3 ?_ _)); exact BK291.out⟩, ⟨by (with_reducible repeat (first | refine b1 ?_ _ | refine b2 ?_ | refine b3 ?_ _)); exact BK292.out⟩, ⟨by repeat (first | (with_reducible first | exact HB.out | apply c1 | apply c2 | apply c3 | refine c4 ?_ GE291.out | refine c4 ?_ GE292.out) | exact HB.out)⟩⟩
    · replace c7 := Bool.eq_false_iff.mpr c7
      subst c7
      have H1 : ((runnelref16_Long.f k l1_0 l1_1 a1_2).bind fun t294 => (runnellaw17_SheetSame.j0 k t294 l0_0 l0_1 a0_2 l1_0 l1_1 a1_2)) = some r := by rw [if_neg (show ¬ (false = true) by decide)] at H; exact H
      clear H
      have H := H1
      clear H1
      replace H := Option.bind_eq_some_iff.mp H
      obtain ⟨t294, A110, H⟩ := H
      replace H : (runnellaw17_SheetSame.j0 k t294 l0_0 l0_1 a0_2 l1_0 l1_1 a1_2) = some r := H
      have A11 := am A110
      clear A110
      have H' := am H
      clear H
      have hnb12 := NB291_292.out
      have hnc12 := NB292_291.out
      have hcz13_0 : w5.cell? ⟨gb291, 0, none⟩ = some (.slice A0_0 l0_0.length c0_0) := (b4 BK291.out 0).trans rfl
      have hcz13_1 : w5.cell? ⟨gb291, 1, none⟩ = some (.slice A0_1 l0_1.length c0_1) := (b4 BK291.out 1).trans rfl
      have hcz13_2 : w5.cell? ⟨gb291, 2, none⟩ = some (.int .i64 a0_2) := (b4 BK291.out 2).trans rfl
      have hfz13_0 := blk_frozen BK291.out 0
      have hfz13_1 := blk_frozen BK291.out 1
      have hfz13_2 := blk_frozen BK291.out 2
      go_wp2_with (first | ((with_reducible refine gate_callee (f := 6) rfl ?_); refine goesL_ (some 6) rfl rfl Try.func6 (by kernel_rfl) rfl #[.agg #[.slice A0_0 l0_0.length c0_0, .slice A0_1 l0_1.length c0_1, .int .i64 a0_2]] rfl (by (try simp only [List.map_toArray, List.map_cons, List.map_nil]); first | done | rfl | (simp only [List.length_drop, List.length_take]; rfl)) ?_; (with_reducible refine (runnelref16_Long.calls k _ _ l0_0 _ _ l0_1 a0_2 false _ ?side1 ?side2 ?side3 ?side4 A6.out).mono ?_); (case side1 => repeat (first | exact (d1 HR0_0.out HB.out) | (with_reducible refine d2 ?_ _) | (with_reducible refine d3 ?_ _) | (with_reducible refine d4 ?_))); (case side2 => exact HC0_0.out); (case side3 => repeat (first | exact (d1 HR0_1.out HB.out) | (with_reducible refine d2 ?_ _) | (with_reducible refine d3 ?_ _) | (with_reducible refine d4 ?_))); (case side4 => exact HC0_1.out); rintro e w14 ⟨rfl, hb⟩; refine ⟨_, rfl, ?_⟩; have n0_ := am (b5 (g := gb291) (o := .cells #[.slice A0_0 l0_0.length c0_0, .slice A0_1 l0_1.length c0_1, .int .i64 a0_2] 25 (0, 0)) (by (with_reducible repeat (first | refine b1 ?_ _ | refine b2 ?_ | refine b3 ?_ _)); exact BK291.out) hb); have n1_ := am (b5 (g := gb292) (o := .cells #[.slice A1_0 l1_0.length c1_0, .slice A1_1 l1_1.length c1_1, .int .i64 a1_2] 25 (0, 0)) (by (with_reducible repeat (first | refine b1 ?_ _ | refine b2 ?_ | refine b3 ?_ _)); exact BK292.out) hb); have n2_ := am (below_step (by repeat (first | (with_reducible first | exact HB.out | apply c1 | apply c2 | apply c3 | refine c4 ?_ GE291.out | refine c4 ?_ GE292.out) | exact HB.out)) hb); clear BK291; clear BK292; clear HB; have BK291 := n0_; have BK292 := n1_; have HB := n2_; clear n0_ n1_ n2_; (try clear hb); have hcz15_0 : w14.cell? ⟨gb292, 0, none⟩ = some (.slice A1_0 l1_0.length c1_0) := (b4 BK292.out 0).trans rfl; have hcz15_1 : w14.cell? ⟨gb292, 1, none⟩ = some (.slice A1_1 l1_1.length c1_1) := (b4 BK292.out 1).trans rfl; have hcz15_2 : w14.cell? ⟨gb292, 2, none⟩ = some (.int .i64 a1_2) := (b4 BK292.out 2).trans rfl; have hfz15_0 := blk_frozen BK292.out 0; have hfz15_1 := blk_frozen BK292.out 1; have hfz15_2 := blk_frozen BK292.out 2) | (go_at_call 6; (with_reducible refine (runnelref16_Long.calls k _ _ l1_0 _ _ l1_1 a1_2 t294 _ ?side1 ?side2 ?side3 ?side4 A11.out).mono ?_); (case side1 => repeat (first | exact (d1 HR1_0.out HB.out) | (with_reducible refine d2 ?_ _) | (with_reducible refine d3 ?_ _) | (with_reducible refine d4 ?_))); (case side2 => exact HC1_0.out); (case side3 => repeat (first | exact (d1 HR1_1.out HB.out) | (with_reducible refine d2 ?_ _) | (with_reducible refine d3 ?_ _) | (with_reducible refine d4 ?_))); (case side4 => exact HC1_1.out); rintro e w16 ⟨rfl, hb⟩; have n0_ := am (b5 (g := gb291) (o := .cells #[.slice A0_0 l0_0.length c0_0, .slice A0_1 l0_1.length c0_1, .int .i64 a0_2] 25 (0, 0)) (by (with_reducible repeat (first | refine b1 ?_ _ | refine b2 ?_ | refine b3 ?_ _)); exact BK291.out) hb); have n1_ := am (b5 (g := gb292) (o := .cells #[.slice A1_0 l1_0.length c1_0, .slice A1_1 l1_1.length c1_1, .int .i64 a1_2] 25 (0, 0)) (by (with_reducible repeat (first | refine b1 ?_ _ | refine b2 ?_ | refine b3 ?_ _)); exact BK292.out) hb); have n2_ := am (below_step (by repeat (first | (with_reducible first | exact HB.out | apply c1 | apply c2 | apply c3 | refine c4 ?_ GE291.out | refine c4 ?_ GE292.out) | exact HB.out)) hb); clear BK291; clear BK292; clear HB; have BK291 := n0_; have BK292 := n1_; have HB := n2_; clear n0_ n1_ n2_; (try clear hb)))
      go_meet
      case rel => exact ⟨_, (t294), (by first | rfl | (simp; done) | (simp [*]; done)), H', ⟨by first | omega | exact Nat.le_refl _⟩, ⟨by (with_reducible repeat (first | refine b1 ?_ _ | refine b2 ?_ | refine b3 ?_ _)); exact BK291.out⟩, ⟨by (with_reducible repeat (first | refine b1 ?_ _ | refine b2 ?_ | refine b3 ?_ _)); exact BK292.out⟩, ⟨by repeat (first | (with_reducible first | exact HB.out | apply c1 | apply c2 | apply c3 | refine c4 ?_ GE291.out | refine c4 ?_ GE292.out) | exact HB.out)⟩⟩
  case rest =>
    clear HC3
    try clear c1
    try clear p2
    try clear c3
    try clear c6
    try clear c7
    try clear c8
    try clear c12
    try clear hcz13_0
    try clear hcz13_1
    try clear hcz13_2
    try clear hcz15_0
    try clear hcz15_1
    try clear hcz15_2
    try clear hcz9_0
    try clear hcz9_1
    try clear hcz9_2
    try clear hfz13_0
    try clear hfz13_1
    try clear hfz13_2
    try clear hfz15_0
    try clear hfz15_1
    try clear hfz15_2
    try clear hfz9_0
    try clear hfz9_1
    try clear hfz9_2
    obtain ⟨kq, x10_2, rfl, HA, HJ2, BK291, BK292, HB⟩ := hcut
    cases kq with
    | zero => exact absurd HA.out (by simp [runnellaw17_SheetSame.j0])
    | succ kj2 =>
      have H := HA.out
      clear HA
      simp only [runnellaw17_SheetSame.j0] at H
      by_cases c17 : x10_2 = true
      · subst c17
        have H1 : ((runnellaw17_live.f kj2).bind fun t295 => (some t295)) = some r := by rw [if_pos rfl] at H; exact H
        clear H
        have H := H1
        clear H1
        replace H := Option.bind_eq_some_iff.mp H
        obtain ⟨t295, A180, H⟩ := H
        replace H : (some t295) = some r := H
        have A18 := am A180
        clear A180
        obtain rfl := Option.some.inj H
        go_wp2_with (first | ((with_reducible refine gate_callee (f := 7) rfl ?_); refine goesL_ (some 11) rfl rfl Try.func7 (by kernel_rfl) rfl #[] rfl (by (try simp only [List.map_toArray, List.map_cons, List.map_nil]); first | done | rfl | (simp only [List.length_drop, List.length_take]; rfl)) ?_; (with_reducible refine (runnellaw17_live.calls kj2  t295 _ A18.out).mono ?_); rintro e w19 ⟨rfl, hb⟩; refine ⟨_, rfl, ?_⟩; have n0_ := am (b5 (g := gb291) (o := .cells #[.slice A0_0 l0_0.length c0_0, .slice A0_1 l0_1.length c0_1, .int .i64 a0_2] 25 (0, 0)) (by (with_reducible repeat (first | refine b1 ?_ _ | refine b2 ?_ | refine b3 ?_ _)); exact BK291.out) hb); have n1_ := am (b5 (g := gb292) (o := .cells #[.slice A1_0 l1_0.length c1_0, .slice A1_1 l1_1.length c1_1, .int .i64 a1_2] 25 (0, 0)) (by (with_reducible repeat (first | refine b1 ?_ _ | refine b2 ?_ | refine b3 ?_ _)); exact BK292.out) hb); have n2_ := am (below_step (by repeat (first | (with_reducible first | exact HB.out | apply c1 | apply c2 | apply c3 | refine c4 ?_ GE291.out | refine c4 ?_ GE292.out) | exact HB.out)) hb); clear BK291; clear BK292; clear HB; have BK291 := n0_; have BK292 := n1_; have HB := n2_; clear n0_ n1_ n2_; (try clear hb)))
        go_ret
        exact ⟨by first | rfl | (simp [errW_none, errW_some] <;> rfl) | (simp [*, errW_none, errW_some] <;> rfl), by repeat (first | (with_reducible first | exact HB.out | apply c1 | apply c2 | apply c3 | refine c4 ?_ GE291.out | refine c4 ?_ GE292.out) | exact HB.out)⟩
      · replace c17 := Bool.eq_false_iff.mpr c17
        subst c17
        have H1 : ((sheet_Same.f kj2 l0_0 l0_1 a0_2 l1_0 l1_1 a1_2).bind fun t296 => ((runnelref17_Same.f kj2 l0_0 l0_1 a0_2 l1_0 l1_1 a1_2).bind fun t297 => (if (t296 == t297) = true then ((sheet_Same.f kj2 l0_0 l0_1 a0_2 l0_0 l0_1 a0_2).bind fun t298 => (if t298 = true then ((runnellaw17_live.f kj2).bind fun t299 => (some t299)) else (some false))) else (some false)))) = some r := by rw [if_neg (show ¬ (false = true) by decide)] at H; exact H
        clear H
        have H := H1
        clear H1
        replace H := Option.bind_eq_some_iff.mp H
        obtain ⟨t296, A200, H⟩ := H
        replace H : ((runnelref17_Same.f kj2 l0_0 l0_1 a0_2 l1_0 l1_1 a1_2).bind fun t297 => (if (t296 == t297) = true then ((sheet_Same.f kj2 l0_0 l0_1 a0_2 l0_0 l0_1 a0_2).bind fun t298 => (if t298 = true then ((runnellaw17_live.f kj2).bind fun t299 => (some t299)) else (some false))) else (some false))) = some r := H
        have A20 := am A200
        clear A200
        replace H := Option.bind_eq_some_iff.mp H
        obtain ⟨t297, A210, H⟩ := H
        replace H : (if (t296 == t297) = true then ((sheet_Same.f kj2 l0_0 l0_1 a0_2 l0_0 l0_1 a0_2).bind fun t298 => (if t298 = true then ((runnellaw17_live.f kj2).bind fun t299 => (some t299)) else (some false))) else (some false)) = some r := H
        have A21 := am A210
        clear A210
        by_cases c22 : (t296 == t297) = true
        · rw [if_pos c22] at H
          have c22b0 : (t296 == t297) = true := c22
          (try (have c22b1 : decide (t296 = t297) = true := by simpa using c22))
          (try (have c22b2 : (t296 == t297) = true := by simpa using c22))
          clear c22
          replace H := Option.bind_eq_some_iff.mp H
          obtain ⟨t298, A230, H⟩ := H
          replace H : (if t298 = true then ((runnellaw17_live.f kj2).bind fun t299 => (some t299)) else (some false)) = some r := H
          have A23 := am A230
          clear A230
          by_cases c24 : t298 = true
          · subst c24
            have H1 : ((runnellaw17_live.f kj2).bind fun t299 => (some t299)) = some r := by rw [if_pos rfl] at H; exact H
            clear H
            have H := H1
            clear H1
            replace H := Option.bind_eq_some_iff.mp H
            obtain ⟨t299, A250, H⟩ := H
            replace H : (some t299) = some r := H
            have A25 := am A250
            clear A250
            obtain rfl := Option.some.inj H
            try go_wp2
            have n0_ := am (b2 BK291.out)
            have n1_ := am (b2 BK292.out)
            have n2_ := am (c3 HB.out)
            clear BK291
            clear BK292
            clear HB
            have BK291 := n0_
            have BK292 := n1_
            have HB := n2_
            clear n0_ n1_ n2_
            refine start_ (n := 16) (S := fun w' => w'.cell? ⟨gb291, 0, none⟩ = some (.slice A0_0 l0_0.length c0_0) ∧ w'.cell? ⟨gb291, 1, none⟩ = some (.slice A0_1 l0_1.length c0_1) ∧ w'.cell? ⟨gb291, 2, none⟩ = some (.int .i64 a0_2) ∧ w'.cell? ⟨gb292, 0, none⟩ = some (.slice A1_0 l1_0.length c1_0) ∧ w'.cell? ⟨gb292, 1, none⟩ = some (.slice A1_1 l1_1.length c1_1) ∧ w'.cell? ⟨gb292, 2, none⟩ = some (.int .i64 a1_2)) (ds := []) #[false, false, false, false, false, false, false, false, false, false, false, false, false, false, false, false] (by kernel_rfl) rfl rfl ⟨(b4 BK291.out 0).trans rfl, (b4 BK291.out 1).trans rfl, (b4 BK291.out 2).trans rfl, (b4 BK292.out 0).trans rfl, (b4 BK292.out 1).trans rfl, (b4 BK292.out 2).trans rfl⟩ (fun hHeld => ?_); refine with_tabW runnellaw17_SheetSame.tab3 runnellaw17_SheetSame.bits3 (fun HT_ HW_ => ?_)
            generalize wc.drew = w26 at BK291 BK292 HB hHeld ⊢
            refine take_ (i := 0) (N := some 12) (v := ?_) (a' := ?_) #[true, false, false, false, false, false, false, false, false, false, false, false, false, false, false, false] rfl rfl (take_ofW HT_.out HW_.out (by kernel_rfl)) (fun _ _ _ h => h) (Or.inl ⟨by rfl, ?_⟩) hHeld ?_ ?_
            rotate_left
            · rintro w' ⟨s0, s1, s2, s3, s4, s5⟩
              go_simp
              with_reducible rfl
            rotate_left
            · simp only [Act.put, List.setIfInBounds_toArray, List.set_cons_zero, List.set_cons_succ, i64_w, i32_w]
              rfl
            refine take_ (i := 1) (N := some 13) (v := ?_) (a' := ?_) #[true, true, false, false, false, false, false, false, false, false, false, false, false, false, false, false] rfl rfl (take_ofW HT_.out HW_.out (by kernel_rfl)) (fun _ _ _ h => h) (Or.inl ⟨by rfl, ?_⟩) hHeld ?_ ?_
            rotate_left
            · rintro w' ⟨s0, s1, s2, s3, s4, s5⟩
              go_simp
              with_reducible rfl
            rotate_left
            · simp only [Act.put, List.setIfInBounds_toArray, List.set_cons_zero, List.set_cons_succ, i64_w, i32_w]
              rfl
            refine take_ (i := 3) (N := some 15) (v := ?_) (a' := ?_) #[true, true, false, true, false, false, false, false, false, false, false, false, false, false, false, false] rfl rfl (take_ofW HT_.out HW_.out (by kernel_rfl)) (fun _ _ _ h => h) (Or.inl ⟨by rfl, ?_⟩) hHeld ?_ ?_
            rotate_left
            · rintro w' ⟨s0, s1, s2, s3, s4, s5⟩
              go_simp
              with_reducible rfl
            rotate_left
            · simp only [Act.put, List.setIfInBounds_toArray, List.set_cons_zero, List.set_cons_succ, i64_w, i32_w]
              rfl
            refine take_ (i := 4) (N := some 16) (v := ?_) (a' := ?_) #[true, true, false, true, true, false, false, false, false, false, false, false, false, false, false, false] rfl rfl (take_ofW HT_.out HW_.out (by kernel_rfl)) (fun _ _ _ h => h) (Or.inl ⟨by rfl, ?_⟩) hHeld ?_ ?_
            rotate_left
            · rintro w' ⟨s0, s1, s2, s3, s4, s5⟩
              go_simp
              with_reducible rfl
            rotate_left
            · simp only [Act.put, List.setIfInBounds_toArray, List.set_cons_zero, List.set_cons_succ, i64_w, i32_w]
              rfl
            refine one_ (i := 2) (N := some 14) #[true, true, true, true, true, false, false, false, false, false, false, false, false, false, false, false] rfl rfl (one_of HT_.out (by kernel_rfl)) (by decide) (fun K hK => ?_)
            refine goes_ Try.func8 (by kernel_rfl) rfl #[.agg #[.slice A0_0 l0_0.length c0_0, .slice A0_1 l0_1.length c0_1, .int .i64 a0_2], .agg #[.slice A1_0 l1_0.length c1_0, .slice A1_1 l1_1.length c1_1, .int .i64 a1_2]] (by rfl) rfl rfl (by (try simp only [List.map_toArray, List.map_cons, List.map_nil]); first | done | rfl | (simp only [List.length_drop, List.length_take]; rfl)) ?_
            with_reducible refine (sheet_Same.calls kj2 _ _ l0_0 _ _ l0_1 a0_2 _ _ l1_0 _ _ l1_1 a1_2 t296 _ ?side1 ?side2 ?side3 ?side4 ?side5 ?side6 ?side7 ?side8 A20.out).mono ?_
            (case side1 => repeat (first | exact (d1 HR0_0.out HB.out) | (with_reducible refine d2 ?_ _) | (with_reducible refine d3 ?_ _) | (with_reducible refine d4 ?_)))
            (case side2 => exact HC0_0.out)
            (case side3 => repeat (first | exact (d1 HR0_1.out HB.out) | (with_reducible refine d2 ?_ _) | (with_reducible refine d3 ?_ _) | (with_reducible refine d4 ?_)))
            (case side4 => exact HC0_1.out)
            (case side5 => repeat (first | exact (d1 HR1_0.out HB.out) | (with_reducible refine d2 ?_ _) | (with_reducible refine d3 ?_ _) | (with_reducible refine d4 ?_)))
            (case side6 => exact HC1_0.out)
            (case side7 => repeat (first | exact (d1 HR1_1.out HB.out) | (with_reducible refine d2 ?_ _) | (with_reducible refine d3 ?_ _) | (with_reducible refine d4 ?_)))
            (case side8 => exact HC1_1.out)
            rintro e w27 ⟨rfl, hb⟩
            refine ⟨_, rfl, ?_⟩
            have n0_ := am (b5 (g := gb291) (o := .cells #[.slice A0_0 l0_0.length c0_0, .slice A0_1 l0_1.length c0_1, .int .i64 a0_2] 25 (0, 0)) (by (with_reducible repeat (first | refine b1 ?_ _ | refine b2 ?_ | refine b3 ?_ _)); exact BK291.out) hb)
            have n1_ := am (b5 (g := gb292) (o := .cells #[.slice A1_0 l1_0.length c1_0, .slice A1_1 l1_1.length c1_1, .int .i64 a1_2] 25 (0, 0)) (by (with_reducible repeat (first | refine b1 ?_ _ | refine b2 ?_ | refine b3 ?_ _)); exact BK292.out) hb)
            have n2_ := am (below_step (by repeat (first | (with_reducible first | exact HB.out | apply c1 | apply c2 | apply c3 | refine c4 ?_ GE291.out | refine c4 ?_ GE292.out) | exact HB.out)) hb)
            clear BK291
            clear BK292
            clear HB
            have BK291 := n0_
            have BK292 := n1_
            have HB := n2_
            clear n0_ n1_ n2_
            (try clear hb)
            (try clear hb2)
            (try clear hk)
            (try clear hi)
            refine hK.out _ _ ⟨(b4 BK291.out 0).trans rfl, (b4 BK291.out 1).trans rfl, (b4 BK291.out 2).trans rfl, (b4 BK292.out 0).trans rfl, (b4 BK292.out 1).trans rfl, (b4 BK292.out 2).trans rfl⟩ (fun hHeld => ?_)
            clear hK K
            refine norm_ (a' := ?_) ?_ ?_
            rotate_left
            · show Act.put _ (some 14) _ = _
              simp only [Act.put, List.setIfInBounds_toArray, List.set_cons_zero, List.set_cons_succ, i64_w, i32_w]
              rfl
            refine one_ (i := 5) (N := some 17) #[true, true, true, true, true, true, false, false, false, false, false, false, false, false, false, false] rfl rfl (one_of HT_.out (by kernel_rfl)) (by decide) (fun K hK => ?_)
            refine goes_ Try.func9 (by kernel_rfl) rfl #[.agg #[.slice A0_0 l0_0.length c0_0, .slice A0_1 l0_1.length c0_1, .int .i64 a0_2], .agg #[.slice A1_0 l1_0.length c1_0, .slice A1_1 l1_1.length c1_1, .int .i64 a1_2]] (by rfl) rfl rfl (by (try simp only [List.map_toArray, List.map_cons, List.map_nil]); first | done | rfl | (simp only [List.length_drop, List.length_take]; rfl)) ?_
            with_reducible refine (runnelref17_Same.calls kj2 _ _ l0_0 _ _ l0_1 a0_2 _ _ l1_0 _ _ l1_1 a1_2 t297 _ ?side1 ?side2 ?side3 ?side4 ?side5 ?side6 ?side7 ?side8 A21.out).mono ?_
            (case side1 => repeat (first | exact (d1 HR0_0.out HB.out) | (with_reducible refine d2 ?_ _) | (with_reducible refine d3 ?_ _) | (with_reducible refine d4 ?_)))
            (case side2 => exact HC0_0.out)
            (case side3 => repeat (first | exact (d1 HR0_1.out HB.out) | (with_reducible refine d2 ?_ _) | (with_reducible refine d3 ?_ _) | (with_reducible refine d4 ?_)))
            (case side4 => exact HC0_1.out)
            (case side5 => repeat (first | exact (d1 HR1_0.out HB.out) | (with_reducible refine d2 ?_ _) | (with_reducible refine d3 ?_ _) | (with_reducible refine d4 ?_)))
            (case side6 => exact HC1_0.out)
            (case side7 => repeat (first | exact (d1 HR1_1.out HB.out) | (with_reducible refine d2 ?_ _) | (with_reducible refine d3 ?_ _) | (with_reducible refine d4 ?_)))
            (case side8 => exact HC1_1.out)
            rintro e w28 ⟨rfl, hb⟩
            refine ⟨_, rfl, ?_⟩
            have n0_ := am (b5 (g := gb291) (o := .cells #[.slice A0_0 l0_0.length c0_0, .slice A0_1 l0_1.length c0_1, .int .i64 a0_2] 25 (0, 0)) (by (with_reducible repeat (first | refine b1 ?_ _ | refine b2 ?_ | refine b3 ?_ _)); exact BK291.out) hb)
            have n1_ := am (b5 (g := gb292) (o := .cells #[.slice A1_0 l1_0.length c1_0, .slice A1_1 l1_1.length c1_1, .int .i64 a1_2] 25 (0, 0)) (by (with_reducible repeat (first | refine b1 ?_ _ | refine b2 ?_ | refine b3 ?_ _)); exact BK292.out) hb)
            have n2_ := am (below_step (by repeat (first | (with_reducible first | exact HB.out | apply c1 | apply c2 | apply c3 | refine c4 ?_ GE291.out | refine c4 ?_ GE292.out) | exact HB.out)) hb)
            clear BK291
            clear BK292
            clear HB
            have BK291 := n0_
            have BK292 := n1_
            have HB := n2_
            clear n0_ n1_ n2_
            (try clear hb)
            (try clear hb2)
            (try clear hk)
            (try clear hi)
            refine hK.out _ _ ⟨(b4 BK291.out 0).trans rfl, (b4 BK291.out 1).trans rfl, (b4 BK291.out 2).trans rfl, (b4 BK292.out 0).trans rfl, (b4 BK292.out 1).trans rfl, (b4 BK292.out 2).trans rfl⟩ (fun hHeld => ?_)
            clear hK K
            refine norm_ (a' := ?_) ?_ ?_
            rotate_left
            · show Act.put _ (some 17) _ = _
              simp only [Act.put, List.setIfInBounds_toArray, List.set_cons_zero, List.set_cons_succ, i64_w, i32_w]
              rfl
            refine pure_ (i := 6) (N := some 18) (v := ?_) (a' := ?_) #[true, true, true, true, true, true, true, false, false, false, false, false, false, false, false, false] rfl rfl (any_of HT_.out (by kernel_rfl)) (fun _ _ _ h => h) (Or.inl ⟨by rfl, ?_⟩) ?_ ?_
            rotate_left
            · intro w'
              go_simp
              with_reducible rfl
            rotate_left
            · simp only [Act.put, List.setIfInBounds_toArray, List.set_cons_zero, List.set_cons_succ, i64_w, i32_w]
              rfl
            refine pure_ (i := 7) (N := some 19) (v := ?_) (a' := ?_) #[true, true, true, true, true, true, true, true, false, false, false, false, false, false, false, false] rfl rfl (any_of HT_.out (by kernel_rfl)) (fun _ _ _ h => h) (Or.inl ⟨by rfl, ?_⟩) ?_ ?_
            rotate_left
            · intro w'
              go_simp
              with_reducible rfl
            rotate_left
            · simp only [Act.put, List.setIfInBounds_toArray, List.set_cons_zero, List.set_cons_succ, i64_w, i32_w]
              rfl
            refine take_ (i := 8) (N := some 20) (v := ?_) (a' := ?_) #[true, true, true, true, true, true, true, true, true, false, false, false, false, false, false, false] rfl rfl (take_ofW HT_.out HW_.out (by kernel_rfl)) (fun _ _ _ h => h) (Or.inl ⟨by rfl, ?_⟩) hHeld ?_ ?_
            rotate_left
            · rintro w' ⟨s0, s1, s2, s3, s4, s5⟩
              go_simp
              with_reducible rfl
            rotate_left
            · simp only [Act.put, List.setIfInBounds_toArray, List.set_cons_zero, List.set_cons_succ, i64_w, i32_w]
              rfl
            refine take_ (i := 9) (N := some 21) (v := ?_) (a' := ?_) #[true, true, true, true, true, true, true, true, true, true, false, false, false, false, false, false] rfl rfl (take_ofW HT_.out HW_.out (by kernel_rfl)) (fun _ _ _ h => h) (Or.inl ⟨by rfl, ?_⟩) hHeld ?_ ?_
            rotate_left
            · rintro w' ⟨s0, s1, s2, s3, s4, s5⟩
              go_simp
              with_reducible rfl
            rotate_left
            · simp only [Act.put, List.setIfInBounds_toArray, List.set_cons_zero, List.set_cons_succ, i64_w, i32_w]
              rfl
            refine one_ (i := 10) (N := some 22) #[true, true, true, true, true, true, true, true, true, true, true, false, false, false, false, false] rfl rfl (one_of HT_.out (by kernel_rfl)) (by decide) (fun K hK => ?_)
            refine goes_ Try.func8 (by kernel_rfl) rfl #[.agg #[.slice A0_0 l0_0.length c0_0, .slice A0_1 l0_1.length c0_1, .int .i64 a0_2], .agg #[.slice A0_0 l0_0.length c0_0, .slice A0_1 l0_1.length c0_1, .int .i64 a0_2]] (by rfl) rfl rfl (by (try simp only [List.map_toArray, List.map_cons, List.map_nil]); first | done | rfl | (simp only [List.length_drop, List.length_take]; rfl)) ?_
            with_reducible refine (sheet_Same.calls kj2 _ _ l0_0 _ _ l0_1 a0_2 _ _ l0_0 _ _ l0_1 a0_2 true _ ?side1 ?side2 ?side3 ?side4 ?side5 ?side6 ?side7 ?side8 A23.out).mono ?_
            (case side1 => repeat (first | exact (d1 HR0_0.out HB.out) | (with_reducible refine d2 ?_ _) | (with_reducible refine d3 ?_ _) | (with_reducible refine d4 ?_)))
            (case side2 => exact HC0_0.out)
            (case side3 => repeat (first | exact (d1 HR0_1.out HB.out) | (with_reducible refine d2 ?_ _) | (with_reducible refine d3 ?_ _) | (with_reducible refine d4 ?_)))
            (case side4 => exact HC0_1.out)
            (case side5 => repeat (first | exact (d1 HR0_0.out HB.out) | (with_reducible refine d2 ?_ _) | (with_reducible refine d3 ?_ _) | (with_reducible refine d4 ?_)))
            (case side6 => exact HC0_0.out)
            (case side7 => repeat (first | exact (d1 HR0_1.out HB.out) | (with_reducible refine d2 ?_ _) | (with_reducible refine d3 ?_ _) | (with_reducible refine d4 ?_)))
            (case side8 => exact HC0_1.out)
            rintro e w29 ⟨rfl, hb⟩
            refine ⟨_, rfl, ?_⟩
            have n0_ := am (b5 (g := gb291) (o := .cells #[.slice A0_0 l0_0.length c0_0, .slice A0_1 l0_1.length c0_1, .int .i64 a0_2] 25 (0, 0)) (by (with_reducible repeat (first | refine b1 ?_ _ | refine b2 ?_ | refine b3 ?_ _)); exact BK291.out) hb)
            have n1_ := am (b5 (g := gb292) (o := .cells #[.slice A1_0 l1_0.length c1_0, .slice A1_1 l1_1.length c1_1, .int .i64 a1_2] 25 (0, 0)) (by (with_reducible repeat (first | refine b1 ?_ _ | refine b2 ?_ | refine b3 ?_ _)); exact BK292.out) hb)
            have n2_ := am (below_step (by repeat (first | (with_reducible first | exact HB.out | apply c1 | apply c2 | apply c3 | refine c4 ?_ GE291.out | refine c4 ?_ GE292.out) | exact HB.out)) hb)
            clear BK291
            clear BK292
            clear HB
            have BK291 := n0_
            have BK292 := n1_
            have HB := n2_
            clear n0_ n1_ n2_
            (try clear hb)
            (try clear hb2)
            (try clear hk)
            (try clear hi)
            refine hK.out _ _ ⟨(b4 BK291.out 0).trans rfl, (b4 BK291.out 1).trans rfl, (b4 BK291.out 2).trans rfl, (b4 BK292.out 0).trans rfl, (b4 BK292.out 1).trans rfl, (b4 BK292.out 2).trans rfl⟩ (fun hHeld => ?_)
            clear hK K
            refine norm_ (a' := ?_) ?_ ?_
            rotate_left
            · show Act.put _ (some 22) _ = _
              simp only [Act.put, List.setIfInBounds_toArray, List.set_cons_zero, List.set_cons_succ, i64_w, i32_w]
              rfl
            refine pure_ (i := 11) (N := some 23) (v := ?_) (a' := ?_) #[true, true, true, true, true, true, true, true, true, true, true, true, false, false, false, false] rfl rfl (any_of HT_.out (by kernel_rfl)) (fun _ _ _ h => h) (Or.inl ⟨by rfl, ?_⟩) ?_ ?_
            rotate_left
            · intro w'
              go_simp
              with_reducible rfl
            rotate_left
            · simp only [Act.put, List.setIfInBounds_toArray, List.set_cons_zero, List.set_cons_succ, i64_w, i32_w]
              rfl
            refine pure_ (i := 12) (N := some 24) (v := ?_) (a' := ?_) #[true, true, true, true, true, true, true, true, true, true, true, true, true, false, false, false] rfl rfl (any_of HT_.out (by kernel_rfl)) (fun _ _ _ h => h) (Or.inl ⟨by rfl, ?_⟩) ?_ ?_
            rotate_left
            · intro w'
              go_simp
              with_reducible rfl
            rotate_left
            · simp only [Act.put, List.setIfInBounds_toArray, List.set_cons_zero, List.set_cons_succ, i64_w, i32_w]
              rfl
            refine one_ (i := 13) (N := some 25) #[true, true, true, true, true, true, true, true, true, true, true, true, true, true, false, false] rfl rfl (one_of HT_.out (by kernel_rfl)) (by decide) (fun K hK => ?_)
            refine goes_ Try.func7 (by kernel_rfl) rfl #[] (by rfl) rfl rfl (by (try simp only [List.map_toArray, List.map_cons, List.map_nil]); first | done | rfl | (simp only [List.length_drop, List.length_take]; rfl)) ?_
            with_reducible refine (runnellaw17_live.calls kj2  t299 _ A25.out).mono ?_
            rintro e w30 ⟨rfl, hb⟩
            refine ⟨_, rfl, ?_⟩
            have n0_ := am (b5 (g := gb291) (o := .cells #[.slice A0_0 l0_0.length c0_0, .slice A0_1 l0_1.length c0_1, .int .i64 a0_2] 25 (0, 0)) (by (with_reducible repeat (first | refine b1 ?_ _ | refine b2 ?_ | refine b3 ?_ _)); exact BK291.out) hb)
            have n1_ := am (b5 (g := gb292) (o := .cells #[.slice A1_0 l1_0.length c1_0, .slice A1_1 l1_1.length c1_1, .int .i64 a1_2] 25 (0, 0)) (by (with_reducible repeat (first | refine b1 ?_ _ | refine b2 ?_ | refine b3 ?_ _)); exact BK292.out) hb)
            have n2_ := am (below_step (by repeat (first | (with_reducible first | exact HB.out | apply c1 | apply c2 | apply c3 | refine c4 ?_ GE291.out | refine c4 ?_ GE292.out) | exact HB.out)) hb)
            clear BK291
            clear BK292
            clear HB
            have BK291 := n0_
            have BK292 := n1_
            have HB := n2_
            clear n0_ n1_ n2_
            (try clear hb)
            (try clear hb2)
            (try clear hk)
            (try clear hi)
            refine hK.out _ _ ⟨(b4 BK291.out 0).trans rfl, (b4 BK291.out 1).trans rfl, (b4 BK291.out 2).trans rfl, (b4 BK292.out 0).trans rfl, (b4 BK292.out 1).trans rfl, (b4 BK292.out 2).trans rfl⟩ (fun hHeld => ?_)
            clear hK K
            refine norm_ (a' := ?_) ?_ ?_
            rotate_left
            · show Act.put _ (some 25) _ = _
              simp only [Act.put, List.setIfInBounds_toArray, List.set_cons_zero, List.set_cons_succ, i64_w, i32_w]
              rfl
            refine pure_ (i := 14) (N := some 26) (v := ?_) (a' := ?_) #[true, true, true, true, true, true, true, true, true, true, true, true, true, true, true, false] rfl rfl (any_of HT_.out (by kernel_rfl)) (fun _ _ _ h => h) (Or.inl ⟨by rfl, ?_⟩) ?_ ?_
            rotate_left
            · intro w'
              go_simp
              with_reducible rfl
            rotate_left
            · simp only [Act.put, List.setIfInBounds_toArray, List.set_cons_zero, List.set_cons_succ, i64_w, i32_w]
              rfl
            refine pure_ (i := 15) (N := some 4) (v := ?_) (a' := ?_) #[true, true, true, true, true, true, true, true, true, true, true, true, true, true, true, true] rfl rfl (any_of HT_.out (by kernel_rfl)) (fun _ _ _ h => h) (Or.inl ⟨by rfl, ?_⟩) ?_ ?_
            rotate_left
            · intro w'
              go_simp
              with_reducible rfl
            rotate_left
            · simp only [Act.put, List.setIfInBounds_toArray, List.set_cons_zero, List.set_cons_succ, i64_w, i32_w]
              rfl
            refine done_ (done_of HT_.out (by kernel_rfl)) ?_
            try go_wp2
            go_ret
            exact ⟨by first | rfl | (simp [errW_none, errW_some] <;> rfl) | (simp [*, errW_none, errW_some] <;> rfl), by repeat (first | (with_reducible first | exact HB.out | apply c1 | apply c2 | apply c3 | refine c4 ?_ GE291.out | refine c4 ?_ GE292.out) | exact HB.out)⟩
          · replace c24 := Bool.eq_false_iff.mpr c24
            subst c24
            have H1 : (some false) = some r := by rw [if_neg (show ¬ (false = true) by decide)] at H; exact H
            clear H
            have H := H1
            clear H1
            obtain rfl := Option.some.inj H
            try go_wp2
            have n0_ := am (b2 BK291.out)
            have n1_ := am (b2 BK292.out)
            have n2_ := am (c3 HB.out)
            clear BK291
            clear BK292
            clear HB
            have BK291 := n0_
            have BK292 := n1_
            have HB := n2_
            clear n0_ n1_ n2_
            refine start_ (n := 16) (S := fun w' => w'.cell? ⟨gb291, 0, none⟩ = some (.slice A0_0 l0_0.length c0_0) ∧ w'.cell? ⟨gb291, 1, none⟩ = some (.slice A0_1 l0_1.length c0_1) ∧ w'.cell? ⟨gb291, 2, none⟩ = some (.int .i64 a0_2) ∧ w'.cell? ⟨gb292, 0, none⟩ = some (.slice A1_0 l1_0.length c1_0) ∧ w'.cell? ⟨gb292, 1, none⟩ = some (.slice A1_1 l1_1.length c1_1) ∧ w'.cell? ⟨gb292, 2, none⟩ = some (.int .i64 a1_2)) (ds := []) #[false, false, false, false, false, false, false, false, false, false, false, false, false, false, false, false] (by kernel_rfl) rfl rfl ⟨(b4 BK291.out 0).trans rfl, (b4 BK291.out 1).trans rfl, (b4 BK291.out 2).trans rfl, (b4 BK292.out 0).trans rfl, (b4 BK292.out 1).trans rfl, (b4 BK292.out 2).trans rfl⟩ (fun hHeld => ?_); refine with_tabW runnellaw17_SheetSame.tab3 runnellaw17_SheetSame.bits3 (fun HT_ HW_ => ?_)
            generalize wc.drew = w31 at BK291 BK292 HB hHeld ⊢
            refine take_ (i := 0) (N := some 12) (v := ?_) (a' := ?_) #[true, false, false, false, false, false, false, false, false, false, false, false, false, false, false, false] rfl rfl (take_ofW HT_.out HW_.out (by kernel_rfl)) (fun _ _ _ h => h) (Or.inl ⟨by rfl, ?_⟩) hHeld ?_ ?_
            rotate_left
            · rintro w' ⟨s0, s1, s2, s3, s4, s5⟩
              go_simp
              with_reducible rfl
            rotate_left
            · simp only [Act.put, List.setIfInBounds_toArray, List.set_cons_zero, List.set_cons_succ, i64_w, i32_w]
              rfl
            refine take_ (i := 1) (N := some 13) (v := ?_) (a' := ?_) #[true, true, false, false, false, false, false, false, false, false, false, false, false, false, false, false] rfl rfl (take_ofW HT_.out HW_.out (by kernel_rfl)) (fun _ _ _ h => h) (Or.inl ⟨by rfl, ?_⟩) hHeld ?_ ?_
            rotate_left
            · rintro w' ⟨s0, s1, s2, s3, s4, s5⟩
              go_simp
              with_reducible rfl
            rotate_left
            · simp only [Act.put, List.setIfInBounds_toArray, List.set_cons_zero, List.set_cons_succ, i64_w, i32_w]
              rfl
            refine take_ (i := 3) (N := some 15) (v := ?_) (a' := ?_) #[true, true, false, true, false, false, false, false, false, false, false, false, false, false, false, false] rfl rfl (take_ofW HT_.out HW_.out (by kernel_rfl)) (fun _ _ _ h => h) (Or.inl ⟨by rfl, ?_⟩) hHeld ?_ ?_
            rotate_left
            · rintro w' ⟨s0, s1, s2, s3, s4, s5⟩
              go_simp
              with_reducible rfl
            rotate_left
            · simp only [Act.put, List.setIfInBounds_toArray, List.set_cons_zero, List.set_cons_succ, i64_w, i32_w]
              rfl
            refine take_ (i := 4) (N := some 16) (v := ?_) (a' := ?_) #[true, true, false, true, true, false, false, false, false, false, false, false, false, false, false, false] rfl rfl (take_ofW HT_.out HW_.out (by kernel_rfl)) (fun _ _ _ h => h) (Or.inl ⟨by rfl, ?_⟩) hHeld ?_ ?_
            rotate_left
            · rintro w' ⟨s0, s1, s2, s3, s4, s5⟩
              go_simp
              with_reducible rfl
            rotate_left
            · simp only [Act.put, List.setIfInBounds_toArray, List.set_cons_zero, List.set_cons_succ, i64_w, i32_w]
              rfl
            refine one_ (i := 2) (N := some 14) #[true, true, true, true, true, false, false, false, false, false, false, false, false, false, false, false] rfl rfl (one_of HT_.out (by kernel_rfl)) (by decide) (fun K hK => ?_)
            refine goes_ Try.func8 (by kernel_rfl) rfl #[.agg #[.slice A0_0 l0_0.length c0_0, .slice A0_1 l0_1.length c0_1, .int .i64 a0_2], .agg #[.slice A1_0 l1_0.length c1_0, .slice A1_1 l1_1.length c1_1, .int .i64 a1_2]] (by rfl) rfl rfl (by (try simp only [List.map_toArray, List.map_cons, List.map_nil]); first | done | rfl | (simp only [List.length_drop, List.length_take]; rfl)) ?_
            with_reducible refine (sheet_Same.calls kj2 _ _ l0_0 _ _ l0_1 a0_2 _ _ l1_0 _ _ l1_1 a1_2 t296 _ ?side1 ?side2 ?side3 ?side4 ?side5 ?side6 ?side7 ?side8 A20.out).mono ?_
            (case side1 => repeat (first | exact (d1 HR0_0.out HB.out) | (with_reducible refine d2 ?_ _) | (with_reducible refine d3 ?_ _) | (with_reducible refine d4 ?_)))
            (case side2 => exact HC0_0.out)
            (case side3 => repeat (first | exact (d1 HR0_1.out HB.out) | (with_reducible refine d2 ?_ _) | (with_reducible refine d3 ?_ _) | (with_reducible refine d4 ?_)))
            (case side4 => exact HC0_1.out)
            (case side5 => repeat (first | exact (d1 HR1_0.out HB.out) | (with_reducible refine d2 ?_ _) | (with_reducible refine d3 ?_ _) | (with_reducible refine d4 ?_)))
            (case side6 => exact HC1_0.out)
            (case side7 => repeat (first | exact (d1 HR1_1.out HB.out) | (with_reducible refine d2 ?_ _) | (with_reducible refine d3 ?_ _) | (with_reducible refine d4 ?_)))
            (case side8 => exact HC1_1.out)
            rintro e w32 ⟨rfl, hb⟩
            refine ⟨_, rfl, ?_⟩
            have n0_ := am (b5 (g := gb291) (o := .cells #[.slice A0_0 l0_0.length c0_0, .slice A0_1 l0_1.length c0_1, .int .i64 a0_2] 25 (0, 0)) (by (with_reducible repeat (first | refine b1 ?_ _ | refine b2 ?_ | refine b3 ?_ _)); exact BK291.out) hb)
            have n1_ := am (b5 (g := gb292) (o := .cells #[.slice A1_0 l1_0.length c1_0, .slice A1_1 l1_1.length c1_1, .int .i64 a1_2] 25 (0, 0)) (by (with_reducible repeat (first | refine b1 ?_ _ | refine b2 ?_ | refine b3 ?_ _)); exact BK292.out) hb)
            have n2_ := am (below_step (by repeat (first | (with_reducible first | exact HB.out | apply c1 | apply c2 | apply c3 | refine c4 ?_ GE291.out | refine c4 ?_ GE292.out) | exact HB.out)) hb)
            clear BK291
            clear BK292
            clear HB
            have BK291 := n0_
            have BK292 := n1_
            have HB := n2_
            clear n0_ n1_ n2_
            (try clear hb)
            (try clear hb2)
            (try clear hk)
            (try clear hi)
            refine hK.out _ _ ⟨(b4 BK291.out 0).trans rfl, (b4 BK291.out 1).trans rfl, (b4 BK291.out 2).trans rfl, (b4 BK292.out 0).trans rfl, (b4 BK292.out 1).trans rfl, (b4 BK292.out 2).trans rfl⟩ (fun hHeld => ?_)
            clear hK K
            refine norm_ (a' := ?_) ?_ ?_
            rotate_left
            · show Act.put _ (some 14) _ = _
              simp only [Act.put, List.setIfInBounds_toArray, List.set_cons_zero, List.set_cons_succ, i64_w, i32_w]
              rfl
            refine one_ (i := 5) (N := some 17) #[true, true, true, true, true, true, false, false, false, false, false, false, false, false, false, false] rfl rfl (one_of HT_.out (by kernel_rfl)) (by decide) (fun K hK => ?_)
            refine goes_ Try.func9 (by kernel_rfl) rfl #[.agg #[.slice A0_0 l0_0.length c0_0, .slice A0_1 l0_1.length c0_1, .int .i64 a0_2], .agg #[.slice A1_0 l1_0.length c1_0, .slice A1_1 l1_1.length c1_1, .int .i64 a1_2]] (by rfl) rfl rfl (by (try simp only [List.map_toArray, List.map_cons, List.map_nil]); first | done | rfl | (simp only [List.length_drop, List.length_take]; rfl)) ?_
            with_reducible refine (runnelref17_Same.calls kj2 _ _ l0_0 _ _ l0_1 a0_2 _ _ l1_0 _ _ l1_1 a1_2 t297 _ ?side1 ?side2 ?side3 ?side4 ?side5 ?side6 ?side7 ?side8 A21.out).mono ?_
            (case side1 => repeat (first | exact (d1 HR0_0.out HB.out) | (with_reducible refine d2 ?_ _) | (with_reducible refine d3 ?_ _) | (with_reducible refine d4 ?_)))
            (case side2 => exact HC0_0.out)
            (case side3 => repeat (first | exact (d1 HR0_1.out HB.out) | (with_reducible refine d2 ?_ _) | (with_reducible refine d3 ?_ _) | (with_reducible refine d4 ?_)))
            (case side4 => exact HC0_1.out)
            (case side5 => repeat (first | exact (d1 HR1_0.out HB.out) | (with_reducible refine d2 ?_ _) | (with_reducible refine d3 ?_ _) | (with_reducible refine d4 ?_)))
            (case side6 => exact HC1_0.out)
            (case side7 => repeat (first | exact (d1 HR1_1.out HB.out) | (with_reducible refine d2 ?_ _) | (with_reducible refine d3 ?_ _) | (with_reducible refine d4 ?_)))
            (case side8 => exact HC1_1.out)
            rintro e w33 ⟨rfl, hb⟩
            refine ⟨_, rfl, ?_⟩
            have n0_ := am (b5 (g := gb291) (o := .cells #[.slice A0_0 l0_0.length c0_0, .slice A0_1 l0_1.length c0_1, .int .i64 a0_2] 25 (0, 0)) (by (with_reducible repeat (first | refine b1 ?_ _ | refine b2 ?_ | refine b3 ?_ _)); exact BK291.out) hb)
            have n1_ := am (b5 (g := gb292) (o := .cells #[.slice A1_0 l1_0.length c1_0, .slice A1_1 l1_1.length c1_1, .int .i64 a1_2] 25 (0, 0)) (by (with_reducible repeat (first | refine b1 ?_ _ | refine b2 ?_ | refine b3 ?_ _)); exact BK292.out) hb)
            have n2_ := am (below_step (by repeat (first | (with_reducible first | exact HB.out | apply c1 | apply c2 | apply c3 | refine c4 ?_ GE291.out | refine c4 ?_ GE292.out) | exact HB.out)) hb)
            clear BK291
            clear BK292
            clear HB
            have BK291 := n0_
            have BK292 := n1_
            have HB := n2_
            clear n0_ n1_ n2_
            (try clear hb)
            (try clear hb2)
            (try clear hk)
            (try clear hi)
            refine hK.out _ _ ⟨(b4 BK291.out 0).trans rfl, (b4 BK291.out 1).trans rfl, (b4 BK291.out 2).trans rfl, (b4 BK292.out 0).trans rfl, (b4 BK292.out 1).trans rfl, (b4 BK292.out 2).trans rfl⟩ (fun hHeld => ?_)
            clear hK K
            refine norm_ (a' := ?_) ?_ ?_
            rotate_left
            · show Act.put _ (some 17) _ = _
              simp only [Act.put, List.setIfInBounds_toArray, List.set_cons_zero, List.set_cons_succ, i64_w, i32_w]
              rfl
            refine pure_ (i := 6) (N := some 18) (v := ?_) (a' := ?_) #[true, true, true, true, true, true, true, false, false, false, false, false, false, false, false, false] rfl rfl (any_of HT_.out (by kernel_rfl)) (fun _ _ _ h => h) (Or.inl ⟨by rfl, ?_⟩) ?_ ?_
            rotate_left
            · intro w'
              go_simp
              with_reducible rfl
            rotate_left
            · simp only [Act.put, List.setIfInBounds_toArray, List.set_cons_zero, List.set_cons_succ, i64_w, i32_w]
              rfl
            refine pure_ (i := 7) (N := some 19) (v := ?_) (a' := ?_) #[true, true, true, true, true, true, true, true, false, false, false, false, false, false, false, false] rfl rfl (any_of HT_.out (by kernel_rfl)) (fun _ _ _ h => h) (Or.inl ⟨by rfl, ?_⟩) ?_ ?_
            rotate_left
            · intro w'
              go_simp
              with_reducible rfl
            rotate_left
            · simp only [Act.put, List.setIfInBounds_toArray, List.set_cons_zero, List.set_cons_succ, i64_w, i32_w]
              rfl
            refine take_ (i := 8) (N := some 20) (v := ?_) (a' := ?_) #[true, true, true, true, true, true, true, true, true, false, false, false, false, false, false, false] rfl rfl (take_ofW HT_.out HW_.out (by kernel_rfl)) (fun _ _ _ h => h) (Or.inl ⟨by rfl, ?_⟩) hHeld ?_ ?_
            rotate_left
            · rintro w' ⟨s0, s1, s2, s3, s4, s5⟩
              go_simp
              with_reducible rfl
            rotate_left
            · simp only [Act.put, List.setIfInBounds_toArray, List.set_cons_zero, List.set_cons_succ, i64_w, i32_w]
              rfl
            refine take_ (i := 9) (N := some 21) (v := ?_) (a' := ?_) #[true, true, true, true, true, true, true, true, true, true, false, false, false, false, false, false] rfl rfl (take_ofW HT_.out HW_.out (by kernel_rfl)) (fun _ _ _ h => h) (Or.inl ⟨by rfl, ?_⟩) hHeld ?_ ?_
            rotate_left
            · rintro w' ⟨s0, s1, s2, s3, s4, s5⟩
              go_simp
              with_reducible rfl
            rotate_left
            · simp only [Act.put, List.setIfInBounds_toArray, List.set_cons_zero, List.set_cons_succ, i64_w, i32_w]
              rfl
            refine one_ (i := 10) (N := some 22) #[true, true, true, true, true, true, true, true, true, true, true, false, false, false, false, false] rfl rfl (one_of HT_.out (by kernel_rfl)) (by decide) (fun K hK => ?_)
            refine goes_ Try.func8 (by kernel_rfl) rfl #[.agg #[.slice A0_0 l0_0.length c0_0, .slice A0_1 l0_1.length c0_1, .int .i64 a0_2], .agg #[.slice A0_0 l0_0.length c0_0, .slice A0_1 l0_1.length c0_1, .int .i64 a0_2]] (by rfl) rfl rfl (by (try simp only [List.map_toArray, List.map_cons, List.map_nil]); first | done | rfl | (simp only [List.length_drop, List.length_take]; rfl)) ?_
            with_reducible refine (sheet_Same.calls kj2 _ _ l0_0 _ _ l0_1 a0_2 _ _ l0_0 _ _ l0_1 a0_2 false _ ?side1 ?side2 ?side3 ?side4 ?side5 ?side6 ?side7 ?side8 A23.out).mono ?_
            (case side1 => repeat (first | exact (d1 HR0_0.out HB.out) | (with_reducible refine d2 ?_ _) | (with_reducible refine d3 ?_ _) | (with_reducible refine d4 ?_)))
            (case side2 => exact HC0_0.out)
            (case side3 => repeat (first | exact (d1 HR0_1.out HB.out) | (with_reducible refine d2 ?_ _) | (with_reducible refine d3 ?_ _) | (with_reducible refine d4 ?_)))
            (case side4 => exact HC0_1.out)
            (case side5 => repeat (first | exact (d1 HR0_0.out HB.out) | (with_reducible refine d2 ?_ _) | (with_reducible refine d3 ?_ _) | (with_reducible refine d4 ?_)))
            (case side6 => exact HC0_0.out)
            (case side7 => repeat (first | exact (d1 HR0_1.out HB.out) | (with_reducible refine d2 ?_ _) | (with_reducible refine d3 ?_ _) | (with_reducible refine d4 ?_)))
            (case side8 => exact HC0_1.out)
            rintro e w34 ⟨rfl, hb⟩
            refine ⟨_, rfl, ?_⟩
            have n0_ := am (b5 (g := gb291) (o := .cells #[.slice A0_0 l0_0.length c0_0, .slice A0_1 l0_1.length c0_1, .int .i64 a0_2] 25 (0, 0)) (by (with_reducible repeat (first | refine b1 ?_ _ | refine b2 ?_ | refine b3 ?_ _)); exact BK291.out) hb)
            have n1_ := am (b5 (g := gb292) (o := .cells #[.slice A1_0 l1_0.length c1_0, .slice A1_1 l1_1.length c1_1, .int .i64 a1_2] 25 (0, 0)) (by (with_reducible repeat (first | refine b1 ?_ _ | refine b2 ?_ | refine b3 ?_ _)); exact BK292.out) hb)
            have n2_ := am (below_step (by repeat (first | (with_reducible first | exact HB.out | apply c1 | apply c2 | apply c3 | refine c4 ?_ GE291.out | refine c4 ?_ GE292.out) | exact HB.out)) hb)
            clear BK291
            clear BK292
            clear HB
            have BK291 := n0_
            have BK292 := n1_
            have HB := n2_
            clear n0_ n1_ n2_
            (try clear hb)
            (try clear hb2)
            (try clear hk)
            (try clear hi)
            refine hK.out _ _ ⟨(b4 BK291.out 0).trans rfl, (b4 BK291.out 1).trans rfl, (b4 BK291.out 2).trans rfl, (b4 BK292.out 0).trans rfl, (b4 BK292.out 1).trans rfl, (b4 BK292.out 2).trans rfl⟩ (fun hHeld => ?_)
            clear hK K
            refine norm_ (a' := ?_) ?_ ?_
            rotate_left
            · show Act.put _ (some 22) _ = _
              simp only [Act.put, List.setIfInBounds_toArray, List.set_cons_zero, List.set_cons_succ, i64_w, i32_w]
              rfl
            refine pure_ (i := 11) (N := some 23) (v := ?_) (a' := ?_) #[true, true, true, true, true, true, true, true, true, true, true, true, false, false, false, false] rfl rfl (any_of HT_.out (by kernel_rfl)) (fun _ _ _ h => h) (Or.inl ⟨by rfl, ?_⟩) ?_ ?_
            rotate_left
            · intro w'
              go_simp
              with_reducible rfl
            rotate_left
            · simp only [Act.put, List.setIfInBounds_toArray, List.set_cons_zero, List.set_cons_succ, i64_w, i32_w]
              rfl
            refine pure_ (i := 12) (N := some 24) (v := ?_) (a' := ?_) #[true, true, true, true, true, true, true, true, true, true, true, true, true, false, false, false] rfl rfl (any_of HT_.out (by kernel_rfl)) (fun _ _ _ h => h) (Or.inl ⟨by rfl, ?_⟩) ?_ ?_
            rotate_left
            · intro w'
              go_simp
              with_reducible rfl
            rotate_left
            · simp only [Act.put, List.setIfInBounds_toArray, List.set_cons_zero, List.set_cons_succ, i64_w, i32_w]
              rfl
            refine pure_ (i := 13) (N := some 25) (v := undef) (a' := ?_) #[true, true, true, true, true, true, true, true, true, true, true, true, true, true, false, false] rfl rfl (any_of HT_.out (by kernel_rfl)) (fun _ _ _ h => h) (Or.inr ⟨by rfl, rfl⟩) ?_ ?_
            rotate_left
            · simp only [Act.put, List.setIfInBounds_toArray, List.set_cons_zero, List.set_cons_succ, i64_w, i32_w]
              rfl
            refine pure_ (i := 14) (N := some 26) (v := ?_) (a' := ?_) #[true, true, true, true, true, true, true, true, true, true, true, true, true, true, true, false] rfl rfl (any_of HT_.out (by kernel_rfl)) (fun _ _ _ h => h) (Or.inl ⟨by rfl, ?_⟩) ?_ ?_
            rotate_left
            · intro w'
              go_simp
              with_reducible rfl
            rotate_left
            · simp only [Act.put, List.setIfInBounds_toArray, List.set_cons_zero, List.set_cons_succ, i64_w, i32_w]
              rfl
            refine pure_ (i := 15) (N := some 4) (v := ?_) (a' := ?_) #[true, true, true, true, true, true, true, true, true, true, true, true, true, true, true, true] rfl rfl (any_of HT_.out (by kernel_rfl)) (fun _ _ _ h => h) (Or.inl ⟨by rfl, ?_⟩) ?_ ?_
            rotate_left
            · intro w'
              go_simp
              with_reducible rfl
            rotate_left
            · simp only [Act.put, List.setIfInBounds_toArray, List.set_cons_zero, List.set_cons_succ, i64_w, i32_w]
              rfl
            refine done_ (done_of HT_.out (by kernel_rfl)) ?_
            try go_wp2
            go_ret
            exact ⟨by first | rfl | (simp [errW_none, errW_some] <;> rfl) | (simp [*, errW_none, errW_some] <;> rfl), by repeat (first | (with_reducible first | exact HB.out | apply c1 | apply c2 | apply c3 | refine c4 ?_ GE291.out | refine c4 ?_ GE292.out) | exact HB.out)⟩
        · rw [if_neg c22] at H
          have c22b0 : (t296 == t297) = false := by simpa using c22
          (try (have c22b1 : decide (t296 = t297) = false := by simpa using c22))
          (try (have c22b2 : (t296 == t297) = false := by simpa using c22))
          (try (have c22b3 : ¬ (t296 = t297) := by simpa using c22))
          clear c22
          obtain rfl := Option.some.inj H
          try go_wp2
          have n0_ := am (b2 BK291.out)
          have n1_ := am (b2 BK292.out)
          have n2_ := am (c3 HB.out)
          clear BK291
          clear BK292
          clear HB
          have BK291 := n0_
          have BK292 := n1_
          have HB := n2_
          clear n0_ n1_ n2_
          refine start_ (n := 16) (S := fun w' => w'.cell? ⟨gb291, 0, none⟩ = some (.slice A0_0 l0_0.length c0_0) ∧ w'.cell? ⟨gb291, 1, none⟩ = some (.slice A0_1 l0_1.length c0_1) ∧ w'.cell? ⟨gb291, 2, none⟩ = some (.int .i64 a0_2) ∧ w'.cell? ⟨gb292, 0, none⟩ = some (.slice A1_0 l1_0.length c1_0) ∧ w'.cell? ⟨gb292, 1, none⟩ = some (.slice A1_1 l1_1.length c1_1) ∧ w'.cell? ⟨gb292, 2, none⟩ = some (.int .i64 a1_2)) (ds := []) #[false, false, false, false, false, false, false, false, false, false, false, false, false, false, false, false] (by kernel_rfl) rfl rfl ⟨(b4 BK291.out 0).trans rfl, (b4 BK291.out 1).trans rfl, (b4 BK291.out 2).trans rfl, (b4 BK292.out 0).trans rfl, (b4 BK292.out 1).trans rfl, (b4 BK292.out 2).trans rfl⟩ (fun hHeld => ?_); refine with_tabW runnellaw17_SheetSame.tab3 runnellaw17_SheetSame.bits3 (fun HT_ HW_ => ?_)
          generalize wc.drew = w35 at BK291 BK292 HB hHeld ⊢
          refine take_ (i := 0) (N := some 12) (v := ?_) (a' := ?_) #[true, false, false, false, false, false, false, false, false, false, false, false, false, false, false, false] rfl rfl (take_ofW HT_.out HW_.out (by kernel_rfl)) (fun _ _ _ h => h) (Or.inl ⟨by rfl, ?_⟩) hHeld ?_ ?_
          rotate_left
          · rintro w' ⟨s0, s1, s2, s3, s4, s5⟩
            go_simp
            with_reducible rfl
          rotate_left
          · simp only [Act.put, List.setIfInBounds_toArray, List.set_cons_zero, List.set_cons_succ, i64_w, i32_w]
            rfl
          refine take_ (i := 1) (N := some 13) (v := ?_) (a' := ?_) #[true, true, false, false, false, false, false, false, false, false, false, false, false, false, false, false] rfl rfl (take_ofW HT_.out HW_.out (by kernel_rfl)) (fun _ _ _ h => h) (Or.inl ⟨by rfl, ?_⟩) hHeld ?_ ?_
          rotate_left
          · rintro w' ⟨s0, s1, s2, s3, s4, s5⟩
            go_simp
            with_reducible rfl
          rotate_left
          · simp only [Act.put, List.setIfInBounds_toArray, List.set_cons_zero, List.set_cons_succ, i64_w, i32_w]
            rfl
          refine take_ (i := 3) (N := some 15) (v := ?_) (a' := ?_) #[true, true, false, true, false, false, false, false, false, false, false, false, false, false, false, false] rfl rfl (take_ofW HT_.out HW_.out (by kernel_rfl)) (fun _ _ _ h => h) (Or.inl ⟨by rfl, ?_⟩) hHeld ?_ ?_
          rotate_left
          · rintro w' ⟨s0, s1, s2, s3, s4, s5⟩
            go_simp
            with_reducible rfl
          rotate_left
          · simp only [Act.put, List.setIfInBounds_toArray, List.set_cons_zero, List.set_cons_succ, i64_w, i32_w]
            rfl
          refine take_ (i := 4) (N := some 16) (v := ?_) (a' := ?_) #[true, true, false, true, true, false, false, false, false, false, false, false, false, false, false, false] rfl rfl (take_ofW HT_.out HW_.out (by kernel_rfl)) (fun _ _ _ h => h) (Or.inl ⟨by rfl, ?_⟩) hHeld ?_ ?_
          rotate_left
          · rintro w' ⟨s0, s1, s2, s3, s4, s5⟩
            go_simp
            with_reducible rfl
          rotate_left
          · simp only [Act.put, List.setIfInBounds_toArray, List.set_cons_zero, List.set_cons_succ, i64_w, i32_w]
            rfl
          refine one_ (i := 2) (N := some 14) #[true, true, true, true, true, false, false, false, false, false, false, false, false, false, false, false] rfl rfl (one_of HT_.out (by kernel_rfl)) (by decide) (fun K hK => ?_)
          refine goes_ Try.func8 (by kernel_rfl) rfl #[.agg #[.slice A0_0 l0_0.length c0_0, .slice A0_1 l0_1.length c0_1, .int .i64 a0_2], .agg #[.slice A1_0 l1_0.length c1_0, .slice A1_1 l1_1.length c1_1, .int .i64 a1_2]] (by rfl) rfl rfl (by (try simp only [List.map_toArray, List.map_cons, List.map_nil]); first | done | rfl | (simp only [List.length_drop, List.length_take]; rfl)) ?_
          with_reducible refine (sheet_Same.calls kj2 _ _ l0_0 _ _ l0_1 a0_2 _ _ l1_0 _ _ l1_1 a1_2 t296 _ ?side1 ?side2 ?side3 ?side4 ?side5 ?side6 ?side7 ?side8 A20.out).mono ?_
          (case side1 => repeat (first | exact (d1 HR0_0.out HB.out) | (with_reducible refine d2 ?_ _) | (with_reducible refine d3 ?_ _) | (with_reducible refine d4 ?_)))
          (case side2 => exact HC0_0.out)
          (case side3 => repeat (first | exact (d1 HR0_1.out HB.out) | (with_reducible refine d2 ?_ _) | (with_reducible refine d3 ?_ _) | (with_reducible refine d4 ?_)))
          (case side4 => exact HC0_1.out)
          (case side5 => repeat (first | exact (d1 HR1_0.out HB.out) | (with_reducible refine d2 ?_ _) | (with_reducible refine d3 ?_ _) | (with_reducible refine d4 ?_)))
          (case side6 => exact HC1_0.out)
          (case side7 => repeat (first | exact (d1 HR1_1.out HB.out) | (with_reducible refine d2 ?_ _) | (with_reducible refine d3 ?_ _) | (with_reducible refine d4 ?_)))
          (case side8 => exact HC1_1.out)
          rintro e w36 ⟨rfl, hb⟩
          refine ⟨_, rfl, ?_⟩
          have n0_ := am (b5 (g := gb291) (o := .cells #[.slice A0_0 l0_0.length c0_0, .slice A0_1 l0_1.length c0_1, .int .i64 a0_2] 25 (0, 0)) (by (with_reducible repeat (first | refine b1 ?_ _ | refine b2 ?_ | refine b3 ?_ _)); exact BK291.out) hb)
          have n1_ := am (b5 (g := gb292) (o := .cells #[.slice A1_0 l1_0.length c1_0, .slice A1_1 l1_1.length c1_1, .int .i64 a1_2] 25 (0, 0)) (by (with_reducible repeat (first | refine b1 ?_ _ | refine b2 ?_ | refine b3 ?_ _)); exact BK292.out) hb)
          have n2_ := am (below_step (by repeat (first | (with_reducible first | exact HB.out | apply c1 | apply c2 | apply c3 | refine c4 ?_ GE291.out | refine c4 ?_ GE292.out) | exact HB.out)) hb)
          clear BK291
          clear BK292
          clear HB
          have BK291 := n0_
          have BK292 := n1_
          have HB := n2_
          clear n0_ n1_ n2_
          (try clear hb)
          (try clear hb2)
          (try clear hk)
          (try clear hi)
          refine hK.out _ _ ⟨(b4 BK291.out 0).trans rfl, (b4 BK291.out 1).trans rfl, (b4 BK291.out 2).trans rfl, (b4 BK292.out 0).trans rfl, (b4 BK292.out 1).trans rfl, (b4 BK292.out 2).trans rfl⟩ (fun hHeld => ?_)
          clear hK K
          refine norm_ (a' := ?_) ?_ ?_
          rotate_left
          · show Act.put _ (some 14) _ = _
            simp only [Act.put, List.setIfInBounds_toArray, List.set_cons_zero, List.set_cons_succ, i64_w, i32_w]
            rfl
          refine one_ (i := 5) (N := some 17) #[true, true, true, true, true, true, false, false, false, false, false, false, false, false, false, false] rfl rfl (one_of HT_.out (by kernel_rfl)) (by decide) (fun K hK => ?_)
          refine goes_ Try.func9 (by kernel_rfl) rfl #[.agg #[.slice A0_0 l0_0.length c0_0, .slice A0_1 l0_1.length c0_1, .int .i64 a0_2], .agg #[.slice A1_0 l1_0.length c1_0, .slice A1_1 l1_1.length c1_1, .int .i64 a1_2]] (by rfl) rfl rfl (by (try simp only [List.map_toArray, List.map_cons, List.map_nil]); first | done | rfl | (simp only [List.length_drop, List.length_take]; rfl)) ?_
          with_reducible refine (runnelref17_Same.calls kj2 _ _ l0_0 _ _ l0_1 a0_2 _ _ l1_0 _ _ l1_1 a1_2 t297 _ ?side1 ?side2 ?side3 ?side4 ?side5 ?side6 ?side7 ?side8 A21.out).mono ?_
          (case side1 => repeat (first | exact (d1 HR0_0.out HB.out) | (with_reducible refine d2 ?_ _) | (with_reducible refine d3 ?_ _) | (with_reducible refine d4 ?_)))
          (case side2 => exact HC0_0.out)
          (case side3 => repeat (first | exact (d1 HR0_1.out HB.out) | (with_reducible refine d2 ?_ _) | (with_reducible refine d3 ?_ _) | (with_reducible refine d4 ?_)))
          (case side4 => exact HC0_1.out)
          (case side5 => repeat (first | exact (d1 HR1_0.out HB.out) | (with_reducible refine d2 ?_ _) | (with_reducible refine d3 ?_ _) | (with_reducible refine d4 ?_)))
          (case side6 => exact HC1_0.out)
          (case side7 => repeat (first | exact (d1 HR1_1.out HB.out) | (with_reducible refine d2 ?_ _) | (with_reducible refine d3 ?_ _) | (with_reducible refine d4 ?_)))
          (case side8 => exact HC1_1.out)
          rintro e w37 ⟨rfl, hb⟩
          refine ⟨_, rfl, ?_⟩
          have n0_ := am (b5 (g := gb291) (o := .cells #[.slice A0_0 l0_0.length c0_0, .slice A0_1 l0_1.length c0_1, .int .i64 a0_2] 25 (0, 0)) (by (with_reducible repeat (first | refine b1 ?_ _ | refine b2 ?_ | refine b3 ?_ _)); exact BK291.out) hb)
          have n1_ := am (b5 (g := gb292) (o := .cells #[.slice A1_0 l1_0.length c1_0, .slice A1_1 l1_1.length c1_1, .int .i64 a1_2] 25 (0, 0)) (by (with_reducible repeat (first | refine b1 ?_ _ | refine b2 ?_ | refine b3 ?_ _)); exact BK292.out) hb)
          have n2_ := am (below_step (by repeat (first | (with_reducible first | exact HB.out | apply c1 | apply c2 | apply c3 | refine c4 ?_ GE291.out | refine c4 ?_ GE292.out) | exact HB.out)) hb)
          clear BK291
          clear BK292
          clear HB
          have BK291 := n0_
          have BK292 := n1_
          have HB := n2_
          clear n0_ n1_ n2_
          (try clear hb)
          (try clear hb2)
          (try clear hk)
          (try clear hi)
          refine hK.out _ _ ⟨(b4 BK291.out 0).trans rfl, (b4 BK291.out 1).trans rfl, (b4 BK291.out 2).trans rfl, (b4 BK292.out 0).trans rfl, (b4 BK292.out 1).trans rfl, (b4 BK292.out 2).trans rfl⟩ (fun hHeld => ?_)
          clear hK K
          refine norm_ (a' := ?_) ?_ ?_
          rotate_left
          · show Act.put _ (some 17) _ = _
            simp only [Act.put, List.setIfInBounds_toArray, List.set_cons_zero, List.set_cons_succ, i64_w, i32_w]
            rfl
          refine pure_ (i := 6) (N := some 18) (v := ?_) (a' := ?_) #[true, true, true, true, true, true, true, false, false, false, false, false, false, false, false, false] rfl rfl (any_of HT_.out (by kernel_rfl)) (fun _ _ _ h => h) (Or.inl ⟨by rfl, ?_⟩) ?_ ?_
          rotate_left
          · intro w'
            go_simp
            with_reducible rfl
          rotate_left
          · simp only [Act.put, List.setIfInBounds_toArray, List.set_cons_zero, List.set_cons_succ, i64_w, i32_w]
            rfl
          refine pure_ (i := 7) (N := some 19) (v := ?_) (a' := ?_) #[true, true, true, true, true, true, true, true, false, false, false, false, false, false, false, false] rfl rfl (any_of HT_.out (by kernel_rfl)) (fun _ _ _ h => h) (Or.inl ⟨by rfl, ?_⟩) ?_ ?_
          rotate_left
          · intro w'
            go_simp
            with_reducible rfl
          rotate_left
          · simp only [Act.put, List.setIfInBounds_toArray, List.set_cons_zero, List.set_cons_succ, i64_w, i32_w]
            rfl
          refine pure_ (i := 8) (N := some 20) (v := undef) (a' := ?_) #[true, true, true, true, true, true, true, true, true, false, false, false, false, false, false, false] rfl rfl (any_of HT_.out (by kernel_rfl)) (fun _ _ _ h => h) (Or.inr ⟨by rfl, rfl⟩) ?_ ?_
          rotate_left
          · simp only [Act.put, List.setIfInBounds_toArray, List.set_cons_zero, List.set_cons_succ, i64_w, i32_w]
            rfl
          refine pure_ (i := 9) (N := some 21) (v := undef) (a' := ?_) #[true, true, true, true, true, true, true, true, true, true, false, false, false, false, false, false] rfl rfl (any_of HT_.out (by kernel_rfl)) (fun _ _ _ h => h) (Or.inr ⟨by rfl, rfl⟩) ?_ ?_
          rotate_left
          · simp only [Act.put, List.setIfInBounds_toArray, List.set_cons_zero, List.set_cons_succ, i64_w, i32_w]
            rfl
          refine pure_ (i := 10) (N := some 22) (v := undef) (a' := ?_) #[true, true, true, true, true, true, true, true, true, true, true, false, false, false, false, false] rfl rfl (any_of HT_.out (by kernel_rfl)) (fun _ _ _ h => h) (Or.inr ⟨by rfl, rfl⟩) ?_ ?_
          rotate_left
          · simp only [Act.put, List.setIfInBounds_toArray, List.set_cons_zero, List.set_cons_succ, i64_w, i32_w]
            rfl
          refine pure_ (i := 11) (N := some 23) (v := ?_) (a' := ?_) #[true, true, true, true, true, true, true, true, true, true, true, true, false, false, false, false] rfl rfl (any_of HT_.out (by kernel_rfl)) (fun _ _ _ h => h) (Or.inl ⟨by rfl, ?_⟩) ?_ ?_
          rotate_left
          · intro w'
            go_simp
            with_reducible rfl
          rotate_left
          · simp only [Act.put, List.setIfInBounds_toArray, List.set_cons_zero, List.set_cons_succ, i64_w, i32_w]
            rfl
          refine pure_ (i := 12) (N := some 24) (v := ?_) (a' := ?_) #[true, true, true, true, true, true, true, true, true, true, true, true, true, false, false, false] rfl rfl (any_of HT_.out (by kernel_rfl)) (fun _ _ _ h => h) (Or.inl ⟨by rfl, ?_⟩) ?_ ?_
          rotate_left
          · intro w'
            go_simp
            with_reducible rfl
          rotate_left
          · simp only [Act.put, List.setIfInBounds_toArray, List.set_cons_zero, List.set_cons_succ, i64_w, i32_w]
            rfl
          refine pure_ (i := 13) (N := some 25) (v := undef) (a' := ?_) #[true, true, true, true, true, true, true, true, true, true, true, true, true, true, false, false] rfl rfl (any_of HT_.out (by kernel_rfl)) (fun _ _ _ h => h) (Or.inr ⟨by rfl, rfl⟩) ?_ ?_
          rotate_left
          · simp only [Act.put, List.setIfInBounds_toArray, List.set_cons_zero, List.set_cons_succ, i64_w, i32_w]
            rfl
          refine pure_ (i := 14) (N := some 26) (v := ?_) (a' := ?_) #[true, true, true, true, true, true, true, true, true, true, true, true, true, true, true, false] rfl rfl (any_of HT_.out (by kernel_rfl)) (fun _ _ _ h => h) (Or.inl ⟨by rfl, ?_⟩) ?_ ?_
          rotate_left
          · intro w'
            go_simp
            with_reducible rfl
          rotate_left
          · simp only [Act.put, List.setIfInBounds_toArray, List.set_cons_zero, List.set_cons_succ, i64_w, i32_w]
            rfl
          refine pure_ (i := 15) (N := some 4) (v := ?_) (a' := ?_) #[true, true, true, true, true, true, true, true, true, true, true, true, true, true, true, true] rfl rfl (any_of HT_.out (by kernel_rfl)) (fun _ _ _ h => h) (Or.inl ⟨by rfl, ?_⟩) ?_ ?_
          rotate_left
          · intro w'
            go_simp
            with_reducible rfl
          rotate_left
          · simp only [Act.put, List.setIfInBounds_toArray, List.set_cons_zero, List.set_cons_succ, i64_w, i32_w]
            rfl
          refine done_ (done_of HT_.out (by kernel_rfl)) ?_
          try go_wp2
          go_ret
          exact ⟨by first | rfl | (simp [errW_none, errW_some] <;> rfl) | (simp [*, errW_none, errW_some] <;> rfl), by repeat (first | (with_reducible first | exact HB.out | apply c1 | apply c2 | apply c3 | refine c4 ?_ GE291.out | refine c4 ?_ GE292.out) | exact HB.out)⟩

end Go.Proofs.Ytbdpnecnnokkkaa.PSheetSame
