/- One piece of the machine's side of the law, written by a program over the translation; Lean checks it. -/
import Derived.Test.YtpplklickfioiaaOWirePutsx0
import Derived.Test.YtpplklickfioiaaShort
namespace Go.Proofs.Ytpplklickfioiaa.PWirePuts
open Go.RowKit Go.Proofs.YtpplklickfioiaaW.PrintWords Go.Proofs.YtpplklickfioiaaW.PrintLast Go.Proofs.YtpplklickfioiaaW.PrintMore
attribute [local go_sem] max2_int min2_int max_two min_two max_three min_three max_four min_four   -- for this text's walks alone
set_option linter.unusedVariables false
set_option linter.unusedSimpArgs false

/-! ### runnelref26_Plain: function 23 -/
mutual
def runnelref26_Plain.j0 : Nat → Bool → Int → Int → List (S103) → Int → Int → Int → List (S36) → Int → List Int → Int → Int → Int → Int → Int → Int → Option (Int × Int × (List (S103)) × Int × Int × Int × (List (S36)) × Int × List Int)
 | 0, _, _, _, _, _, _, _, _, _, _, _, _, _, _, _, _ => none
 | k + 1, x14, x405000, x405001, x405002, x405003, x405004, x405005, x405006, x405007, x405008, x407000, x407001, x407003, x407004, x407005, x407007 => if x14 = true then (runnelref26_Plain.j1 k x405000 x405001 x405002 x405003 x405004 x405005 x405006 x405007 x405008 x407000 x405001 x407003 x407004 x407005 x407007) else (runnelref26_Plain.j1 k x405000 x405001 x405002 x405003 x405004 x405005 x405006 x405007 x405008 x407000 x407001 x407003 x407004 x407005 x407007)
def runnelref26_Plain.j1 : Nat → Int → Int → List (S103) → Int → Int → Int → List (S36) → Int → List Int → Int → Int → Int → Int → Int → Int → Option (Int × Int × (List (S103)) × Int × Int × Int × (List (S36)) × Int × List Int)
 | 0, _, _, _, _, _, _, _, _, _, _, _, _, _, _, _ => none
 | k + 1, x405000, x405001, x405002, x405003, x405004, x405005, x405006, x405007, x405008, x407000, x407001, x407003, x407004, x407005, x407007 => if x405000 = 0 then (some (x407000, x407001, ([] : List (S103)), x407003, x407004, x407005, ([] : List (S36)), x407007, x405008)) else (if x405000 = 1 then (some (x407000, x407001, x405002, x405003, x405004, x405005, ([] : List (S36)), x407007, ([] : List Int))) else (if x405000 = 2 then (runnelref26_Plain.j2 k x405000 (x405000 == 2) x405000 x405001 x405002 x405003 x405004 x405005 x405006 x405007 x405008 x407000 x407001 x407003 x407004 x407005 x407007) else (runnelref26_Plain.j2 k x405000 (x405000 == 4) x405000 x405001 x405002 x405003 x405004 x405005 x405006 x405007 x405008 x407000 x407001 x407003 x407004 x407005 x407007)))
def runnelref26_Plain.j2 : Nat → Int → Bool → Int → Int → List (S103) → Int → Int → Int → List (S36) → Int → List Int → Int → Int → Int → Int → Int → Int → Option (Int × Int × (List (S103)) × Int × Int × Int × (List (S36)) × Int × List Int)
 | 0, _, _, _, _, _, _, _, _, _, _, _, _, _, _, _, _, _ => none
 | k + 1, x19, x30, x405000, x405001, x405002, x405003, x405004, x405005, x405006, x405007, x405008, x407000, x407001, x407003, x407004, x407005, x407007 => if x30 = true then (some (x407000, x407001, ([] : List (S103)), x407003, x407004, x407005, x405006, x407007, ([] : List Int))) else (if x19 = 3 then (some (x407000, x407001, ([] : List (S103)), x407003, x407004, x407005, ([] : List (S36)), x405007, ([] : List Int))) else (if x19 = 5 then (some (x407000, x407001, ([] : List (S103)), x405003, x405004, x407005, ([] : List (S36)), x407007, ([] : List Int))) else (some (x407000, x407001, ([] : List (S103)), x407003, x407004, x407005, ([] : List (S36)), x407007, ([] : List Int)))))
end
def runnelref26_Plain.f (k : Nat) (a0_0 : Int) (a0_1 : Int) (l0_2 : List (S103)) (a0_3 : Int) (a0_4 : Int) (a0_5 : Int) (l0_6 : List (S36)) (a0_7 : Int) (l0_8 : List Int) : Option (Int × Int × (List (S103)) × Int × Int × Int × (List (S36)) × Int × List Int) := if a0_0 ≥ 1 then (runnelref26_Plain.j0 k (decide (a0_0 ≤ 6)) a0_0 a0_1 l0_2 a0_3 a0_4 a0_5 l0_6 a0_7 l0_8 a0_0 0 0 0 0 0) else (runnelref26_Plain.j0 k false a0_0 a0_1 l0_2 a0_3 a0_4 a0_5 l0_6 a0_7 l0_8 a0_0 0 0 0 0 0)
/-- A value is what came in, or nil; so are the rows that it reads as. -/
def PTold {α : Type} (v a : Value) (r l : List α) : Prop := (v = a ∧ r = l) ∨ (v = .slice none 0 0 ∧ r = [])
theorem PTold.a {α : Type} {v a : Value} {r l : List α} (h : v = a) (h2 : r = l) : PTold v a r l := .inl ⟨h, h2⟩
theorem PTold.z {α : Type} {v a : Value} {r l : List α} (h : v = .slice none 0 0) (h2 : r = []) : PTold v a r l := .inr ⟨h, h2⟩
set_option maxHeartbeats 8000000 in
set_option maxRecDepth 100000 in
theorem runnelref26_Plain.told (k : Nat) (a0_0 : Int) (a0_1 : Int) (A0_2 : Option Addr) (c0_2 : Nat) (l0_2 : List (S103)) (a0_3 : Int) (a0_4 : Int) (a0_5 : Int) (A0_6 : Option Addr) (c0_6 : Nat) (l0_6 : List (S36)) (a0_7 : Int) (A0_8 : Option Addr) (c0_8 : Nat) (l0_8 : List Int) (r1 : Int) (r2 : Int) (r3 : List (S103)) (r4 : Int) (r5 : Int) (r6 : Int) (r7 : List (S36)) (r8 : Int) (r9 : List Int) (w : World) (h : runnelref26_Plain.f k a0_0 a0_1 l0_2 a0_3 a0_4 a0_5 l0_6 a0_7 l0_8 = some (r1, r2, r3, r4, r5, r6, r7, r8, r9)) :
  Calls Try.prog 23 #[.agg #[.int .i64 a0_0, .int .i64 a0_1, .slice A0_2 l0_2.length c0_2, .int .i64 a0_3, .int .i64 a0_4, .int .i64 a0_5, .slice A0_6 l0_6.length c0_6, .int .i64 a0_7, .slice A0_8 l0_8.length c0_8]] w fun e w' => ∃ v2_ v6_ v8_ : Value, e = .returned (.agg #[.int .i64 r1, .int .i64 r2, v2_, .int .i64 r4, .int .i64 r5, .int .i64 r6, v6_, .int .i64 r8, v8_]) ∧ PTold v2_ (.slice A0_2 l0_2.length c0_2) r3 l0_2 ∧ PTold v6_ (.slice A0_6 l0_6.length c0_6) r7 l0_6 ∧ PTold v8_ (.slice A0_8 l0_8.length c0_8) r9 l0_8 ∧ Below w.heap.size w w' := by
 have hu40 := Try.underlying40
 have hu38 := Try.underlying38
 have hu36 := Try.underlying36
 have HB := Aside0.mk (Below.refl w.heap.size w)
 have H : (if a0_0 ≥ 1 then (runnelref26_Plain.j0 k (decide (a0_0 ≤ 6)) a0_0 a0_1 l0_2 a0_3 a0_4 a0_5 l0_6 a0_7 l0_8 a0_0 0 0 0 0 0) else (runnelref26_Plain.j0 k false a0_0 a0_1 l0_2 a0_3 a0_4 a0_5 l0_6 a0_7 l0_8 a0_0 0 0 0 0 0)) = some (r1, r2, r3, r4, r5, r6, r7, r8, r9) := h
 clear h
 have HC2 := Aside0.mk H
 clear H
 go_enter Try.func23, Try.ntmps23
 go_upto_region 2 with (first | ((with_reducible refine gate_dst (N := 1) rfl ?_); refine box_event ?hg (N := 1) ?hd (cs := #[.int .i64 a0_0, .int .i64 a0_1, .slice A0_2 l0_2.length c0_2, .int .i64 a0_3, .int .i64 a0_4, .int .i64 a0_5, .slice A0_6 l0_6.length c0_6, .int .i64 a0_7, .slice A0_8 l0_8.length c0_8]) (t := 40) ?hr ?_; (case hd => rfl); (case hg => rfl); (case hr => first | (go_simp; done) | (go_simp; rfl)); intro gb404 hg w3 hbox hb; have n3_ := Aside0.mk (below_step bl hb); have n4_ := Aside0.mk (hbox); have n5_ := Aside0.mk ((by rw [hg]; exact (below_size bl) : w.heap.size ≤ gb404)); have n6_ := Aside0.mk ((by rw [hg]; exact (below_size bl) : w.heap.size ≤ gb404)); clear HB; have HB := n3_; have BK404 := n4_; have GW404 := n5_; have GE404 := n6_; clear n3_ n4_ n5_ n6_; clear hb hbox hg) | ((with_reducible refine gate_dst (N := 2) rfl ?_); refine box_event ?hg (N := 2) ?hd (cs := #[.int .i64 0, .int .i64 0, .slice none 0 0, .int .i64 0, .int .i64 0, .int .i64 0, .slice none 0 0, .int .i64 0, .slice none 0 0]) (t := 40) ?hr ?_; (case hd => rfl); (case hg => rfl); (case hr => first | (go_simp; done) | (go_simp; rfl)); intro gb405 hg w4 hbox hb; have n3_ := Aside0.mk (blk_below (g := gb404) (o := .cells #[.int .i64 a0_0, .int .i64 a0_1, .slice A0_2 l0_2.length c0_2, .int .i64 a0_3, .int .i64 a0_4, .int .i64 a0_5, .slice A0_6 l0_6.length c0_6, .int .i64 a0_7, .slice A0_8 l0_8.length c0_8] 40 (0, 0)) bk hb); have n4_ := Aside0.mk (below_step bl hb); have n5_ := Aside0.mk (hbox); have n6_ := Aside0.mk ((by rw [hg]; exact (below_size bl) : w.heap.size ≤ gb405)); have n7_ := Aside0.mk ((by rw [hg]; exact (below_size bl) : w.heap.size ≤ gb405)); have n8_ := Aside0.mk ((by rw [hg]; exact Nat.ne_of_lt blt : gb404 ≠ gb405)); have n9_ := Aside0.mk ((by rw [hg]; exact Nat.ne_of_gt blt : gb405 ≠ gb404)); clear BK404; clear HB; have BK404 := n3_; have HB := n4_; have BK405 := n5_; have GW405 := n6_; have GE405 := n7_; have NB404_405 := n8_; have NB405_404 := n9_; clear n3_ n4_ n5_ n6_ n7_ n8_ n9_; clear hb hbox hg; have hnb5 := NB404_405.out; have hnc5 := NB405_404.out; obtain ⟨hcz6_0, hcz6_1, hcz6_2, hcz6_3, hcz6_4, hcz6_5, hcz6_6, hcz6_7, hcz6_8⟩ := cells9 BK404.out; have hfz6_0 := blk_frozen BK404.out 0; have hfz6_1 := blk_frozen BK404.out 1; have hfz6_2 := blk_frozen BK404.out 2; have hfz6_3 := blk_frozen BK404.out 3; have hfz6_4 := blk_frozen BK404.out 4; have hfz6_5 := blk_frozen BK404.out 5; have hfz6_6 := blk_frozen BK404.out 6; have hfz6_7 := blk_frozen BK404.out 7; have hfz6_8 := blk_frozen BK404.out 8) | ((with_reducible refine gate_dst (N := 3) rfl ?_); refine box_event ?hg (N := 3) ?hd (cs := #[.int .i64 0, .int .i64 0, .slice none 0 0, .int .i64 0, .int .i64 0, .int .i64 0, .slice none 0 0, .int .i64 0, .slice none 0 0]) (t := 40) ?hr ?_; (case hd => rfl); (case hg => rfl); (case hr => first | (go_simp; done) | (go_simp; rfl)); intro gb406 hg w7 hbox hb; have n3_ := Aside0.mk (blk_below (g := gb404) (o := .cells #[.int .i64 a0_0, .int .i64 a0_1, .slice A0_2 l0_2.length c0_2, .int .i64 a0_3, .int .i64 a0_4, .int .i64 a0_5, .slice A0_6 l0_6.length c0_6, .int .i64 a0_7, .slice A0_8 l0_8.length c0_8] 40 (0, 0)) bk hb); have n4_ := Aside0.mk (blk_below (g := gb405) (o := .cells #[.int .i64 0, .int .i64 0, .slice none 0 0, .int .i64 0, .int .i64 0, .int .i64 0, .slice none 0 0, .int .i64 0, .slice none 0 0] 40 (0, 0)) bk hb); have n5_ := Aside0.mk (below_step bl hb); have n6_ := Aside0.mk (hbox); have n7_ := Aside0.mk ((by rw [hg]; exact (below_size bl) : w.heap.size ≤ gb406)); have n8_ := Aside0.mk ((by rw [hg]; exact (below_size bl) : w.heap.size ≤ gb406)); have n9_ := Aside0.mk ((by rw [hg]; exact Nat.ne_of_lt blt : gb404 ≠ gb406)); have n10_ := Aside0.mk ((by rw [hg]; exact Nat.ne_of_gt blt : gb406 ≠ gb404)); have n11_ := Aside0.mk ((by rw [hg]; exact Nat.ne_of_lt blt : gb405 ≠ gb406)); have n12_ := Aside0.mk ((by rw [hg]; exact Nat.ne_of_gt blt : gb406 ≠ gb405)); clear BK404; clear BK405; clear HB; have BK404 := n3_; have BK405 := n4_; have HB := n5_; have BK406 := n6_; have GW406 := n7_; have GE406 := n8_; have NB404_406 := n9_; have NB406_404 := n10_; have NB405_406 := n11_; have NB406_405 := n12_; clear n3_ n4_ n5_ n6_ n7_ n8_ n9_ n10_ n11_ n12_; clear hb hbox hg; have hnb8 := NB406_404.out; have hnc8 := NB404_406.out; have hnb9 := NB406_405.out; have hnc9 := NB405_406.out; obtain ⟨hcz10_0, hcz10_1, hcz10_2, hcz10_3, hcz10_4, hcz10_5, hcz10_6, hcz10_7, hcz10_8⟩ := cells9 BK406.out; obtain ⟨hfz10_0, hfz10_1, hfz10_2, hfz10_3, hfz10_4, hfz10_5, hfz10_6, hfz10_7, hfz10_8⟩ := frz9 BK406.out))
 (try simp only [Act.put, List.setIfInBounds_toArray, List.set_cons_zero, List.set_cons_succ])
 go_cut [14] (fun v14 wc => ∃ (kq : Nat) (x14_1 : Bool), v14 = .bool x14_1 ∧ Aside0 (runnelref26_Plain.j0 kq x14_1 a0_0 a0_1 l0_2 a0_3 a0_4 a0_5 l0_6 a0_7 l0_8 a0_0 0 0 0 0 0 = some (r1, r2, r3, r4, r5, r6, r7, r8, r9)) ∧ Aside0 (kq ≤ k) ∧ Aside0 (wc.heap[gb404]? = some (.cells #[.int .i64 a0_0, .int .i64 a0_1, (.slice A0_2 l0_2.length c0_2), .int .i64 a0_3, .int .i64 a0_4, .int .i64 a0_5, (.slice A0_6 l0_6.length c0_6), .int .i64 a0_7, (.slice A0_8 l0_8.length c0_8)] 40 (0, 0))) ∧ Aside0 (wc.heap[gb405]? = some (.cells #[.int .i64 0, .int .i64 0, (.slice none 0 0), .int .i64 0, .int .i64 0, .int .i64 0, (.slice none 0 0), .int .i64 0, (.slice none 0 0)] 40 (0, 0))) ∧ Aside0 (wc.heap[gb406]? = some (.cells #[.int .i64 a0_0, .int .i64 0, (.slice none 0 0), .int .i64 0, .int .i64 0, .int .i64 0, (.slice none 0 0), .int .i64 0, (.slice none 0 0)] 40 (0, 0))) ∧ Aside0 (Below w.heap.size w wc))
 case first =>
  have H := HC2.out
  clear HC2
  by_cases c11 : a0_0 ≥ 1
  rotate_left
  ·
   rw [if_neg c11] at H
   have c11b0 : decide (1 ≤ a0_0) = false := decide_eq_false c11
   clear c11
   (first | rw [c11b0] | (simp only [i64_w, i32_w]; rw [c11b0]) | skip)
   have H' := Aside0.mk H
   clear H
   have hnb15 := NB404_405.out
   have hnc15 := NB405_404.out
   have hnb16 := NB404_406.out
   have hnc16 := NB406_404.out
   obtain ⟨hcz17_0, hcz17_1, hcz17_2, hcz17_3, hcz17_4, hcz17_5, hcz17_6, hcz17_7, hcz17_8⟩ := cells9 BK404.out
   obtain ⟨hfz17_0, hfz17_1, hfz17_2, hfz17_3, hfz17_4, hfz17_5, hfz17_6, hfz17_7, hfz17_8⟩ := frz9 BK404.out
   go_wp2
   go_meet
   case rel => exact ⟨_, (false), rsd, H', ⟨by first | omega | exact Nat.le_refl _⟩, ⟨by (iterate 9 ((with_reducible repeat (first | refine blk_drewN ?_ _ | refine blk_drew ?_ | refine blk_alloc ?_ _)); refine blk_far ?_ NB404_406.out _)); (with_reducible repeat (first | refine blk_drewN ?_ _ | refine blk_drew ?_ | refine blk_alloc ?_ _)); exact BK404.out⟩, ⟨by (iterate 9 ((with_reducible repeat (first | refine blk_drewN ?_ _ | refine blk_drew ?_ | refine blk_alloc ?_ _)); refine blk_far ?_ NB405_406.out _)); (with_reducible repeat (first | refine blk_drewN ?_ _ | refine blk_drew ?_ | refine blk_alloc ?_ _)); exact BK405.out⟩, ⟨by refine E_in ?_; (iterate 9 ((with_reducible repeat (first | refine E_drewN ?_ _ | refine E_drew ?_ | refine E_alloc ?_ _)); refine E_set ?_)); (with_reducible repeat (first | refine E_drewN ?_ _ | refine E_drew ?_ | refine E_alloc ?_ _)); exact ⟨_, BK406.out, by first | (with_reducible rfl) | simp only [List.setIfInBounds_toArray, List.set_cons_zero, List.set_cons_succ]⟩⟩, ⟨bl⟩⟩
  rw [if_pos c11] at H
  have c11b0 : decide (1 ≤ a0_0) = true := decide_eq_true c11
  clear c11
  (first | rw [c11b0] | (simp only [i64_w, i32_w]; rw [c11b0]) | skip)
  have H' := Aside0.mk H
  clear H
  have hnb12 := NB404_405.out
  have hnc12 := NB405_404.out
  have hnb13 := NB404_406.out
  have hnc13 := NB406_404.out
  obtain ⟨hcz14_0, hcz14_1, hcz14_2, hcz14_3, hcz14_4, hcz14_5, hcz14_6, hcz14_7, hcz14_8⟩ := cells9 BK404.out
  obtain ⟨hfz14_0, hfz14_1, hfz14_2, hfz14_3, hfz14_4, hfz14_5, hfz14_6, hfz14_7, hfz14_8⟩ := frz9 BK404.out
  go_wp2
  go_meet
  case rel => exact ⟨_, (decide (a0_0 ≤ 6)), rsd, H', ⟨by first | omega | exact Nat.le_refl _⟩, ⟨by (iterate 9 ((with_reducible repeat (first | refine blk_drewN ?_ _ | refine blk_drew ?_ | refine blk_alloc ?_ _)); refine blk_far ?_ NB404_406.out _)); (with_reducible repeat (first | refine blk_drewN ?_ _ | refine blk_drew ?_ | refine blk_alloc ?_ _)); exact BK404.out⟩, ⟨by (iterate 9 ((with_reducible repeat (first | refine blk_drewN ?_ _ | refine blk_drew ?_ | refine blk_alloc ?_ _)); refine blk_far ?_ NB405_406.out _)); (with_reducible repeat (first | refine blk_drewN ?_ _ | refine blk_drew ?_ | refine blk_alloc ?_ _)); exact BK405.out⟩, ⟨by refine E_in ?_; (iterate 9 ((with_reducible repeat (first | refine E_drewN ?_ _ | refine E_drew ?_ | refine E_alloc ?_ _)); refine E_set ?_)); (with_reducible repeat (first | refine E_drewN ?_ _ | refine E_drew ?_ | refine E_alloc ?_ _)); exact ⟨_, BK406.out, by first | (with_reducible rfl) | simp only [List.setIfInBounds_toArray, List.set_cons_zero, List.set_cons_succ]⟩⟩, ⟨bl⟩⟩
 clear HC2
 (try clear hcz10_0); (try clear hcz10_1); (try clear hcz10_2); (try clear hcz10_3); (try clear hcz10_4); (try clear hcz10_5); (try clear hcz10_6); (try clear hcz10_7); (try clear hcz10_8); (try clear hcz6_0); (try clear hcz6_1); (try clear hcz6_2); (try clear hcz6_3); (try clear hcz6_4); (try clear hcz6_5); (try clear hcz6_6); (try clear hcz6_7); (try clear hcz6_8); (try clear hfz10_0); (try clear hfz10_1); (try clear hfz10_2); (try clear hfz10_3); (try clear hfz10_4); (try clear hfz10_5); (try clear hfz10_6); (try clear hfz10_7); (try clear hfz10_8); (try clear hfz6_0); (try clear hfz6_1); (try clear hfz6_2); (try clear hfz6_3); (try clear hfz6_4); (try clear hfz6_5); (try clear hfz6_6); (try clear hfz6_7); (try clear hfz6_8)
 obtain ⟨kq, x14_1, rfl, HA, HJ1, BK404, BK405, BK406, HB⟩ := hcut
 cases kq with
 | zero => exact absurd HA.out (by simp [runnelref26_Plain.j0])
 | succ kj1 =>
  have H := HA.out
  clear HA
  simp only [runnelref26_Plain.j0] at H
  have HC18 := Aside0.mk H
  clear H
  go_upto_if 14 with (fail)
  go_cut [] (fun wc => ∃ (kq : Nat) (x407001_17 : Int), Aside0 (runnelref26_Plain.j1 kq a0_0 a0_1 l0_2 a0_3 a0_4 a0_5 l0_6 a0_7 l0_8 a0_0 x407001_17 0 0 0 0 = some (r1, r2, r3, r4, r5, r6, r7, r8, r9)) ∧ Aside0 (kq ≤ kj1) ∧ Aside0 (wc.heap[gb404]? = some (.cells #[.int .i64 a0_0, .int .i64 a0_1, (.slice A0_2 l0_2.length c0_2), .int .i64 a0_3, .int .i64 a0_4, .int .i64 a0_5, (.slice A0_6 l0_6.length c0_6), .int .i64 a0_7, (.slice A0_8 l0_8.length c0_8)] 40 (0, 0))) ∧ Aside0 (wc.heap[gb405]? = some (.cells #[.int .i64 0, .int .i64 0, (.slice none 0 0), .int .i64 0, .int .i64 0, .int .i64 0, (.slice none 0 0), .int .i64 0, (.slice none 0 0)] 40 (0, 0))) ∧ Aside0 (wc.heap[gb406]? = some (.cells #[.int .i64 a0_0, .int .i64 x407001_17, (.slice none 0 0), .int .i64 0, .int .i64 0, .int .i64 0, (.slice none 0 0), .int .i64 0, (.slice none 0 0)] 40 (0, 0))) ∧ Aside0 (Below w.heap.size w wc))
  case first =>
   have H := HC18.out
   clear HC18
   by_cases c19 : x14_1 = true
   rotate_left
   ·
    replace c19 := Bool.eq_false_iff.mpr c19
    subst c19
    have H1 : (runnelref26_Plain.j1 kj1 a0_0 a0_1 l0_2 a0_3 a0_4 a0_5 l0_6 a0_7 l0_8 a0_0 0 0 0 0 0) = some (r1, r2, r3, r4, r5, r6, r7, r8, r9) := by rw [if_neg (show ¬ (false = true) by decide)] at H; exact H
    clear H
    have H := H1
    clear H1
    have H' := Aside0.mk H
    clear H
    go_wp2
    go_meet
    case rel => exact ⟨_, (0), H', ⟨by have := HJ1.out; first | omega | exact Nat.le_refl _⟩, ⟨bp BK404.out⟩, ⟨bp BK405.out⟩, ⟨bp BK406.out⟩, ⟨bl⟩⟩
   subst c19
   have H1 : (runnelref26_Plain.j1 kj1 a0_0 a0_1 l0_2 a0_3 a0_4 a0_5 l0_6 a0_7 l0_8 a0_0 a0_1 0 0 0 0) = some (r1, r2, r3, r4, r5, r6, r7, r8, r9) := by rw [if_pos rfl] at H; exact H
   clear H
   have H := H1
   clear H1
   have H' := Aside0.mk H
   clear H
   have hnb20 := NB404_405.out
   have hnc20 := NB405_404.out
   have hnb21 := NB404_406.out
   have hnc21 := NB406_404.out
   obtain ⟨hcz22_0, hcz22_1, hcz22_2, hcz22_3, hcz22_4, hcz22_5, hcz22_6, hcz22_7, hcz22_8⟩ := cells9 BK404.out
   obtain ⟨hfz22_0, hfz22_1, hfz22_2, hfz22_3, hfz22_4, hfz22_5, hfz22_6, hfz22_7, hfz22_8⟩ := frz9 BK404.out
   have hnb23 := NB406_405.out
   have hnc23 := NB405_406.out
   obtain ⟨hcz24_0, hcz24_1, hcz24_2, hcz24_3, hcz24_4, hcz24_5, hcz24_6, hcz24_7, hcz24_8⟩ := cells9 BK406.out
   obtain ⟨hfz24_0, hfz24_1, hfz24_2, hfz24_3, hfz24_4, hfz24_5, hfz24_6, hfz24_7, hfz24_8⟩ := frz9 BK406.out
   go_wp2
   go_meet
   case rel => exact ⟨_, (a0_1), H', ⟨by have := HJ1.out; first | omega | exact Nat.le_refl _⟩, ⟨by (with_reducible repeat (first | refine blk_drewN ?_ _ | refine blk_drew ?_ | refine blk_alloc ?_ _)); refine blk_far ?_ NB404_406.out _; (with_reducible repeat (first | refine blk_drewN ?_ _ | refine blk_drew ?_ | refine blk_alloc ?_ _)); exact BK404.out⟩, ⟨by (with_reducible repeat (first | refine blk_drewN ?_ _ | refine blk_drew ?_ | refine blk_alloc ?_ _)); refine blk_far ?_ NB405_406.out _; (with_reducible repeat (first | refine blk_drewN ?_ _ | refine blk_drew ?_ | refine blk_alloc ?_ _)); exact BK405.out⟩, ⟨by (with_reducible repeat (first | refine blk_drewN ?_ _ | refine blk_drew ?_ | refine blk_alloc ?_ _)); refine blk_put (cs := #[.int .i64 a0_0, .int .i64 0, .slice none 0 0, .int .i64 0, .int .i64 0, .int .i64 0, .slice none 0 0, .int .i64 0, .slice none 0 0]) ?_ 1 _ rfl; (with_reducible repeat (first | refine blk_drewN ?_ _ | refine blk_drew ?_ | refine blk_alloc ?_ _)); exact BK406.out⟩, ⟨bl⟩⟩
  clear HC18
  (try clear hcz10_0); (try clear hcz10_1); (try clear hcz10_2); (try clear hcz10_3); (try clear hcz10_4); (try clear hcz10_5); (try clear hcz10_6); (try clear hcz10_7); (try clear hcz10_8); (try clear hcz6_0); (try clear hcz6_1); (try clear hcz6_2); (try clear hcz6_3); (try clear hcz6_4); (try clear hcz6_5); (try clear hcz6_6); (try clear hcz6_7); (try clear hcz6_8); (try clear hfz10_0); (try clear hfz10_1); (try clear hfz10_2); (try clear hfz10_3); (try clear hfz10_4); (try clear hfz10_5); (try clear hfz10_6); (try clear hfz10_7); (try clear hfz10_8); (try clear hfz6_0); (try clear hfz6_1); (try clear hfz6_2); (try clear hfz6_3); (try clear hfz6_4); (try clear hfz6_5); (try clear hfz6_6); (try clear hfz6_7); (try clear hfz6_8)
  obtain ⟨kq, x407001_17, HA, HJ17, BK404, BK405, BK406, HB⟩ := hcut
  cases kq with
  | zero => exact absurd HA.out (by simp [runnelref26_Plain.j1])
  | succ kj17 =>
   have H := HA.out
   clear HA
   simp only [runnelref26_Plain.j1] at H
   by_cases c25 : a0_0 = 0
   ·
    rw [if_pos c25] at H
    have c25b0 : (a0_0 == 0) = true := beq_iff_eq.mpr c25
    have c25b1 : (a0_0 != 0) = false := bne_eq_false_iff_eq.mpr c25
    clear c25
    simp only [Option.some.injEq, Prod.mk.injEq] at H
    obtain ⟨rfl, rfl, rfl, rfl, rfl, rfl, rfl, rfl, rfl⟩ := H
    have hnb26 := NB404_405.out
    have hnc26 := NB405_404.out
    have hnb27 := NB404_406.out
    have hnc27 := NB406_404.out
    obtain ⟨hcz28_0, hcz28_1, hcz28_2, hcz28_3, hcz28_4, hcz28_5, hcz28_6, hcz28_7, hcz28_8⟩ := cells9 BK404.out
    obtain ⟨hfz28_0, hfz28_1, hfz28_2, hfz28_3, hfz28_4, hfz28_5, hfz28_6, hfz28_7, hfz28_8⟩ := frz9 BK404.out
    have hnb29 := NB406_405.out
    have hnc29 := NB405_406.out
    obtain ⟨hcz30_0, hcz30_1, hcz30_2, hcz30_3, hcz30_4, hcz30_5, hcz30_6, hcz30_7, hcz30_8⟩ := cells9 BK406.out
    obtain ⟨hfz30_0, hfz30_1, hfz30_2, hfz30_3, hfz30_4, hfz30_5, hfz30_6, hfz30_7, hfz30_8⟩ := frz9 BK406.out
    obtain ⟨hcz31_0, hcz31_1, hcz31_2, hcz31_3, hcz31_4, hcz31_5, hcz31_6, hcz31_7, hcz31_8⟩ := cells9 BK405.out
    obtain ⟨hfz31_0, hfz31_1, hfz31_2, hfz31_3, hfz31_4, hfz31_5, hfz31_6, hfz31_7, hfz31_8⟩ := frz9 BK405.out
    go_wp2
    refine bodyPost_ret (results_cell_row rfl _ _ gb405 40 #[.int .i64 a0_0, .int .i64 x407001_17, .slice none 0 0, .int .i64 0, .int .i64 0, .int .i64 0, .slice none 0 0, .int .i64 0, .slice A0_8 l0_8.length c0_8] (0, 0) _ rfl bk Try.underlying40 rfl (by kernel_rfl)) rfl ?_
    exact ⟨_, _, _, erq, (by first | exact PTold.a rfl rfl | exact PTold.z rfl rfl), (by first | exact PTold.a rfl rfl | exact PTold.z rfl rfl), (by first | exact PTold.a rfl rfl | exact PTold.z rfl rfl), bl⟩
   rw [if_neg c25] at H
   have c25b0 : (a0_0 == 0) = false := beq_eq_false_iff_ne.mpr c25
   have c25b1 : (a0_0 != 0) = true := bne_iff_ne.mpr c25
   by_cases c32 : a0_0 = 1
   ·
    rw [if_pos c32] at H
    have c32b0 : (a0_0 == 1) = true := beq_iff_eq.mpr c32
    have c32b1 : (a0_0 != 1) = false := bne_eq_false_iff_eq.mpr c32
    clear c32
    simp only [Option.some.injEq, Prod.mk.injEq] at H
    obtain ⟨rfl, rfl, rfl, rfl, rfl, rfl, rfl, rfl, rfl⟩ := H
    have hnb33 := NB404_405.out
    have hnc33 := NB405_404.out
    have hnb34 := NB404_406.out
    have hnc34 := NB406_404.out
    obtain ⟨hcz35_0, hcz35_1, hcz35_2, hcz35_3, hcz35_4, hcz35_5, hcz35_6, hcz35_7, hcz35_8⟩ := cells9 BK404.out
    obtain ⟨hfz35_0, hfz35_1, hfz35_2, hfz35_3, hfz35_4, hfz35_5, hfz35_6, hfz35_7, hfz35_8⟩ := frz9 BK404.out
    have hnb36 := NB406_405.out
    have hnc36 := NB405_406.out
    obtain ⟨hcz37_0, hcz37_1, hcz37_2, hcz37_3, hcz37_4, hcz37_5, hcz37_6, hcz37_7, hcz37_8⟩ := cells9 BK406.out
    obtain ⟨hfz37_0, hfz37_1, hfz37_2, hfz37_3, hfz37_4, hfz37_5, hfz37_6, hfz37_7, hfz37_8⟩ := frz9 BK406.out
    obtain ⟨hcz38_0, hcz38_1, hcz38_2, hcz38_3, hcz38_4, hcz38_5, hcz38_6, hcz38_7, hcz38_8⟩ := cells9 BK405.out
    obtain ⟨hfz38_0, hfz38_1, hfz38_2, hfz38_3, hfz38_4, hfz38_5, hfz38_6, hfz38_7, hfz38_8⟩ := frz9 BK405.out
    go_wp2
    refine bodyPost_ret (results_cell_row rfl _ _ gb405 40 #[.int .i64 a0_0, .int .i64 x407001_17, .slice A0_2 l0_2.length c0_2, .int .i64 a0_3, .int .i64 a0_4, .int .i64 a0_5, .slice none 0 0, .int .i64 0, .slice none 0 0] (0, 0) _ rfl bk Try.underlying40 rfl (by kernel_rfl)) rfl ?_
    exact ⟨_, _, _, erq, (by first | exact PTold.a rfl rfl | exact PTold.z rfl rfl), (by first | exact PTold.a rfl rfl | exact PTold.z rfl rfl), (by first | exact PTold.a rfl rfl | exact PTold.z rfl rfl), bl⟩
   rw [if_neg c32] at H
   have c32b0 : (a0_0 == 1) = false := beq_eq_false_iff_ne.mpr c32
   have c32b1 : (a0_0 != 1) = true := bne_iff_ne.mpr c32
   have HC39 := Aside0.mk H
   clear H
   have hnb40 := NB404_405.out
   have hnc40 := NB405_404.out
   have hnb41 := NB404_406.out
   have hnc41 := NB406_404.out
   obtain ⟨hcz42_0, hcz42_1, hcz42_2, hcz42_3, hcz42_4, hcz42_5, hcz42_6, hcz42_7, hcz42_8⟩ := cells9 BK404.out
   obtain ⟨hfz42_0, hfz42_1, hfz42_2, hfz42_3, hfz42_4, hfz42_5, hfz42_6, hfz42_7, hfz42_8⟩ := frz9 BK404.out
   go_upto_if 30 with (fail)
   go_cut [30] (fun v30 wc => ∃ (kq : Nat) (x30_38 : Bool), v30 = .bool x30_38 ∧ Aside0 (runnelref26_Plain.j2 kq a0_0 x30_38 a0_0 a0_1 l0_2 a0_3 a0_4 a0_5 l0_6 a0_7 l0_8 a0_0 x407001_17 0 0 0 0 = some (r1, r2, r3, r4, r5, r6, r7, r8, r9)) ∧ Aside0 (kq ≤ kj17) ∧ Aside0 (wc.heap[gb404]? = some (.cells #[.int .i64 a0_0, .int .i64 a0_1, (.slice A0_2 l0_2.length c0_2), .int .i64 a0_3, .int .i64 a0_4, .int .i64 a0_5, (.slice A0_6 l0_6.length c0_6), .int .i64 a0_7, (.slice A0_8 l0_8.length c0_8)] 40 (0, 0))) ∧ Aside0 (wc.heap[gb405]? = some (.cells #[.int .i64 0, .int .i64 0, (.slice none 0 0), .int .i64 0, .int .i64 0, .int .i64 0, (.slice none 0 0), .int .i64 0, (.slice none 0 0)] 40 (0, 0))) ∧ Aside0 (wc.heap[gb406]? = some (.cells #[.int .i64 a0_0, .int .i64 x407001_17, (.slice none 0 0), .int .i64 0, .int .i64 0, .int .i64 0, (.slice none 0 0), .int .i64 0, (.slice none 0 0)] 40 (0, 0))) ∧ Aside0 (Below w.heap.size w wc))
   case first =>
    have H := HC39.out
    clear HC39
    by_cases c43 : a0_0 = 2
    rotate_left
    ·
     rw [if_neg c43] at H
     have c43b0 : (a0_0 == 2) = false := beq_eq_false_iff_ne.mpr c43
     have c43b1 : (a0_0 != 2) = true := bne_iff_ne.mpr c43
     (first | rw [c43b0] | (simp only [i64_w, i32_w]; rw [c43b0]) | skip)
     have H' := Aside0.mk H
     clear H
     go_wp2
     go_meet
     case rel => exact ⟨_, ((a0_0 == 4)), rsd, H', ⟨by have := HJ1.out; have := HJ17.out; first | omega | exact Nat.le_refl _⟩, ⟨bp BK404.out⟩, ⟨bp BK405.out⟩, ⟨bp BK406.out⟩, ⟨bl⟩⟩
    rw [if_pos c43] at H
    have c43b0 : (a0_0 == 2) = true := beq_iff_eq.mpr c43
    have c43b1 : (a0_0 != 2) = false := bne_eq_false_iff_eq.mpr c43
    clear c43
    (first | rw [c43b0] | (simp only [i64_w, i32_w]; rw [c43b0]) | skip)
    have H' := Aside0.mk H
    clear H
    go_wp2
    go_meet
    case rel => exact ⟨_, ((a0_0 == 2)), rsd, H', ⟨by have := HJ1.out; have := HJ17.out; first | omega | exact Nat.le_refl _⟩, ⟨bp BK404.out⟩, ⟨bp BK405.out⟩, ⟨bp BK406.out⟩, ⟨bl⟩⟩
   clear HC39
   (try clear c25); (try clear c25b0); (try clear c25b1); (try clear c32); (try clear c32b0); (try clear c32b1); (try clear hcz10_0); (try clear hcz10_1); (try clear hcz10_2); (try clear hcz10_3); (try clear hcz10_4); (try clear hcz10_5); (try clear hcz10_6); (try clear hcz10_7); (try clear hcz10_8); (try clear hcz42_0); (try clear hcz42_1); (try clear hcz42_2); (try clear hcz42_3); (try clear hcz42_4); (try clear hcz42_5); (try clear hcz42_6); (try clear hcz42_7); (try clear hcz42_8); (try clear hcz6_0); (try clear hcz6_1); (try clear hcz6_2); (try clear hcz6_3); (try clear hcz6_4); (try clear hcz6_5); (try clear hcz6_6); (try clear hcz6_7); (try clear hcz6_8); (try clear hfz10_0); (try clear hfz10_1); (try clear hfz10_2); (try clear hfz10_3); (try clear hfz10_4); (try clear hfz10_5); (try clear hfz10_6); (try clear hfz10_7); (try clear hfz10_8); (try clear hfz42_0); (try clear hfz42_1); (try clear hfz42_2); (try clear hfz42_3); (try clear hfz42_4); (try clear hfz42_5); (try clear hfz42_6); (try clear hfz42_7); (try clear hfz42_8); (try clear hfz6_0); (try clear hfz6_1); (try clear hfz6_2); (try clear hfz6_3); (try clear hfz6_4); (try clear hfz6_5); (try clear hfz6_6); (try clear hfz6_7); (try clear hfz6_8)
   obtain ⟨kq, x30_38, rfl, HA, HJ38, BK404, BK405, BK406, HB⟩ := hcut
   cases kq with
   | zero => exact absurd HA.out (by simp [runnelref26_Plain.j2])
   | succ kj38 =>
    have H := HA.out
    clear HA
    simp only [runnelref26_Plain.j2] at H
    by_cases c44 : x30_38 = true
    ·
     subst c44
     have H1 : (some (a0_0, x407001_17, ([] : List (S103)), 0, 0, 0, l0_6, 0, ([] : List Int))) = some (r1, r2, r3, r4, r5, r6, r7, r8, r9) := by rw [if_pos rfl] at H; exact H
     clear H
     have H := H1
     clear H1
     simp only [Option.some.injEq, Prod.mk.injEq] at H
     obtain ⟨rfl, rfl, rfl, rfl, rfl, rfl, rfl, rfl, rfl⟩ := H
     have hnb45 := NB404_405.out
     have hnc45 := NB405_404.out
     have hnb46 := NB404_406.out
     have hnc46 := NB406_404.out
     obtain ⟨hcz47_0, hcz47_1, hcz47_2, hcz47_3, hcz47_4, hcz47_5, hcz47_6, hcz47_7, hcz47_8⟩ := cells9 BK404.out
     obtain ⟨hfz47_0, hfz47_1, hfz47_2, hfz47_3, hfz47_4, hfz47_5, hfz47_6, hfz47_7, hfz47_8⟩ := frz9 BK404.out
     have hnb48 := NB406_405.out
     have hnc48 := NB405_406.out
     obtain ⟨hcz49_0, hcz49_1, hcz49_2, hcz49_3, hcz49_4, hcz49_5, hcz49_6, hcz49_7, hcz49_8⟩ := cells9 BK406.out
     obtain ⟨hfz49_0, hfz49_1, hfz49_2, hfz49_3, hfz49_4, hfz49_5, hfz49_6, hfz49_7, hfz49_8⟩ := frz9 BK406.out
     obtain ⟨hcz50_0, hcz50_1, hcz50_2, hcz50_3, hcz50_4, hcz50_5, hcz50_6, hcz50_7, hcz50_8⟩ := cells9 BK405.out
     obtain ⟨hfz50_0, hfz50_1, hfz50_2, hfz50_3, hfz50_4, hfz50_5, hfz50_6, hfz50_7, hfz50_8⟩ := frz9 BK405.out
     go_wp2
     refine bodyPost_ret (results_cell_row rfl _ _ gb405 40 #[.int .i64 a0_0, .int .i64 x407001_17, .slice none 0 0, .int .i64 0, .int .i64 0, .int .i64 0, .slice A0_6 l0_6.length c0_6, .int .i64 0, .slice none 0 0] (0, 0) _ rfl bk Try.underlying40 rfl (by kernel_rfl)) rfl ?_
     exact ⟨_, _, _, erq, (by first | exact PTold.a rfl rfl | exact PTold.z rfl rfl), (by first | exact PTold.a rfl rfl | exact PTold.z rfl rfl), (by first | exact PTold.a rfl rfl | exact PTold.z rfl rfl), bl⟩
    replace c44 := Bool.eq_false_iff.mpr c44
    subst c44
    have H1 : (if a0_0 = 3 then (some (a0_0, x407001_17, ([] : List (S103)), 0, 0, 0, ([] : List (S36)), a0_7, ([] : List Int))) else (if a0_0 = 5 then (some (a0_0, x407001_17, ([] : List (S103)), a0_3, a0_4, 0, ([] : List (S36)), 0, ([] : List Int))) else (some (a0_0, x407001_17, ([] : List (S103)), 0, 0, 0, ([] : List (S36)), 0, ([] : List Int))))) = some (r1, r2, r3, r4, r5, r6, r7, r8, r9) := by rw [if_neg (show ¬ (false = true) by decide)] at H; exact H
    clear H
    have H := H1
    clear H1
    by_cases c51 : a0_0 = 3
    ·
     rw [if_pos c51] at H
     have c51b0 : (a0_0 == 3) = true := beq_iff_eq.mpr c51
     have c51b1 : (a0_0 != 3) = false := bne_eq_false_iff_eq.mpr c51
     clear c51
     simp only [Option.some.injEq, Prod.mk.injEq] at H
     obtain ⟨rfl, rfl, rfl, rfl, rfl, rfl, rfl, rfl, rfl⟩ := H
     have hnb52 := NB404_405.out
     have hnc52 := NB405_404.out
     have hnb53 := NB404_406.out
     have hnc53 := NB406_404.out
     obtain ⟨hcz54_0, hcz54_1, hcz54_2, hcz54_3, hcz54_4, hcz54_5, hcz54_6, hcz54_7, hcz54_8⟩ := cells9 BK404.out
     obtain ⟨hfz54_0, hfz54_1, hfz54_2, hfz54_3, hfz54_4, hfz54_5, hfz54_6, hfz54_7, hfz54_8⟩ := frz9 BK404.out
     have hnb55 := NB406_405.out
     have hnc55 := NB405_406.out
     obtain ⟨hcz56_0, hcz56_1, hcz56_2, hcz56_3, hcz56_4, hcz56_5, hcz56_6, hcz56_7, hcz56_8⟩ := cells9 BK406.out
     obtain ⟨hfz56_0, hfz56_1, hfz56_2, hfz56_3, hfz56_4, hfz56_5, hfz56_6, hfz56_7, hfz56_8⟩ := frz9 BK406.out
     obtain ⟨hcz57_0, hcz57_1, hcz57_2, hcz57_3, hcz57_4, hcz57_5, hcz57_6, hcz57_7, hcz57_8⟩ := cells9 BK405.out
     obtain ⟨hfz57_0, hfz57_1, hfz57_2, hfz57_3, hfz57_4, hfz57_5, hfz57_6, hfz57_7, hfz57_8⟩ := frz9 BK405.out
     go_wp2
     refine bodyPost_ret (results_cell_row rfl _ _ gb405 40 #[.int .i64 a0_0, .int .i64 x407001_17, .slice none 0 0, .int .i64 0, .int .i64 0, .int .i64 0, .slice none 0 0, .int .i64 a0_7, .slice none 0 0] (0, 0) _ rfl bk Try.underlying40 rfl (by kernel_rfl)) rfl ?_
     exact ⟨_, _, _, erq, (by first | exact PTold.a rfl rfl | exact PTold.z rfl rfl), (by first | exact PTold.a rfl rfl | exact PTold.z rfl rfl), (by first | exact PTold.a rfl rfl | exact PTold.z rfl rfl), bl⟩
    rw [if_neg c51] at H
    have c51b0 : (a0_0 == 3) = false := beq_eq_false_iff_ne.mpr c51
    have c51b1 : (a0_0 != 3) = true := bne_iff_ne.mpr c51
    by_cases c58 : a0_0 = 5
    rotate_left
    ·
     rw [if_neg c58] at H
     have c58b0 : (a0_0 == 5) = false := beq_eq_false_iff_ne.mpr c58
     have c58b1 : (a0_0 != 5) = true := bne_iff_ne.mpr c58
     simp only [Option.some.injEq, Prod.mk.injEq] at H
     obtain ⟨rfl, rfl, rfl, rfl, rfl, rfl, rfl, rfl, rfl⟩ := H
     have hnb65 := NB406_404.out
     have hnc65 := NB404_406.out
     have hnb66 := NB406_405.out
     have hnc66 := NB405_406.out
     obtain ⟨hcz67_0, hcz67_1, hcz67_2, hcz67_3, hcz67_4, hcz67_5, hcz67_6, hcz67_7, hcz67_8⟩ := cells9 BK406.out
     obtain ⟨hfz67_0, hfz67_1, hfz67_2, hfz67_3, hfz67_4, hfz67_5, hfz67_6, hfz67_7, hfz67_8⟩ := frz9 BK406.out
     have hnb68 := NB405_404.out
     have hnc68 := NB404_405.out
     obtain ⟨hcz69_0, hcz69_1, hcz69_2, hcz69_3, hcz69_4, hcz69_5, hcz69_6, hcz69_7, hcz69_8⟩ := cells9 BK405.out
     obtain ⟨hfz69_0, hfz69_1, hfz69_2, hfz69_3, hfz69_4, hfz69_5, hfz69_6, hfz69_7, hfz69_8⟩ := frz9 BK405.out
     go_wp2
     refine bodyPost_ret (results_cell_row rfl _ _ gb405 40 #[.int .i64 a0_0, .int .i64 x407001_17, .slice none 0 0, .int .i64 0, .int .i64 0, .int .i64 0, .slice none 0 0, .int .i64 0, .slice none 0 0] (0, 0) _ rfl bk Try.underlying40 rfl (by kernel_rfl)) rfl ?_
     exact ⟨_, _, _, erq, (by first | exact PTold.a rfl rfl | exact PTold.z rfl rfl), (by first | exact PTold.a rfl rfl | exact PTold.z rfl rfl), (by first | exact PTold.a rfl rfl | exact PTold.z rfl rfl), bl⟩
    rw [if_pos c58] at H
    have c58b0 : (a0_0 == 5) = true := beq_iff_eq.mpr c58
    have c58b1 : (a0_0 != 5) = false := bne_eq_false_iff_eq.mpr c58
    clear c58
    simp only [Option.some.injEq, Prod.mk.injEq] at H
    obtain ⟨rfl, rfl, rfl, rfl, rfl, rfl, rfl, rfl, rfl⟩ := H
    have hnb59 := NB404_405.out
    have hnc59 := NB405_404.out
    have hnb60 := NB404_406.out
    have hnc60 := NB406_404.out
    obtain ⟨hcz61_0, hcz61_1, hcz61_2, hcz61_3, hcz61_4, hcz61_5, hcz61_6, hcz61_7, hcz61_8⟩ := cells9 BK404.out
    obtain ⟨hfz61_0, hfz61_1, hfz61_2, hfz61_3, hfz61_4, hfz61_5, hfz61_6, hfz61_7, hfz61_8⟩ := frz9 BK404.out
    have hnb62 := NB406_405.out
    have hnc62 := NB405_406.out
    obtain ⟨hcz63_0, hcz63_1, hcz63_2, hcz63_3, hcz63_4, hcz63_5, hcz63_6, hcz63_7, hcz63_8⟩ := cells9 BK406.out
    obtain ⟨hfz63_0, hfz63_1, hfz63_2, hfz63_3, hfz63_4, hfz63_5, hfz63_6, hfz63_7, hfz63_8⟩ := frz9 BK406.out
    obtain ⟨hcz64_0, hcz64_1, hcz64_2, hcz64_3, hcz64_4, hcz64_5, hcz64_6, hcz64_7, hcz64_8⟩ := cells9 BK405.out
    obtain ⟨hfz64_0, hfz64_1, hfz64_2, hfz64_3, hfz64_4, hfz64_5, hfz64_6, hfz64_7, hfz64_8⟩ := frz9 BK405.out
    go_wp2
    refine bodyPost_ret (results_cell_row rfl _ _ gb405 40 #[.int .i64 a0_0, .int .i64 x407001_17, .slice none 0 0, .int .i64 a0_3, .int .i64 a0_4, .int .i64 0, .slice none 0 0, .int .i64 0, .slice none 0 0] (0, 0) _ rfl bk Try.underlying40 rfl (by kernel_rfl)) rfl ?_
    exact ⟨_, _, _, erq, (by first | exact PTold.a rfl rfl | exact PTold.z rfl rfl), (by first | exact PTold.a rfl rfl | exact PTold.z rfl rfl), (by first | exact PTold.a rfl rfl | exact PTold.z rfl rfl), bl⟩
theorem runnelref26_Plain.calls (k : Nat) (a0_0 : Int) (a0_1 : Int) (P0_2_ : Nat → Prop) (A0_2 : Option Addr) (c0_2 : Nat) (l0_2 : List (S103)) (a0_3 : Int) (a0_4 : Int) (a0_5 : Int) (P0_6_ : Nat → Prop) (A0_6 : Option Addr) (c0_6 : Nat) (l0_6 : List (S36)) (a0_7 : Int) (P0_8_ : Nat → Prop) (A0_8 : Option Addr) (c0_8 : Nat) (l0_8 : List Int) (r1 : Int) (r2 : Int) (r3 : List (S103)) (r4 : Int) (r5 : Int) (r6 : Int) (r7 : List (S36)) (r8 : Int) (r9 : List Int) (w : World) (hs0_2 : Kd.V k103 103 w w.heap.size (fun k_ => P0_2_ k_) (.slice A0_2 l0_2.length c0_2) l0_2) (hs0_6 : Kd.V k36 36 w w.heap.size (fun k_ => P0_6_ k_) (.slice A0_6 l0_6.length c0_6) l0_6) (hs0_8 : Kd.V (Kd.int .u8) 5 w w.heap.size (fun k_ => P0_8_ k_) (.slice A0_8 l0_8.length c0_8) l0_8) (h : runnelref26_Plain.f k a0_0 a0_1 l0_2 a0_3 a0_4 a0_5 l0_6 a0_7 l0_8 = some (r1, r2, r3, r4, r5, r6, r7, r8, r9)) :
  Calls Try.prog 23 #[.agg #[.int .i64 a0_0, .int .i64 a0_1, .slice A0_2 l0_2.length c0_2, .int .i64 a0_3, .int .i64 a0_4, .int .i64 a0_5, .slice A0_6 l0_6.length c0_6, .int .i64 a0_7, .slice A0_8 l0_8.length c0_8]] w fun e w' => ∃ v2_ v6_ v8_ : Value, e = .returned (.agg #[.int .i64 r1, .int .i64 r2, v2_, .int .i64 r4, .int .i64 r5, .int .i64 r6, v6_, .int .i64 r8, v8_]) ∧ Kd.V k103 103 w' w.heap.size (fun k_ => ((P0_2_ k_ ∨ P0_6_ k_ ∨ P0_8_ k_) ∨ w.heap.size ≤ k_)) v2_ r3 ∧ Kd.V k36 36 w' w.heap.size (fun k_ => ((P0_2_ k_ ∨ P0_6_ k_ ∨ P0_8_ k_) ∨ w.heap.size ≤ k_)) v6_ r7 ∧ Kd.V (Kd.int .u8) 5 w' w.heap.size (fun k_ => ((P0_2_ k_ ∨ P0_6_ k_ ∨ P0_8_ k_) ∨ w.heap.size ≤ k_)) v8_ r9 ∧ Below w.heap.size w w' := by
 refine (runnelref26_Plain.told (h := h) (A0_2 := A0_2) (c0_2 := c0_2) (A0_6 := A0_6) (c0_6 := c0_6) (A0_8 := A0_8) (c0_8 := c0_8) (w := w)).mono ?_; rintro e w' ⟨v2_, v6_, v8_, he, h2, h6, h8, hb⟩; refine ⟨v2_, v6_, v8_, he, ?_, ?_, ?_, hb⟩
 · rcases h2 with ⟨rfl, rfl⟩ | ⟨rfl, rfl⟩
   · exact Kd.V_mono (Kd.V_below hs0_2 hb) (fun k_ hk => .inl (.inl hk))
   · exact Kd.V_nil _ _ _ _ _
 · rcases h6 with ⟨rfl, rfl⟩ | ⟨rfl, rfl⟩
   · exact Kd.V_mono (Kd.V_below hs0_6 hb) (fun k_ hk => .inl (.inr (.inl hk)))
   · exact Kd.V_nil _ _ _ _ _
 · rcases h8 with ⟨rfl, rfl⟩ | ⟨rfl, rfl⟩
   · exact Kd.V_mono (Kd.V_below hs0_8 hb) (fun k_ hk => .inl (.inr (.inr hk)))
   · exact Kd.V_nil _ _ _ _ _

end Go.Proofs.Ytpplklickfioiaa.PWirePuts
