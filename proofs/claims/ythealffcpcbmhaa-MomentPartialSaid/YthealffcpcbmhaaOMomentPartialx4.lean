/- One piece of the machine's side of the law, written by a program over the translation; Lean checks it. -/
import Derived.Test.YthealffcpcbmhaaOMomentPartialx0
import Derived.Test.YthealffcpcbmhaaOMomentPartialx2
import Derived.Test.YthealffcpcbmhaaOMomentPartialx3
import Derived.Maps.RangeWalk
import Derived.Maps.Own
import Derived.DeepKeys4
import Derived.Shelf.SlSortCmp.NoneTotal
import Derived.Shelf.SlicesG.Cmp
namespace Go.Proofs.Ythealffcpcbmhaa.PMomentPartial
open Go.RowKit Go.Proofs.YthealffcpcbmhaaW.PrintWords Go.Proofs.YthealffcpcbmhaaW.PrintLast Go.Proofs.YthealffcpcbmhaaW.PrintMore
attribute [local go_sem] max2_int min2_int max_two min_two max_three min_three max_four min_four   -- for this text's walks alone
set_option linter.unusedVariables false
set_option linter.unusedSimpArgs false

/-! ### runnelref04_Closure: function 12 -/
mutual
def runnelref04_Closure.l0 : Nat → List (S28) → List (S28) → Int → Option ((List (S28)))
  | 0, _, _, _ => none
  | k + 1, x0, x3, x4 => if x4 < (x0.length : Int) then (runnelref04_Closure.l1 k x0 x3 x4 0) else (some x3)
def runnelref04_Closure.l1 : Nat → List (S28) → List (S28) → Int → Int → Option ((List (S28)))
  | 0, _, _, _, _ => none
  | k + 1, x0, x3, x4, x5 => if x5 < (x0.length : Int) then (if 0 ≤ x4 then (if x4 < (x0.length : Int) then (if 0 ≤ x5 then ((runnelref04_Join.f ((rd_T28 x0 x4).f0) ((rd_T28 x0 x4).f1) ((rd_T28 x0 x5).f0) ((rd_T28 x0 x5).f1)).bind fun bt154 => ((runnelref04_Add.f k x3 bt154.1 bt154.2).bind fun t156 => (runnelref04_Closure.l1 k x0 t156 x4 (wrap64 (x5 + 1))))) else (none)) else (none)) else (none)) else (runnelref04_Closure.l0 k x0 x3 (wrap64 (x4 + 1)))
end
def runnelref04_Closure.f (k : Nat) (l0 : List (S28)) : Option ((List (S28))) := runnelref04_Closure.l0 k l0 ([] : List (S28)) 0
theorem runnelref04_Closure.mono_l : ∀ k, (∀ y0 y1 y2, LeO (runnelref04_Closure.l0 k y0 y1 y2) (runnelref04_Closure.l0 (k + 1) y0 y1 y2)) ∧ (∀ y0 y1 y2 y3, LeO (runnelref04_Closure.l1 k y0 y1 y2 y3) (runnelref04_Closure.l1 (k + 1) y0 y1 y2 y3))
  | 0 => ⟨fun _ _ _ r h => by simp [runnelref04_Closure.l0] at h, fun _ _ _ _ r h => by simp [runnelref04_Closure.l1] at h⟩
  | k + 1 => by
    obtain ⟨ih0, ih1⟩ := runnelref04_Closure.mono_l k
    refine ⟨?_, ?_⟩
    · intro y0 y1 y2
      unfold runnelref04_Closure.l0
      repeat' first
      | (with_reducible exact ih0 _ _ _)
      | (with_reducible exact ih1 _ _ _ _)
      | (with_reducible exact runnelref04_Add.mono _ _ _ _)
      | (with_reducible exact LeO.refl _)
      | (with_reducible exact LeO.none _)
      | (with_reducible refine LeO.ite ?_ ?_)
      | (with_reducible refine LeO.bind ?_ (fun _ => ?_))
      | exact ih0 _ _ _
      | exact ih1 _ _ _ _
      | exact runnelref04_Add.mono _ _ _ _
      | exact LeO.none _
      | refine LeO.ite ?_ ?_
      | refine LeO.bind ?_ (fun _ => ?_)
    · intro y0 y1 y2 y3
      unfold runnelref04_Closure.l1
      repeat' first
      | (with_reducible exact ih0 _ _ _)
      | (with_reducible exact ih1 _ _ _ _)
      | (with_reducible exact runnelref04_Add.mono _ _ _ _)
      | (with_reducible exact LeO.refl _)
      | (with_reducible exact LeO.none _)
      | (with_reducible refine LeO.ite ?_ ?_)
      | (with_reducible refine LeO.bind ?_ (fun _ => ?_))
      | exact ih0 _ _ _
      | exact ih1 _ _ _ _
      | exact runnelref04_Add.mono _ _ _ _
      | exact LeO.none _
      | refine LeO.ite ?_ ?_
      | refine LeO.bind ?_ (fun _ => ?_)
theorem runnelref04_Closure.mono : ∀ a0 k, LeO (runnelref04_Closure.f k a0) (runnelref04_Closure.f (k + 1) a0) := by
  intro a0 k
  obtain ⟨ih0, ih1⟩ := runnelref04_Closure.mono_l k
  unfold runnelref04_Closure.f
  repeat' first
      | (with_reducible exact ih0 _ _ _)
      | (with_reducible exact ih1 _ _ _ _)
      | (with_reducible exact runnelref04_Add.mono _ _ _ _)
      | (with_reducible exact LeO.refl _)
      | (with_reducible exact LeO.none _)
      | (with_reducible refine LeO.ite ?_ ?_)
      | (with_reducible refine LeO.bind ?_ (fun _ => ?_))
      | exact ih0 _ _ _
      | exact ih1 _ _ _ _
      | exact runnelref04_Add.mono _ _ _ _
      | exact LeO.none _
      | refine LeO.ite ?_ ?_
      | refine LeO.bind ?_ (fun _ => ?_)
def runnelref04_Closure.T8 : Bool × List (List Nat × List Nat) := (true, [([], []), ([], []), ([], []), ([1, 2], [1, 2]), ([3], [3]), ([], []), ([], []), ([5, 6], [5, 6]), ([7], [7]), ([4, 8], [4, 8]), ([0, 9, 9], [0, 9]), ([10, 10, 0, 1, 2, 3, 4, 5, 6, 7, 8, 9, 10], [0, 10])])
def runnelref04_Closure.B8 : List Nat := [0, 0, 0, 6, 14, 0, 0, 96, 224, 510, 1023, 2047]
theorem runnelref04_Closure.tab8 : rtab .any (opsOf Try.f12 8) = runnelref04_Closure.T8 := by kernel_rfl
theorem runnelref04_Closure.bits8 : waitsOk runnelref04_Closure.T8.2 runnelref04_Closure.B8 = true := by kernel_rfl
set_option maxHeartbeats 8000000 in
set_option maxRecDepth 100000 in
theorem runnelref04_Closure.calls (k : Nat) (A0 : Option Addr) (c0 : Nat) (l0 : List (S28)) (r : List (S28)) (w : World) (hr0 : Kd.C k28 w A0 l0.length l0) (hc0 : l0.length ≤ c0) (h : runnelref04_Closure.f k l0 = some r) :
    Calls Try.prog 12 #[.slice A0 l0.length c0] w fun e w' => ∃ v0_ : Value, e = .returned (v0_) ∧ Kd.R k28 28 w' w.heap.size (fun _ => True) v0_ r ∧ Below w.heap.size w w' := by
  have hu28 := Try.underlying28
  have HR0 := Aside0.mk hr0
  have HC0 := Aside0.mk hc0
  clear hr0 hc0
  have HB := Aside0.mk (Below.refl w.heap.size w)
  have H : (runnelref04_Closure.l0 k l0 ([] : List (S28)) 0) = some r := h
  clear h
  have H' := Aside0.mk H
  clear H
  go_enter Try.func12, Try.ntmps12
  go_wp2
  go_loopg [3, 4] k (fun kq v3 v4 w' => ∃ (x3_1 : List (S28)) (x4_1 : Int), v4 = .int .i64 x4_1 ∧ Aside0 (runnelref04_Closure.l0 kq l0 x3_1 x4_1 = some r) ∧ Aside0 (kq ≤ k) ∧ Aside0 (Kd.R k28 28 w' w.heap.size (fun _ => True) v3 x3_1) ∧ Aside0 (Below w.heap.size w w'))
  case atStart => exact ⟨(([] : List (S28))), (0), (by first | rfl | (simp; done) | (simp [*]; done)), H', ⟨Nat.le_refl _⟩, ⟨by first | exact Kd.R_nil _ _ _ _ _ | exact Kd.N_nil _ _ _ _ _ | exact Kd.V_nil _ _ _ _ _ | exact Kd.Q_nil _ _ _ _ _ | exact Kd.S_nil _ _ _ _ _⟩, ⟨by repeat (first | (with_reducible first | exact HB.out | apply below_alloc | apply pw_below_drewN | apply below_drew1) | exact HB.out)⟩⟩
  case round =>
    clear H'
    try clear c1
    obtain ⟨x3_1, x4_1, rfl, HA, HK1, HO_3, HB⟩ := hrel
    cases gk with
    | zero => exact absurd HA.out (by simp [runnelref04_Closure.l0])
    | succ k1 =>
      have H := HA.out
      clear HA
      simp only [runnelref04_Closure.l0] at H
      by_cases c2 : x4_1 < (l0.length : Int)
      · rw [if_pos c2] at H
        have c2b0 : decide (x4_1 < (l0.length : Int)) = true := decide_eq_true c2
        clear c2
        have H' := Aside0.mk H
        clear H
        go_wp2
        go_loopg [3, 5] k1 (fun kq v3 v5 w' => ∃ (x3_2 : List (S28)) (x5_2 : Int), v5 = .int .i64 x5_2 ∧ Aside0 (runnelref04_Closure.l1 kq l0 x3_2 x4_1 x5_2 = some r) ∧ Aside0 (kq ≤ k1) ∧ Aside0 (Kd.R k28 28 w' w.heap.size (fun _ => True) v3 x3_2) ∧ Aside0 (Below w.heap.size w w'))
        case atStart => exact ⟨(x3_1), (0), (by first | rfl | (simp; done) | (simp [*]; done)), H', ⟨Nat.le_refl _⟩, ⟨by (with_reducible repeat (first | apply Kd.R_alloc | apply Kd.R_drewN | apply Kd.R_drew)); exact HO_3.out⟩, ⟨by repeat (first | (with_reducible first | exact HB.out | apply below_alloc | apply pw_below_drewN | apply below_drew1) | exact HB.out)⟩⟩
        case round =>
          clear H'
          try clear c1
          try clear c2
          try clear c2b0
          try clear p2
          obtain ⟨x3_2, x5_2, rfl, HA, HK2, HO_3, HB⟩ := hrel
          cases gk with
          | zero => exact absurd HA.out (by simp [runnelref04_Closure.l1])
          | succ k2 =>
            have H := HA.out
            clear HA
            simp only [runnelref04_Closure.l1] at H
            by_cases c3 : x5_2 < (l0.length : Int)
            · rw [if_pos c3] at H
              have c3b0 : decide (x5_2 < (l0.length : Int)) = true := decide_eq_true c3
              clear c3
              by_cases c4 : 0 ≤ x4_1
              · rw [if_pos c4] at H
                have c4b0 : decide (0 ≤ x4_1) = true := decide_eq_true c4
                clear c4
                by_cases c5 : x4_1 < (l0.length : Int)
                · rw [if_pos c5] at H
                  have c5b0 : decide (x4_1 < (l0.length : Int)) = true := decide_eq_true c5
                  clear c5
                  by_cases c6 : 0 ≤ x5_2
                  · rw [if_pos c6] at H
                    have c6b0 : decide (0 ≤ x5_2) = true := decide_eq_true c6
                    clear c6
                    replace H := Option.bind_eq_some_iff.mp H
                    obtain ⟨⟨t154, t155⟩, A70, H⟩ := H
                    replace H : ((runnelref04_Add.f k2 x3_2 t154 t155).bind fun t156 => (runnelref04_Closure.l1 k2 l0 t156 x4_1 (wrap64 (x5_2 + 1)))) = some r := H
                    have A7 := Aside0.mk A70
                    clear A70
                    replace H := Option.bind_eq_some_iff.mp H
                    obtain ⟨t156, A80, H⟩ := H
                    replace H : (runnelref04_Closure.l1 k2 l0 t156 x4_1 (wrap64 (x5_2 + 1))) = some r := H
                    have A8 := Aside0.mk A80
                    clear A80
                    have H' := Aside0.mk H
                    clear H
                    try go_wp2
                    have n0_ := Aside0.mk (Kd.R_drew HO_3.out)
                    have n1_ := Aside0.mk (below_drew1 HB.out)
                    clear HO_3
                    clear HB
                    have HO_3 := n0_
                    have HB := n1_
                    clear n0_ n1_
                    have p152 : 0 ≤ (x4_1 : Int) := of_decide_eq_true (by first | (with_reducible assumption) | assumption)
                    have q152 : x4_1 < (l0.length : Int) := of_decide_eq_true (by first | (with_reducible assumption) | assumption)
                    obtain ⟨ad152, e152, hx152_0, hx152_1⟩ := at_T28 HR0.out x4_1 p152 q152
                    have hw152_1 := hx152_1
                    have hw152_0 := hx152_0
                    cases e152
                    replace hx152_0 := (HB.out.cell (World.block_lt_of_cell? w _ hx152_0)).trans hx152_0
                    replace hx152_1 := (HB.out.cell (World.block_lt_of_cell? w _ hx152_1)).trans hx152_1
                    replace p152 := eq_true p152
                    replace q152 := eq_true q152
                    have p153 : 0 ≤ (x5_2 : Int) := of_decide_eq_true (by first | (with_reducible assumption) | assumption)
                    have q153 : x5_2 < (l0.length : Int) := of_decide_eq_true (by first | (with_reducible assumption) | assumption)
                    obtain ⟨ad153, e153, hx153_0, hx153_1⟩ := at_T28 HR0.out x5_2 p153 q153
                    have hw153_1 := hx153_1
                    have hw153_0 := hx153_0
                    obtain rfl : ad152 = ad153 := (by injection e153)
                    replace hx153_0 := (HB.out.cell (World.block_lt_of_cell? w _ hx153_0)).trans hx153_0
                    replace hx153_1 := (HB.out.cell (World.block_lt_of_cell? w _ hx153_1)).trans hx153_1
                    replace p153 := eq_true p153
                    replace q153 := eq_true q153
                    refine start_ (n := 12) (S := fun w' => w'.cell? (ad152.add ((x4_1).toNat * 2)) = some (.int .i64 ((rd_T28 l0 x4_1).f0)) ∧ w'.cell? ⟨(ad152.add ((x4_1).toNat * 2)).block, (ad152.add ((x4_1).toNat * 2)).off + 1, none⟩ = some (.int .i64 ((rd_T28 l0 x4_1).f1)) ∧ w'.cell? (ad152.add ((x5_2).toNat * 2)) = some (.int .i64 ((rd_T28 l0 x5_2).f0)) ∧ w'.cell? ⟨(ad152.add ((x5_2).toNat * 2)).block, (ad152.add ((x5_2).toNat * 2)).off + 1, none⟩ = some (.int .i64 ((rd_T28 l0 x5_2).f1))) (ds := []) #[false, false, false, false, false, false, false, false, false, false, false, false] (by kernel_rfl) rfl rfl ⟨((HB.out.cell (World.block_lt_of_cell? w _ hw152_0)).trans hw152_0), ((HB.out.cell (World.block_lt_of_cell? w _ hw152_1)).trans hw152_1), ((HB.out.cell (World.block_lt_of_cell? w _ hw153_0)).trans hw153_0), ((HB.out.cell (World.block_lt_of_cell? w _ hw153_1)).trans hw153_1)⟩ (fun hHeld => ?_); refine with_tabW runnelref04_Closure.tab8 runnelref04_Closure.bits8 (fun HT_ HW_ => ?_)
                    generalize wr.drew = w9 at HO_3 HB hx152_0 hx152_1 hx153_0 hx153_1 hHeld ⊢
                    refine pure_ (i := 0) (N := some 18) (v := ?_) (a' := ?_) #[true, false, false, false, false, false, false, false, false, false, false, false] rfl rfl (any_of HT_.out (by kernel_rfl)) (fun _ _ _ h => h) (Or.inl ⟨by rfl, ?_⟩) ?_ ?_
                    rotate_left
                    · intro w'
                      go_simp
                      with_reducible rfl
                    rotate_left
                    · simp only [Act.put, List.setIfInBounds_toArray, List.set_cons_zero, List.set_cons_succ, i64_w, i32_w]
                      rfl
                    refine pure_ (i := 1) (N := some 19) (v := ?_) (a' := ?_) #[true, true, false, false, false, false, false, false, false, false, false, false] rfl rfl (any_of HT_.out (by kernel_rfl)) (fun _ _ _ h => h) (Or.inl ⟨by rfl, ?_⟩) ?_ ?_
                    rotate_left
                    · intro w'
                      go_simp
                      with_reducible rfl
                    rotate_left
                    · simp only [Act.put, List.setIfInBounds_toArray, List.set_cons_zero, List.set_cons_succ, i64_w, i32_w]
                      rfl
                    refine pure_ (i := 2) (N := some 20) (v := ?_) (a' := ?_) #[true, true, true, false, false, false, false, false, false, false, false, false] rfl rfl (any_of HT_.out (by kernel_rfl)) (fun _ _ _ h => h) (Or.inl ⟨by rfl, ?_⟩) ?_ ?_
                    rotate_left
                    · intro w'
                      go_simp
                      with_reducible rfl
                    rotate_left
                    · simp only [Act.put, List.setIfInBounds_toArray, List.set_cons_zero, List.set_cons_succ, i64_w, i32_w]
                      rfl
                    refine pure_ (i := 3) (N := some 21) (v := ?_) (a' := ?_) #[true, true, true, true, false, false, false, false, false, false, false, false] rfl rfl (any_of HT_.out (by kernel_rfl)) (fun _ _ _ h => h) (Or.inl ⟨by rfl, ?_⟩) ?_ ?_
                    rotate_left
                    · intro w'
                      go_simp
                      with_reducible rfl
                    rotate_left
                    · simp only [Act.put, List.setIfInBounds_toArray, List.set_cons_zero, List.set_cons_succ, i64_w, i32_w]
                      rfl
                    refine pure_ (i := 5) (N := some 23) (v := ?_) (a' := ?_) #[true, true, true, true, false, true, false, false, false, false, false, false] rfl rfl (any_of HT_.out (by kernel_rfl)) (fun _ _ _ h => h) (Or.inl ⟨by rfl, ?_⟩) ?_ ?_
                    rotate_left
                    · intro w'
                      go_simp
                      with_reducible rfl
                    rotate_left
                    · simp only [Act.put, List.setIfInBounds_toArray, List.set_cons_zero, List.set_cons_succ, i64_w, i32_w]
                      rfl
                    refine pure_ (i := 6) (N := some 24) (v := ?_) (a' := ?_) #[true, true, true, true, false, true, true, false, false, false, false, false] rfl rfl (any_of HT_.out (by kernel_rfl)) (fun _ _ _ h => h) (Or.inl ⟨by rfl, ?_⟩) ?_ ?_
                    rotate_left
                    · intro w'
                      go_simp
                      with_reducible rfl
                    rotate_left
                    · simp only [Act.put, List.setIfInBounds_toArray, List.set_cons_zero, List.set_cons_succ, i64_w, i32_w]
                      rfl
                    refine pure_ (i := 7) (N := some 25) (v := ?_) (a' := ?_) #[true, true, true, true, false, true, true, true, false, false, false, false] rfl rfl (any_of HT_.out (by kernel_rfl)) (fun _ _ _ h => h) (Or.inl ⟨by rfl, ?_⟩) ?_ ?_
                    rotate_left
                    · intro w'
                      go_simp
                      with_reducible rfl
                    rotate_left
                    · simp only [Act.put, List.setIfInBounds_toArray, List.set_cons_zero, List.set_cons_succ, i64_w, i32_w]
                      rfl
                    refine take_ (i := 4) (N := some 22) (v := ?_) (a' := ?_) #[true, true, true, true, true, true, true, true, false, false, false, false] rfl rfl (take_ofW HT_.out HW_.out (by kernel_rfl)) (fun _ _ _ h => h) (Or.inl ⟨by rfl, ?_⟩) hHeld ?_ ?_
                    rotate_left
                    · rintro w' ⟨s0, s1, s2, s3⟩
                      go_simp
                      with_reducible rfl
                    rotate_left
                    · simp only [Act.put, List.setIfInBounds_toArray, List.set_cons_zero, List.set_cons_succ, i64_w, i32_w]
                      rfl
                    refine take_ (i := 8) (N := some 26) (v := ?_) (a' := ?_) #[true, true, true, true, true, true, true, true, true, false, false, false] rfl rfl (take_ofW HT_.out HW_.out (by kernel_rfl)) (fun _ _ _ h => h) (Or.inl ⟨by rfl, ?_⟩) hHeld ?_ ?_
                    rotate_left
                    · rintro w' ⟨s0, s1, s2, s3⟩
                      go_simp
                      with_reducible rfl
                    rotate_left
                    · simp only [Act.put, List.setIfInBounds_toArray, List.set_cons_zero, List.set_cons_succ, i64_w, i32_w]
                      rfl
                    refine one_ (i := 9) (N := some 27) #[true, true, true, true, true, true, true, true, true, true, false, false] rfl rfl (one_of HT_.out (by kernel_rfl)) (by decide) (fun K hK => ?_)
                    refine goes_ Try.func20 (by kernel_rfl) rfl #[.agg #[.int .i64 ((rd_T28 l0 x4_1).f0), .int .i64 ((rd_T28 l0 x4_1).f1)], .agg #[.int .i64 ((rd_T28 l0 x5_2).f0), .int .i64 ((rd_T28 l0 x5_2).f1)]] (by rfl) rfl rfl (by (try simp only [List.map_toArray, List.map_cons, List.map_nil]); first | done | rfl | (simp only [List.length_drop, List.length_take]; rfl)) ?_
                    with_reducible refine (runnelref04_Join.calls ((rd_T28 l0 x4_1).f0) ((rd_T28 l0 x4_1).f1) ((rd_T28 l0 x5_2).f0) ((rd_T28 l0 x5_2).f1) t154 t155 _ A7.out).mono ?_
                    rintro e w10 ⟨rfl, hb⟩
                    refine ⟨_, rfl, ?_⟩
                    have n0_ := Aside0.mk (Kd.R_below (by (with_reducible repeat (first | apply Kd.R_alloc | apply Kd.R_drewN | apply Kd.R_drew)); exact HO_3.out) hb)
                    have n1_ := Aside0.mk (below_step (by repeat (first | (with_reducible first | exact HB.out | apply below_alloc | apply pw_below_drewN | apply below_drew1) | exact HB.out)) hb)
                    clear HO_3
                    clear HB
                    have HO_3 := n0_
                    have HB := n1_
                    clear n0_ n1_
                    (try clear hb)
                    (try clear hb2)
                    (try clear hk)
                    (try clear hi)
                    obtain ⟨Ao11, co11, eo11⟩ := Kd.R_slice HO_3.out
                    (first | subst eo11 | (injection eo11 with f1_ f2_ f3_; have f4_ := f1_.symm; have f5_ := f3_.symm; clear f1_ f2_ f3_; subst f4_; subst f5_))
                    refine hK.out _ _ ⟨((HB.out.cell (World.block_lt_of_cell? w _ hw152_0)).trans hw152_0), ((HB.out.cell (World.block_lt_of_cell? w _ hw152_1)).trans hw152_1), ((HB.out.cell (World.block_lt_of_cell? w _ hw153_0)).trans hw153_0), ((HB.out.cell (World.block_lt_of_cell? w _ hw153_1)).trans hw153_1)⟩ (fun hHeld => ?_)
                    clear hK K
                    refine norm_ (a' := ?_) ?_ ?_
                    rotate_left
                    · show Act.put _ (some 27) _ = _
                      simp only [Act.put, List.setIfInBounds_toArray, List.set_cons_zero, List.set_cons_succ, i64_w, i32_w]
                      rfl
                    refine one_ (i := 10) (N := some 28) #[true, true, true, true, true, true, true, true, true, true, true, false] rfl rfl (one_of HT_.out (by kernel_rfl)) (by decide) (fun K hK => ?_)
                    refine goes_ Try.func24 (by kernel_rfl) rfl #[.slice Ao11 x3_2.length co11, .agg #[.int .i64 t154, .int .i64 t155]] (by rfl) rfl rfl (by (try simp only [List.map_toArray, List.map_cons, List.map_nil]); first | done | rfl | (simp only [List.length_drop, List.length_take]; rfl)) ?_
                    with_reducible refine (runnelref04_Add.calls k2 (fun k_ => some k_ = (.slice Ao11 x3_2.length co11 : Value).ownBlock) (.slice Ao11 x3_2.length co11) x3_2 t154 t155 t156 w _ ?side1 ?side2 A8.out).mono ?_
                    (case side1 => repeat (first | (with_reducible first | exact HB.out | apply below_alloc | apply pw_below_drewN | apply below_drew1) | exact HB.out))
                    (case side2 => exact Kd.R_tight rfl HO_3.out)
                    rintro e w12 ⟨v157, rfl, ho0, hb, hkp⟩
                    refine ⟨_, rfl, ?_⟩
                    have n0_ := Aside0.mk (Kd.R_mono (ok' := fun k_ => True) ho0 (fun k_ hk_ => trivial))
                    have n1_ := Aside0.mk (hb)
                    clear HB
                    clear HO_3
                    have HO158 := n0_
                    have HB := n1_
                    clear n0_ n1_
                    (try clear hb)
                    (try clear hkp)
                    (try clear ho0)
                    refine hK.out _ _ ⟨((HB.out.cell (World.block_lt_of_cell? w _ hw152_0)).trans hw152_0), ((HB.out.cell (World.block_lt_of_cell? w _ hw152_1)).trans hw152_1), ((HB.out.cell (World.block_lt_of_cell? w _ hw153_0)).trans hw153_0), ((HB.out.cell (World.block_lt_of_cell? w _ hw153_1)).trans hw153_1)⟩ (fun hHeld => ?_)
                    clear hK K
                    refine norm_ (a' := ?_) ?_ ?_
                    rotate_left
                    · show Act.put _ (some 28) _ = _
                      simp only [Act.put, List.setIfInBounds_toArray, List.set_cons_zero, List.set_cons_succ, i64_w, i32_w]
                      rfl
                    refine pure_ (i := 11) (N := some 3) (v := ?_) (a' := ?_) #[true, true, true, true, true, true, true, true, true, true, true, true] rfl rfl (any_of HT_.out (by kernel_rfl)) (fun _ _ _ h => h) (Or.inl ⟨by rfl, ?_⟩) ?_ ?_
                    rotate_left
                    · intro w'
                      go_simp
                      with_reducible rfl
                    rotate_left
                    · simp only [Act.put, List.setIfInBounds_toArray, List.set_cons_zero, List.set_cons_succ, i64_w, i32_w]
                      rfl
                    refine done_ (done_of HT_.out (by kernel_rfl)) ?_
                    try go_wp2
                    go_roundg k2
                    case measure => have := HK1.out; have := HK2.out; omega
                    case rel => exact ⟨(t156), (wrap64 (x5_2 + 1)), (by first | rfl | (simp; done) | (simp [*]; done)), H', ⟨by have := HK1.out; have := HK2.out; omega⟩, ⟨by (with_reducible repeat (first | apply Kd.R_alloc | apply Kd.R_drewN | apply Kd.R_drew)); exact HO158.out⟩, ⟨by repeat (first | (with_reducible first | exact HB.out | apply below_alloc | apply pw_below_drewN | apply below_drew1) | exact HB.out)⟩⟩
                  · rw [if_neg c6] at H
                    exact absurd H (by simp)
                · rw [if_neg c5] at H
                  exact absurd H (by simp)
              · rw [if_neg c4] at H
                exact absurd H (by simp)
            · rw [if_neg c3] at H
              have c3b0 : decide (x5_2 < (l0.length : Int)) = false := decide_eq_false c3
              clear c3
              have H' := Aside0.mk H
              clear H
              go_wp2
              go_roundg k2
              case measure => have := HK1.out; have := HK2.out; omega
              case rel => exact ⟨(x3_2), (wrap64 (x4_1 + 1)), (by first | rfl | (simp; done) | (simp [*]; done)), H', ⟨by have := HK1.out; have := HK2.out; omega⟩, ⟨by (with_reducible repeat (first | apply Kd.R_alloc | apply Kd.R_drewN | apply Kd.R_drew)); exact HO_3.out⟩, ⟨by repeat (first | (with_reducible first | exact HB.out | apply below_alloc | apply pw_below_drewN | apply below_drew1) | exact HB.out)⟩⟩
      · rw [if_neg c2] at H
        have c2b0 : decide (x4_1 < (l0.length : Int)) = false := decide_eq_false c2
        clear c2
        obtain rfl := Option.some.inj H
        go_wp2
        go_ret
        exact ⟨_, by first | rfl | (simp [errW_none, errW_some] <;> rfl) | (simp [*, errW_none, errW_some] <;> rfl), by (with_reducible repeat (first | apply Kd.R_alloc | apply Kd.R_drewN | apply Kd.R_drew)); exact HO_3.out, by repeat (first | (with_reducible first | exact HB.out | apply below_alloc | apply pw_below_drewN | apply below_drew1) | exact HB.out)⟩

/-! ### moment_Join: function 14 -/
def moment_Join.f (a0_0 : Int) (a0_1 : Int) (a1_0 : Int) (a1_1 : Int) : Option (Int × Int) := some (mx a0_0 a1_0, mx a0_1 a1_1)
set_option maxHeartbeats 8000000 in
set_option maxRecDepth 100000 in
theorem moment_Join.calls (a0_0 : Int) (a0_1 : Int) (a1_0 : Int) (a1_1 : Int) (r1 : Int) (r2 : Int) (w : World) (h : moment_Join.f a0_0 a0_1 a1_0 a1_1 = some (r1, r2)) :
    Calls Try.prog 14 #[.agg #[.int .i64 a0_0, .int .i64 a0_1], .agg #[.int .i64 a1_0, .int .i64 a1_1]] w fun e w' => e = .returned (.agg #[.int .i64 r1, .int .i64 r2]) ∧ Below w.heap.size w w' := by
  have hu28 := Try.underlying28
  have HB := Aside0.mk (Below.refl w.heap.size w)
  have H : (some (mx a0_0 a1_0, mx a0_1 a1_1)) = some (r1, r2) := h
  clear h
  obtain ⟨ji3, hji3⟩ : ∃ j_ : Int, (mx a0_0 a1_0) = j_ := ⟨_, rfl⟩
  replace H : (some (ji3, mx a0_1 a1_1)) = some (r1, r2) := by first | (rw [hji3] at H; exact H) | (simp only [hji3] at H ⊢; exact H)
  have hji3_ : (if a0_0 < a1_0 then a1_0 else a0_0) = ji3 := hji3
  obtain ⟨ji4, hji4⟩ : ∃ j_ : Int, (mx a0_1 a1_1) = j_ := ⟨_, rfl⟩
  replace H : (some (ji3, ji4)) = some (r1, r2) := by first | (rw [hji4] at H; exact H) | (simp only [hji4] at H ⊢; exact H)
  have hji4_ : (if a0_1 < a1_1 then a1_1 else a0_1) = ji4 := hji4
  simp only [Option.some.injEq, Prod.mk.injEq] at H
  obtain ⟨rfl, rfl⟩ := H
  go_enter Try.func14, Try.ntmps14
  go_wp2_with (first | ((with_reducible refine gate_dst (N := 2) rfl ?_); refine box_event ?hg (N := 2) ?hd (cs := #[.int .i64 a0_0, .int .i64 a0_1]) (t := 28) ?hr ?_; (case hd => rfl); (case hg => rfl); (case hr => first | (go_simp; done) | (go_simp; rfl)); intro gb159 hg w5 hbox hb; have n0_ := Aside0.mk (below_step (by repeat (first | (with_reducible first | exact HB.out | apply below_alloc | apply pw_below_drewN | apply below_drew1) | exact HB.out)) hb); have n1_ := Aside0.mk (hbox); have n2_ := Aside0.mk ((by rw [hg]; exact (below_size (by repeat (first | (with_reducible first | exact HB.out | apply below_alloc | apply pw_below_drewN | apply below_drew1) | exact HB.out))) : w.heap.size ≤ gb159)); have n3_ := Aside0.mk ((by rw [hg]; exact (below_size (by repeat (first | (with_reducible first | exact HB.out | apply below_alloc | apply pw_below_drewN | apply below_drew1) | exact HB.out))) : w.heap.size ≤ gb159)); clear HB; have HB := n0_; have BK159 := n1_; have GW159 := n2_; have GE159 := n3_; clear n0_ n1_ n2_ n3_; clear hb hbox hg) | ((with_reducible refine gate_dst (N := 3) rfl ?_); refine box_event ?hg (N := 3) ?hd (cs := #[.int .i64 a1_0, .int .i64 a1_1]) (t := 28) ?hr ?_; (case hd => rfl); (case hg => rfl); (case hr => first | (go_simp; done) | (go_simp; rfl)); intro gb160 hg w6 hbox hb; have n0_ := Aside0.mk (blk_below (g := gb159) (o := .cells #[.int .i64 a0_0, .int .i64 a0_1] 28 (0, 0)) (by (with_reducible repeat (first | refine blk_drewN ?_ _ | refine blk_drew ?_ | refine blk_alloc ?_ _)); exact BK159.out) hb); have n1_ := Aside0.mk (below_step (by repeat (first | (with_reducible first | exact HB.out | apply below_alloc | apply pw_below_drewN | apply below_drew1 | refine below_set ?_ GE159.out) | exact HB.out)) hb); have n2_ := Aside0.mk (hbox); have n3_ := Aside0.mk ((by rw [hg]; exact (below_size (by repeat (first | (with_reducible first | exact HB.out | apply below_alloc | apply pw_below_drewN | apply below_drew1 | refine below_set ?_ GE159.out) | exact HB.out))) : w.heap.size ≤ gb160)); have n4_ := Aside0.mk ((by rw [hg]; exact (below_size (by repeat (first | (with_reducible first | exact HB.out | apply below_alloc | apply pw_below_drewN | apply below_drew1 | refine below_set ?_ GE159.out) | exact HB.out))) : w.heap.size ≤ gb160)); have n5_ := Aside0.mk ((by rw [hg]; exact Nat.ne_of_lt (blk_lt (g := gb159) (o := .cells #[.int .i64 a0_0, .int .i64 a0_1] 28 (0, 0)) (by (with_reducible repeat (first | refine blk_drewN ?_ _ | refine blk_drew ?_ | refine blk_alloc ?_ _)); exact BK159.out)) : gb159 ≠ gb160)); have n6_ := Aside0.mk ((by rw [hg]; exact Nat.ne_of_gt (blk_lt (g := gb159) (o := .cells #[.int .i64 a0_0, .int .i64 a0_1] 28 (0, 0)) (by (with_reducible repeat (first | refine blk_drewN ?_ _ | refine blk_drew ?_ | refine blk_alloc ?_ _)); exact BK159.out)) : gb160 ≠ gb159)); clear BK159; clear HB; have BK159 := n0_; have HB := n1_; have BK160 := n2_; have GW160 := n3_; have GE160 := n4_; have NB159_160 := n5_; have NB160_159 := n6_; clear n0_ n1_ n2_ n3_ n4_ n5_ n6_; clear hb hbox hg) | ((with_reducible refine gate_dst (N := 4) rfl ?_); refine box_event ?hg (N := 4) ?hd (cs := #[.int .i64 0, .int .i64 0]) (t := 28) ?hr ?_; (case hd => rfl); (case hg => rfl); (case hr => first | (go_simp; done) | (go_simp; rfl)); intro gb161 hg w7 hbox hb; have n0_ := Aside0.mk (blk_below (g := gb159) (o := .cells #[.int .i64 a0_0, .int .i64 a0_1] 28 (0, 0)) (by (with_reducible repeat (first | refine blk_drewN ?_ _ | refine blk_drew ?_ | refine blk_alloc ?_ _)); exact BK159.out) hb); have n1_ := Aside0.mk (blk_below (g := gb160) (o := .cells #[.int .i64 a1_0, .int .i64 a1_1] 28 (0, 0)) (by (with_reducible repeat (first | refine blk_drewN ?_ _ | refine blk_drew ?_ | refine blk_alloc ?_ _)); exact BK160.out) hb); have n2_ := Aside0.mk (below_step (by repeat (first | (with_reducible first | exact HB.out | apply below_alloc | apply pw_below_drewN | apply below_drew1 | refine below_set ?_ GE159.out | refine below_set ?_ GE160.out) | exact HB.out)) hb); have n3_ := Aside0.mk (hbox); have n4_ := Aside0.mk ((by rw [hg]; exact (below_size (by repeat (first | (with_reducible first | exact HB.out | apply below_alloc | apply pw_below_drewN | apply below_drew1 | refine below_set ?_ GE159.out | refine below_set ?_ GE160.out) | exact HB.out))) : w.heap.size ≤ gb161)); have n5_ := Aside0.mk ((by rw [hg]; exact (below_size (by repeat (first | (with_reducible first | exact HB.out | apply below_alloc | apply pw_below_drewN | apply below_drew1 | refine below_set ?_ GE159.out | refine below_set ?_ GE160.out) | exact HB.out))) : w.heap.size ≤ gb161)); have n6_ := Aside0.mk ((by rw [hg]; exact Nat.ne_of_lt (blk_lt (g := gb159) (o := .cells #[.int .i64 a0_0, .int .i64 a0_1] 28 (0, 0)) (by (with_reducible repeat (first | refine blk_drewN ?_ _ | refine blk_drew ?_ | refine blk_alloc ?_ _)); exact BK159.out)) : gb159 ≠ gb161)); have n7_ := Aside0.mk ((by rw [hg]; exact Nat.ne_of_gt (blk_lt (g := gb159) (o := .cells #[.int .i64 a0_0, .int .i64 a0_1] 28 (0, 0)) (by (with_reducible repeat (first | refine blk_drewN ?_ _ | refine blk_drew ?_ | refine blk_alloc ?_ _)); exact BK159.out)) : gb161 ≠ gb159)); have n8_ := Aside0.mk ((by rw [hg]; exact Nat.ne_of_lt (blk_lt (g := gb160) (o := .cells #[.int .i64 a1_0, .int .i64 a1_1] 28 (0, 0)) (by (with_reducible repeat (first | refine blk_drewN ?_ _ | refine blk_drew ?_ | refine blk_alloc ?_ _)); exact BK160.out)) : gb160 ≠ gb161)); have n9_ := Aside0.mk ((by rw [hg]; exact Nat.ne_of_gt (blk_lt (g := gb160) (o := .cells #[.int .i64 a1_0, .int .i64 a1_1] 28 (0, 0)) (by (with_reducible repeat (first | refine blk_drewN ?_ _ | refine blk_drew ?_ | refine blk_alloc ?_ _)); exact BK160.out)) : gb161 ≠ gb160)); clear BK159; clear BK160; clear HB; have BK159 := n0_; have BK160 := n1_; have HB := n2_; have BK161 := n3_; have GW161 := n4_; have GE161 := n5_; have NB159_161 := n6_; have NB161_159 := n7_; have NB160_161 := n8_; have NB161_160 := n9_; clear n0_ n1_ n2_ n3_ n4_ n5_ n6_ n7_ n8_ n9_; clear hb hbox hg; have hnb8 := NB159_160.out; have hnc8 := NB160_159.out; have hnb9 := NB159_161.out; have hnc9 := NB161_159.out; have hcz10_0 : w7.cell? ⟨gb159, 0, none⟩ = some (.int .i64 a0_0) := (blk_cell BK159.out 0).trans rfl; have hcz10_1 : w7.cell? ⟨gb159, 1, none⟩ = some (.int .i64 a0_1) := (blk_cell BK159.out 1).trans rfl; have hfz10_0 := blk_frozen BK159.out 0; have hfz10_1 := blk_frozen BK159.out 1; have hnb11 := NB160_161.out; have hnc11 := NB161_160.out; have hcz12_0 : w7.cell? ⟨gb160, 0, none⟩ = some (.int .i64 a1_0) := (blk_cell BK160.out 0).trans rfl; have hcz12_1 : w7.cell? ⟨gb160, 1, none⟩ = some (.int .i64 a1_1) := (blk_cell BK160.out 1).trans rfl; have hfz12_0 := blk_frozen BK160.out 0; have hfz12_1 := blk_frozen BK160.out 1; have hcz13_0 : w7.cell? ⟨gb161, 0, none⟩ = some (.int .i64 0) := (blk_cell BK161.out 0).trans rfl; have hcz13_1 : w7.cell? ⟨gb161, 1, none⟩ = some (.int .i64 0) := (blk_cell BK161.out 1).trans rfl; have hfz13_0 := blk_frozen BK161.out 0; have hfz13_1 := blk_frozen BK161.out 1))
  refine bodyPost_ret (results_cell_row rfl _ _ gb161 28 #[.int .i64 ji3, .int .i64 ji4] (0, 0) _ rfl (by (with_reducible repeat (first | refine blk_drewN ?_ _ | refine blk_drew ?_ | refine blk_alloc ?_ _)); refine blk_put (cs := #[.int .i64 ji3, .int .i64 0]) ?_ 1 _ rfl; (with_reducible repeat (first | refine blk_drewN ?_ _ | refine blk_drew ?_ | refine blk_alloc ?_ _)); refine blk_put (cs := #[.int .i64 0, .int .i64 0]) ?_ 0 _ rfl; (with_reducible repeat (first | refine blk_drewN ?_ _ | refine blk_drew ?_ | refine blk_alloc ?_ _)); exact BK161.out) Try.underlying28 rfl (by kernel_rfl)) rfl ?_
  exact ⟨by first | rfl | (simp [errW_none, errW_some] <;> rfl) | (simp only [← hji3, ← hji4]; first | rfl | (simp [errW_none, errW_some] <;> rfl)) | (simp [*, errW_none, errW_some] <;> rfl), by repeat (first | (with_reducible first | exact HB.out | apply below_alloc | apply pw_below_drewN | apply below_drew1 | refine below_set ?_ GE159.out | refine below_set ?_ GE160.out | refine below_set ?_ GE161.out) | exact HB.out)⟩

/-! ### The set of times: its keys -/
theorem laidOutP : laidOutB Try.prog = true := by kernel_rfl
theorem KT : Go.Maps.Keyed Try.prog 39 := Go.Maps.Keyed.of_law (deep_law_laid laidOutP (m := 3) (by decide) (of_decide_eq_true (by kernel_rfl)) (by kernel_rfl) (by kernel_rfl))
/-- A time as a key. -/
def kv (x : S28) : Value := .agg #[.int .i64 x.f0, .int .i64 x.f1]
def wfT (x : S28) : Prop := (Lit.int .i64 x.f0).wf = true ∧ (Lit.int .i64 x.f1).wf = true
def kt (x : S28) : Lit := .string (keyBytes [.int .i64 x.f0, .int .i64 x.f1])
theorem cells39 : Try.prog.cellsOf 39 = 2 := by kernel_rfl
theorem cells3 : Try.prog.cellsOf 3 = 1 := by kernel_rfl
theorem lits3 (d : Nat) (a : Value) : Try.prog.keyLits (d + 1) 3 [a] = (match a with | .int q x => if q = .i64 ∧ (Lit.int .i64 x).wf = true then some [Lit.int .i64 x] else none | _ => none) := by
  cases a <;> simp [Program.keyLits, Try.underlying3]
theorem lits39 (d : Nat) (cs : List Value) : Try.prog.keyLits (d + 2) 39 cs = (if cs.length = 2 then (match Try.prog.keyLits (d + 1) 3 (cs.take 1), Try.prog.keyLits (d + 1) 3 ((cs.drop 1).take 1) with | some a, some b => some (a ++ b) | _, _ => none) else none) := by
  rw [show Try.prog.keyLits (d + 2) 39 cs = (match Try.prog.underlying 39, cs with
    | some .bool, [.bool b] => some [.bool b]
    | some (.int q), [.int q' n] => if q' = q ∧ (Lit.int q n).wf = true then some [.int q n] else none
    | some .string, [.string s] => if s.size ≤ maxLen then some [.string s.data.toList] else none
    | some (.array n e), cs =>
      if cs.length = Try.prog.cellsOf 39 then ((List.range n).mapM fun i => Try.prog.keyLits (d + 1) e ((cs.drop (i * Try.prog.cellsOf e)).take (Try.prog.cellsOf e))).map List.flatten else none
    | some (.struct fs), cs =>
      if cs.length = Try.prog.cellsOf 39 ∧ fs.all (·.name != "_") = true then (fs.toList.mapM fun f => Try.prog.keyLits (d + 1) f.type ((cs.drop f.offset).take (Try.prog.cellsOf f.type))).map List.flatten else none
    | _, _ => none) from rfl]
  simp only [Try.underlying39, cells39]
  by_cases h : cs.length = 2
  · rw [if_pos ⟨h, by simp⟩, if_pos h]
    simp only [List.mapM_cons, List.mapM_nil, List.drop_zero, cells3]
    cases Try.prog.keyLits (d + 1) 3 (cs.take 1) with
    | none => rfl
    | some a =>
      cases Try.prog.keyLits (d + 1) 3 ((cs.drop 1).take 1) with
      | none => rfl
      | some b => simp
  · rw [if_neg (fun h' => h h'.1), if_neg h]
theorem key_of (x : S28) (h : wfT x) : keyOf Try.prog 39 (kv x) = some (kt x) := by
  have hs : Try.prog.types.size = Try.prog.types.size - 1 + 1 := by
    have : 0 < Try.prog.types.size := of_decide_eq_true (by kernel_rfl)
    omega
  have hk : Try.prog.keyType 39 = true := by kernel_rfl
  have hf : (kv x).formed Try.prog 39 = true := by
    simp [Value.formed, kv, Try.underlying39, cells39]
  unfold keyOf
  simp only [Try.underlying39, hk, hf, Bool.and_self, if_true]
  rw [hs, lits39]
  simp only [kv, Value.cells, List.length_cons, List.length_nil, if_true, List.take_succ_cons, List.take_zero, List.drop_succ_cons, List.drop_zero, lits3]
  rw [if_pos ⟨trivial, h.1⟩, if_pos ⟨trivial, h.2⟩]
  rfl
theorem key_inv (key : Value) (kl : Lit) (h : keyOf Try.prog 39 key = some kl) : ∃ x : S28, key = kv x ∧ wfT x ∧ kl = kt x := by
  have hs : Try.prog.types.size = Try.prog.types.size - 1 + 1 := by
    have : 0 < Try.prog.types.size := of_decide_eq_true (by kernel_rfl)
    omega
  have h1 := h
  unfold keyOf at h
  simp only [Try.underlying39] at h
  split at h
  · rename_i hf
    rw [Bool.and_eq_true] at hf
    rw [hs] at h
    rw [Option.map_eq_some_iff] at h
    obtain ⟨ls, hl, rfl⟩ := h
    have hform := hf.2
    cases key <;> simp [Value.formed, Try.underlying39] at hform
    rename_i cs
    rw [lits39] at hl
    simp only [Value.cells] at hl
    rw [cells39] at hform
    obtain ⟨l⟩ := cs
    match l, hform with
    | [a, b], _ =>
      simp only [List.length_cons, List.length_nil, if_true, List.take_succ_cons, List.take_zero, List.drop_succ_cons, List.drop_zero] at hl
      rw [lits3, lits3] at hl
      cases a <;> simp at hl
      cases b <;> simp at hl
      rename_i k1 n1 k2 n2 hx
      by_cases h2 : k1 = .i64 ∧ (Lit.int .i64 n1).wf = true
      · by_cases h3 : k2 = .i64 ∧ (Lit.int .i64 n2).wf = true
        · rw [if_pos h2, if_pos h3] at hl
          obtain ⟨rfl, w1⟩ := h2
          obtain ⟨rfl, w2⟩ := h3
          obtain rfl := Option.some.inj hl
          exact ⟨⟨n1, n2⟩, rfl, ⟨w1, w2⟩, rfl⟩
        · rw [if_pos h2, if_neg h3] at hl
          cases hl
      · rw [if_neg h2] at hl
        cases hl
  · cases h
theorem kt_inj {x y : S28} (hx : wfT x) (hy : wfT y) (h : kt x = kt y) : x = y := by
  have e := KT.inj (key_of x hx) (by rw [h]; exact key_of y hy)
  unfold kv at e
  simp at e
  cases x; cases y; simp_all
theorem kt_same {x y : S28} (hx : wfT x) (hy : wfT y) : (kt x).sameKey (kt y) = true ↔ x = y := by
  constructor
  · intro h
    exact kt_inj hx hy (WideAt.sameKey_eq h)
  · rintro rfl
    exact WideAt.sameKey_self (KT.key (key_of x hx))
def sortT_ren : Go.Shelf.Ren := ⟨fun | 6 => 26 | 15 => 29 | 14 => 28 | 28 => 39 | 29 => 40 | 20 => 31 | 21 => 32 | 22 => 33 | 23 => 34 | 24 => 35 | 25 => 36 | 26 => 37 | 27 => 38 | 46 => 41 | 47 => 42 | 48 => 43 | 49 => 44 | 50 => 45 | 57 => 46 | n => n, fun | 22 => 43 | 24 => 39 | 25 => 45 | 3 => 3 | 39 => 49 | 0 => 0 | 53 => 60 | 55 => 62 | 4 => 4 | 46 => 53 | 45 => 52 | 50 => 57 | 5 => 5 | 9 => 9 | 66 => 63 | 70 => 67 | 76 => 69 | 77 => 70 | n => n, fun | n => n⟩
theorem sortT : Go.Proofs.SlLaysF0.n6 Try.prog sortT_ren := {
  mixed := by kernel_rfl,
  f6 := ⟨Try.f26.name, by decide, Try.func26.trans (congrArg some (by kernel_rfl))⟩,
  f14 := ⟨Try.f28.name, by decide, Try.func28.trans (congrArg some (by kernel_rfl))⟩,
  f15 := Try.func29.trans (congrArg some (by kernel_rfl)),
  f20 := ⟨Try.f31.name, by decide, Try.func31.trans (congrArg some (by kernel_rfl))⟩,
  f21 := ⟨Try.f32.name, by decide, Try.func32.trans (congrArg some (by kernel_rfl))⟩,
  f22 := ⟨Try.f33.name, by decide, Try.func33.trans (congrArg some (by kernel_rfl))⟩,
  f23 := ⟨Try.f34.name, by decide, Try.func34.trans (congrArg some (by kernel_rfl))⟩,
  f24 := ⟨Try.f35.name, by decide, Try.func35.trans (congrArg some (by kernel_rfl))⟩,
  f25 := ⟨Try.f36.name, by decide, Try.func36.trans (congrArg some (by kernel_rfl))⟩,
  f26 := ⟨Try.f37.name, by decide, Try.func37.trans (congrArg some (by kernel_rfl))⟩,
  f27 := ⟨Try.f38.name, by decide, Try.func38.trans (congrArg some (by kernel_rfl))⟩,
  f28 := Try.func39.trans (congrArg some (by kernel_rfl)),
  f29 := Try.func40.trans (congrArg some (by kernel_rfl)),
  f46 := ⟨Try.f41.name, by decide, Try.func41.trans (congrArg some (by kernel_rfl))⟩,
  f47 := Try.func42.trans (congrArg some (by kernel_rfl)),
  f48 := Try.func43.trans (congrArg some (by kernel_rfl)),
  f49 := ⟨Try.f44.name, by decide, Try.func44.trans (congrArg some (by kernel_rfl))⟩,
  f50 := ⟨Try.f45.name, by decide, Try.func45.trans (congrArg some (by kernel_rfl))⟩,
  f57 := ⟨Try.f46.name, by decide, Try.func46.trans (congrArg some (by kernel_rfl))⟩,
  t0 := Try.underlying0,
  a0 := Try.isAgg0,
  z0 := Try.sizeOf0,
  v0 := Try.zeroValue0,
  t3 := Try.underlying3,
  a3 := Try.isAgg3,
  z3 := Try.sizeOf3,
  v3 := Try.zeroValue3,
  t4 := Try.underlying4,
  a4 := Try.isAgg4,
  z4 := Try.sizeOf4,
  v4 := Try.zeroValue4,
  t5 := Try.underlying5,
  a5 := Try.isAgg5,
  z5 := Try.sizeOf5,
  v5 := Try.zeroValue5,
  t9 := Try.underlying9,
  a9 := Try.isAgg9,
  z9 := Try.sizeOf9,
  v9 := Try.zeroValue9,
  t22 := Try.underlying43,
  a22 := Try.isAgg43,
  z22 := Try.sizeOf43,
  v22 := Try.zeroValue43,
  t25 := Try.underlying45,
  a25 := Try.isAgg45,
  z25 := Try.sizeOf45,
  v25 := Try.zeroValue45,
  t39 := Try.underlying49,
  a39 := Try.isAgg49,
  z39 := Try.sizeOf49,
  v39 := Try.zeroValue49,
  t45 := Try.underlying52,
  a45 := Try.isAgg52,
  z45 := Try.sizeOf52,
  v45 := Try.zeroValue52,
  t46 := Try.underlying53,
  a46 := Try.isAgg53,
  z46 := Try.sizeOf53,
  v46 := Try.zeroValue53,
  t50 := Try.underlying57,
  a50 := Try.isAgg57,
  z50 := Try.sizeOf57,
  v50 := Try.zeroValue57,
  t53 := Try.underlying60,
  a53 := Try.isAgg60,
  z53 := Try.sizeOf60,
  v53 := Try.zeroValue60,
  t55 := Try.underlying62,
  a55 := Try.isAgg62,
  z55 := Try.sizeOf62,
  v55 := Try.zeroValue62,
  t66 := Try.underlying63,
  a66 := Try.isAgg63,
  z66 := Try.sizeOf63,
  v66 := Try.zeroValue63,
  t70 := Try.underlying67,
  a70 := Try.isAgg67,
  z70 := Try.sizeOf67,
  v70 := Try.zeroValue67,
  t76 := Try.underlying69,
  a76 := Try.isAgg69,
  z76 := Try.sizeOf69,
  v76 := Try.zeroValue69,
  t77 := Try.underlying70,
  a77 := Try.isAgg70,
  z77 := Try.sizeOf70,
  v77 := Try.zeroValue70 }

def cmpT_ren : Go.Shelf.Ren := ⟨fun | 5 => 27 | 7 => 30 | n => n, fun | 22 => 3 | 3 => 3 | 4 => 4 | n => n, fun | n => n⟩
theorem cmpT : Go.Proofs.SlLaysC2.n5 Try.prog cmpT_ren := {
  mixed := by kernel_rfl,
  f5 := ⟨Try.f27.name, by decide, Try.func27.trans (congrArg some (by kernel_rfl))⟩,
  f7 := ⟨Try.f30.name, by decide, Try.func30.trans (congrArg some (by kernel_rfl))⟩,
  t3 := Try.underlying3,
  a3 := Try.isAgg3,
  z3 := Try.sizeOf3,
  v3 := Try.zeroValue3,
  t4 := Try.underlying4,
  a4 := Try.isAgg4,
  z4 := Try.sizeOf4,
  v4 := Try.zeroValue4,
  t22 := Try.underlying3,
  a22 := Try.isAgg3,
  z22 := Try.sizeOf3,
  v22 := Try.zeroValue3 }

/-- The order of two times, as a number. -/
def ordI (x y : S28) : Int := if x.f0 = y.f0 then Lib.compareInt x.f1 y.f1 else Lib.compareInt x.f0 y.f0
instance : Inhabited S28 := ⟨z28⟩
def encT (x : S28) : List Value := [.int .i64 x.f0, .int .i64 x.f1]
set_option maxHeartbeats 1000000 in
theorem against_grow (x y : S28) (W : World) : Calls Try.prog 25 #[.agg #[.int .i64 x.f0, .int .i64 x.f1], .agg #[.int .i64 y.f0, .int .i64 y.f1]] W fun e w' => e = .returned (.int .i64 (ordI x y)) ∧ ∃ q os', w' = Go.Sort.grow (W.drewN q) os' := by
  have hcon := fun (a b : Int) W' => AnyG.cmp_Compare_int cmpT a b W'
  change ∀ a b W', Calls Try.prog 27 _ _ _ at hcon
  by_cases h : x.f0 = y.f0
  · have e : ordI x y = Lib.compareInt x.f1 y.f1 := if_pos h
    rw [e]
    have hb : (x.f0 == y.f0) = true := beq_iff_eq.mpr h
    have hb' : (x.f0 != y.f0) = false := bne_eq_false_iff_eq.mpr h
    clear h
    generalize hr : Lib.compareInt x.f1 y.f1 = r
    have hc : ∀ W', Calls Try.prog 27 #[.int .i64 x.f1, .int .i64 y.f1] W' fun e w' => e = .returned (.int .i64 r) ∧ w' = W' := fun W' => by rw [← hr]; exact hcon x.f1 y.f1 W'
    clear hcon hr e
    go_enter Try.func25, Try.ntmps25
    go_wp2_with (go_at_call 27; refine (hc _).mono ?_; rintro e w' ⟨rfl, rfl⟩)
    go_ret
    exact ⟨rfl, 0, _, by rw [Go.Sort.alloc_eq_grow, Go.Sort.alloc_eq_grow, Go.Sort.grow_grow]; rfl⟩
  · have e : ordI x y = Lib.compareInt x.f0 y.f0 := if_neg h
    rw [e]
    have hb : (x.f0 == y.f0) = false := beq_eq_false_iff_ne.mpr h
    have hb' : (x.f0 != y.f0) = true := bne_iff_ne.mpr h
    clear h
    generalize hr : Lib.compareInt x.f0 y.f0 = r
    have hc : ∀ W', Calls Try.prog 27 #[.int .i64 x.f0, .int .i64 y.f0] W' fun e w' => e = .returned (.int .i64 r) ∧ w' = W' := fun W' => by rw [← hr]; exact hcon x.f0 y.f0 W'
    clear hcon hr e
    go_enter Try.func25, Try.ntmps25
    go_wp2_with (go_at_call 27; refine (hc _).mono ?_; rintro e w' ⟨rfl, rfl⟩)
    go_ret
    exact ⟨rfl, 0, _, by rw [Go.Sort.alloc_eq_grow, Go.Sort.alloc_eq_grow, Go.Sort.grow_grow]; rfl⟩

/-! ### The sort of a row of the call's own -/
def srt (xs : List S28) : List S28 := xs.mergeSort fun x y => !(ltOf ordI y x)
theorem holds_of_own {W : World} {base : Nat} {ok : Nat → Prop} {A : Option Addr} {n c : Nat} {xs : List S28} (hn : n = xs.length) (h : Kd.R k28 39 W base ok (.slice A n c) xs) (h0 : 0 < xs.length) :
    ∃ g cur, A = some ⟨g, 0, none⟩ ∧ base ≤ g ∧ W.heap[g]? = some (.cells cur 39 (0, 0)) ∧ n ≤ c ∧ c ≤ maxLen ∧ cur.size = c * 2 ∧ Go.Sort.HoldsK encT 2 W g 0 xs.toArray := by
  subst hn
  obtain ⟨_, inner, ⟨hl, ho⟩, hr⟩ := h
  rcases ho with ⟨_, hz⟩ | ⟨g, cap, cur, he, hg, hh, h1, h2, h3, h4⟩
  · omega
  obtain ⟨rfl, rfl⟩ : A = some ⟨g, 0, none⟩ ∧ c = cap := by
    injection he with e1 _ e3
    exact ⟨e1, e3⟩
  refine ⟨g, cur, rfl, hg, hh, h1, h2, h3, fun j hj => ?_⟩
  have hj' : j < xs.length * 2 := by simpa using hj
  rw [Nat.zero_add]
  refine ⟨?_, blk_frozen hh j⟩
  rw [blk_cell hh j, Go.Sort.get_flatK _ _ _ _ (by simpa using hj')]
  have hi : j / 2 < xs.length := by omega
  have hrr := k28_openM (hr.2 (j / 2) xs[j / 2] (List.getElem?_eq_getElem hi))
  have hx : (xs.toArray)[j / 2]! = xs[j / 2] := by simp [hi]
  rw [hx]
  have hc : inner[j]? = some ((encT xs[j / 2])[j % 2]!) := by
    have h5 : ((inner.drop (j / 2 * 2)).take 2)[j % 2]? = (encT xs[j / 2])[j % 2]? := by
      have h6 : k28.sz = 2 := rfl
      rw [h6] at hrr
      rw [hrr]; rfl
    have h7 : j % 2 < 2 := by omega
    rw [List.getElem?_take, if_pos h7, List.getElem?_drop, show j / 2 * 2 + j % 2 = j by omega] at h5
    rw [h5]
    have h8 : j % 2 = 0 ∨ j % 2 = 1 := by omega
    rcases h8 with h8 | h8 <;> rw [h8] <;> rfl
  have h9 : cur[j]? = inner[j]? := by
    have hsz : k28.sz = 2 := rfl
    rw [← h4, List.getElem?_take, hsz, if_pos hj']
    simp
  rw [h9, hc]
  rfl
theorem own_of_sorted {W : World} {base : Nat} {g c m : Nat} {cur : Array Value} {d : List S28} {n : Nat} {os : Array Obj} (hn : n = d.length) (hg : base ≤ g) (hh : W.heap[g]? = some (.cells cur 39 (0, 0))) (h1 : n ≤ c) (h2 : c ≤ maxLen) (h3 : cur.size = c * 2) :
    Kd.R k28 39 (sortWorldK encT 2 W g 0 m d.toArray os) base (fun _ => True) (.slice (some ⟨g, 0, none⟩) n c) d ∧ Below base W (sortWorldK encT 2 W g 0 m d.toArray os) := by
  subst hn
  have hlt : g < W.heap.size := (Array.getElem?_eq_some_iff.1 hh).1
  have hhp : (sortWorldK encT 2 W g 0 m d.toArray os).heap[g]? = some (.cells (Go.Sort.putCells id 0 (Go.Sort.flatK encT 2 d.toArray) cur) 39 (0, 0)) := by
    unfold sortWorldK
    rw [Go.Sort.heap_grow_old _ _ (by simp [Go.Sort.putRowK]; exact hlt)]
    show (W.heap.modify g (Go.Sort.onCells _))[g]? = _
    rw [Array.getElem?_modify, if_pos rfl, hh]
    rfl
  refine ⟨⟨fun _ _ => trivial, (Go.Sort.flatK encT 2 d.toArray).toList, ⟨by simp; rfl, .inr ⟨g, c, _, rfl, hg, hhp, h1, h2, by simp [Go.Sort.putCells, h3]; rfl, ?_⟩⟩, ⟨by simp; rfl, ?_⟩⟩, rfl, rfl, rfl, ?_, fun i hi => ?_⟩
  · have hsz : k28.sz = 2 := rfl
    rw [hsz]
    apply List.ext_getElem?
    intro j
    rw [List.getElem?_take]
    by_cases hj : j < d.length * 2
    · rw [if_pos hj]
      have hjc : j < cur.size := by omega
      simp only [Array.getElem?_toList]
      rw [Array.getElem?_eq_getElem (by simpa [Go.Sort.putCells] using hjc), Array.getElem?_eq_getElem (by simpa using hj)]
      simp only [Go.Sort.putCells, Array.getElem_mapIdx]
      rw [if_pos ⟨Nat.zero_le _, by simpa using hj⟩, Nat.sub_zero, getElem!_pos _ j (by simpa using hj)]
      rfl
    · rw [if_neg hj, List.getElem?_eq_none (by simp; omega)]
  · intro j p hp
    obtain ⟨hj, rfl⟩ := List.getElem?_eq_some_iff.1 hp
    have hsz : k28.sz = 2 := rfl
    have : ((Go.Sort.flatK encT 2 d.toArray).toList.drop (j * k28.sz)).take k28.sz = [.int .i64 d[j].f0, .int .i64 d[j].f1] := by
      rw [hsz]
      apply List.ext_getElem?
      intro i
      rw [List.getElem?_take]
      by_cases hi : i < 2
      · rw [if_pos hi, List.getElem?_drop, Array.getElem?_toList, Array.getElem?_eq_getElem (by simp; omega), ← getElem!_pos, Go.Sort.get_flatK _ _ _ _ (by simp; omega)]
        have e1 : (j * 2 + i) / 2 = j := by omega
        have e2 : (j * 2 + i) % 2 = i := by omega
        rw [e1, e2]
        have hx : (d.toArray)[j]! = d[j] := by simp [hj]
        rw [hx]
        have h8 : i = 0 ∨ i = 1 := by omega
        rcases h8 with rfl | rfl <;> rfl
      · rw [if_neg hi, List.getElem?_eq_none (by simp; omega)]
    rw [this]
    exact k28_mkM _ _ _ _
  · simp [sortWorldK, Go.Sort.putRowK]
  · have hi' : i < W.heap.size := by omega
    unfold sortWorldK
    rw [Go.Sort.heap_grow_old _ _ (by simp [Go.Sort.putRowK]; exact hi')]
    show (W.heap.modify g (Go.Sort.onCells _))[i]? = _
    rw [Array.getElem?_modify, if_neg (by omega)]

theorem ltOrd (x y : S28) : ltOf ordI x y = decide (x.f0 < y.f0 ∨ x.f0 = y.f0 ∧ x.f1 < y.f1) := by
  unfold ltOf ordI Lib.compareInt
  rw [decide_eq_decide]
  (repeat' split) <;> omega
theorem swoOrd : Go.Sort.SWO (ltOf ordI) where
  irrefl x := by rw [ltOrd]; simp
  trans x y z h1 h2 := by rw [ltOrd] at *; simp only [decide_eq_true_eq] at *; omega
  ntrans x y z h1 h2 := by rw [ltOrd] at *; simp only [decide_eq_false_iff_not] at *; omega
theorem totOrd (x y : S28) (h1 : ltOf ordI x y = false) (h2 : ltOf ordI y x = false) : x = y := by
  rw [ltOrd] at *
  simp only [decide_eq_false_iff_not] at *
  cases x; cases y
  simp only [S28.mk.injEq]
  simp only at h1 h2
  omega
theorem sort_own {W : World} {base : Nat} {A : Option Addr} {n c : Nat} {xs : List S28} (hn : n = xs.length) (h : Kd.R k28 39 W base (fun _ => True) (.slice A n c) xs) (hlen : xs.length < 4611686018427387904) :
    Calls Try.prog 26 #[.slice A n c, .func (.func 25) #[] #[]] W fun e w' => e = .returned (.tuple #[]) ∧ Kd.R k28 39 w' base (fun _ => True) (.slice A n c) (srt xs) ∧ Below base W w' := by
  rcases Nat.eq_zero_or_pos xs.length with h0 | h0
  · obtain rfl := List.eq_nil_of_length_eq_zero h0
    subst hn
    refine (AnyF.slices_SortFunc_none { sortT with } A c _ W).mono ?_
    rintro e w' ⟨rfl, rfl⟩
    have es : srt [] = [] := by simp [srt]
    rw [es]
    exact ⟨rfl, h, Below.refl _ _⟩
  · obtain ⟨g, cur, rfl, hg, hh, h1, h2, h3, hH⟩ := holds_of_own hn h h0
    have eg : ∀ args w, (callFunc 25 args).run Try.prog w = .ok (.enter 25 args) w := enters_of Try.func25 (by kernel_rfl) rfl
    subst hn
    have hc := AnyQ.slices_SortFunc_total sortT 2 Try.isAgg39 Try.sizeOf39 encT (fun _ => rfl) (fun x v hv => by simp [encT] at hv; rcases hv with rfl | rfl <;> rfl) ordI swoOrd 25 #[] g 0 c xs.toArray W eg
      (fun m os dk _ x y => against_grow x y _) hH (Array.getElem?_eq_some_iff.1 hh).1 (by simpa using hlen) totOrd
    refine Calls.mono (P := Try.prog) hc ?_
    rintro e w' ⟨rfl, m, os, rfl⟩
    have := own_of_sorted (base := base) (d := srt xs) (m := m) (os := os) (n := xs.length) (by simp [srt]) hg hh h1 h2 h3
    exact ⟨rfl, this⟩
/-! ### Times in order: plain mathematics -/
abbrev Tm := S28
theorem tm_ext {a b : Tm} (h0 : a.f0 = b.f0) (h1 : a.f1 = b.f1) : a = b := by cases a; cases b; simp_all
def lx (a b : Tm) : Prop := a.f0 < b.f0 ∨ a.f0 = b.f0 ∧ a.f1 < b.f1
theorem lx_irrefl (a : Tm) : ¬ lx a a := by unfold lx; omega
theorem lx_trans {a b c : Tm} (h : lx a b) (k : lx b c) : lx a c := by unfold lx at *; omega
theorem lx_total {a b : Tm} (h : ¬ lx a b) (k : ¬ lx b a) : a = b := by
  unfold lx at *
  exact tm_ext (by omega) (by omega)
/-! the sort -/
theorem srt_perm (l : List Tm) : (srt l).Perm l := List.mergeSort_perm _ _
theorem srt_mem {l : List Tm} {x : Tm} : x ∈ srt l ↔ x ∈ l := (srt_perm l).mem_iff
theorem srt_len (l : List Tm) : (srt l).length = l.length := (srt_perm l).length_eq
theorem le_ord (x y : Tm) : (!(ltOf ordI y x)) = true ↔ ¬ lx y x := by
  rw [ltOrd, Bool.not_eq_true', decide_eq_false_iff_not]
  exact Iff.rfl
theorem srt_pair (l : List Tm) : (srt l).Pairwise fun a b => ¬ lx b a := by
  have h := List.pairwise_mergeSort (le := fun x y : Tm => !(ltOf ordI y x)) (fun a b c h1 h2 => by
    rw [le_ord] at *
    unfold lx at *; omega) (fun a b => by
    have h3 := le_ord a b
    have h4 := le_ord b a
    rw [Bool.or_eq_true, h3, h4]
    unfold lx; omega) l
  exact h.imp (fun {a b} hab => (le_ord a b).1 hab)
/-- Two lists, each strictly in order, of the same times are one. -/
theorem sorted_eq : ∀ {l m : List Tm}, l.Pairwise lx → m.Pairwise lx → (∀ t, t ∈ l ↔ t ∈ m) → l = m
  | [], [], _, _, _ => rfl
  | [], b :: m, _, _, h => by have := (h b).2 List.mem_cons_self; cases this
  | a :: l, [], _, _, h => by have := (h a).1 List.mem_cons_self; cases this
  | a :: l, b :: m, hl, hm, h => by
    obtain ⟨h1, h2⟩ := List.pairwise_cons.1 hl
    obtain ⟨h3, h4⟩ := List.pairwise_cons.1 hm
    have e : a = b := by
      rcases List.mem_cons.1 ((h a).1 List.mem_cons_self) with e | e
      · exact e
      · rcases List.mem_cons.1 ((h b).2 List.mem_cons_self) with e' | e'
        · exact e'.symm
        · exact absurd (lx_trans (h3 a e) (h1 b e')) (lx_irrefl _)
    subst e
    rw [sorted_eq h2 h4 fun t => ⟨fun ht => ?_, fun ht => ?_⟩]
    · rcases List.mem_cons.1 ((h t).1 (List.mem_cons_of_mem _ ht)) with e | e
      · rw [e] at ht; exact absurd (h1 a ht) (lx_irrefl _)
      · exact e
    · rcases List.mem_cons.1 ((h t).2 (List.mem_cons_of_mem _ ht)) with e | e
      · rw [e] at ht; exact absurd (h3 a ht) (lx_irrefl _)
      · exact e
def ins : List Tm → Tm → List Tm
  | [], t => [t]
  | a :: s, t => if a.f0 < t.f0 ∨ a.f0 = t.f0 ∧ a.f1 < t.f1 then a :: ins s t else if a.f0 = t.f0 ∧ a.f1 = t.f1 then a :: s else t :: a :: s
theorem ins_mem {x t : Tm} : ∀ {l : List Tm}, x ∈ ins l t ↔ x ∈ l ∨ x = t
  | [] => by simp [ins]
  | a :: s => by
    unfold ins
    split
    · rw [List.mem_cons, ins_mem, List.mem_cons, or_assoc]
    · split
      · rename_i h
        have e : a = t := tm_ext h.1 h.2
        subst e
        constructor
        · exact .inl
        · rintro (h5 | h5)
          · exact h5
          · rw [h5]; exact List.mem_cons_self
      · rw [List.mem_cons, or_comm]
theorem ins_len (t : Tm) : ∀ l : List Tm, (ins l t).length ≤ l.length + 1
  | [] => by simp [ins]
  | a :: s => by
    unfold ins
    have := ins_len t s
    split
    · simp; omega
    · split <;> simp
theorem ins_sorted (t : Tm) : ∀ {l : List Tm}, l.Pairwise lx → (ins l t).Pairwise lx
  | [], _ => List.pairwise_singleton _ _
  | a :: s, h => by
    obtain ⟨h1, h2⟩ := List.pairwise_cons.1 h
    unfold ins
    split
    · rename_i hlt
      refine List.pairwise_cons.2 ⟨fun b hb => ?_, ins_sorted t h2⟩
      rcases ins_mem.1 hb with hb | hb
      · exact h1 b hb
      · rw [hb]; exact hlt
    · split
      · exact h
      · rename_i h3 h4
        have hta : lx t a := by unfold lx; omega
        refine List.pairwise_cons.2 ⟨fun b hb => ?_, h⟩
        rcases List.mem_cons.1 hb with hb | hb
        · rw [hb]; exact hta
        · exact lx_trans hta (h1 b hb)
/-- The times of a list, each once, in order. -/
def uq (l : List Tm) : List Tm := l.foldl ins []
theorem uq_fold_mem {x : Tm} : ∀ (l acc : List Tm), x ∈ l.foldl ins acc ↔ x ∈ acc ∨ x ∈ l
  | [], acc => by simp
  | a :: l, acc => by
    rw [List.foldl_cons, uq_fold_mem l, ins_mem, List.mem_cons, or_assoc]
theorem uq_fold_sorted : ∀ (l acc : List Tm), acc.Pairwise lx → (l.foldl ins acc).Pairwise lx
  | [], _, h => h
  | a :: l, acc, h => by rw [List.foldl_cons]; exact uq_fold_sorted l _ (ins_sorted a h)
theorem uq_fold_len : ∀ (l acc : List Tm), (l.foldl ins acc).length ≤ acc.length + l.length
  | [], acc => by simp
  | a :: l, acc => by
    have h1 := uq_fold_len l (ins acc a)
    have h2 := ins_len a acc
    rw [List.foldl_cons, List.length_cons]
    omega
theorem uq_mem {x : Tm} {l : List Tm} : x ∈ uq l ↔ x ∈ l := by
  unfold uq
  rw [uq_fold_mem]
  simp
theorem uq_sorted (l : List Tm) : (uq l).Pairwise lx := uq_fold_sorted l [] List.Pairwise.nil
theorem uq_len (l : List Tm) : (uq l).length ≤ l.length := by
  have := uq_fold_len l []
  simpa [uq] using this
theorem uq_eq {l m : List Tm} (h : ∀ x, x ∈ l ↔ x ∈ m) : uq l = uq m := sorted_eq (uq_sorted l) (uq_sorted m) fun t => by rw [uq_mem, uq_mem, h]
theorem srt_uq {ys acc : List Tm} (hn : ys.Nodup) (h : ∀ x, x ∈ ys ↔ x ∈ acc) : srt ys = uq acc := by
  refine sorted_eq ?_ (uq_sorted acc) fun t => by rw [srt_mem, uq_mem, h]
  have h1 := srt_pair ys
  have h2 : (srt ys).Pairwise (· ≠ ·) := (srt_perm ys).nodup_iff.2 hn
  exact h1.imp₂ (fun a b h3 h4 => by
    rcases Classical.em (lx a b) with h5 | h5
    · exact h5
    · exact absurd (lx_total h5 h3) h4) h2
def jn (a b : Tm) : Tm := ⟨mx a.f0 b.f0, mx a.f1 b.f1⟩
/-- One with itself and with those behind it. -/
def hrow (t : List Tm) (p : Nat) : List Tm := (t.drop p).map (jn (t.getD p z28))
def hjTo (t : List Tm) (i : Nat) : List Tm := (List.range i).flatMap (hrow t)
def hj (t : List Tm) : List Tm := hjTo t t.length
theorem hjTo_succ (t : List Tm) (i : Nat) : hjTo t (i + 1) = hjTo t i ++ hrow t i := by
  unfold hjTo
  rw [List.range_succ, List.flatMap_append]
  simp
theorem hjTo_mem {t : List Tm} {i : Nat} {x : Tm} : x ∈ hjTo t i ↔ ∃ p, p < i ∧ x ∈ hrow t p := by
  unfold hjTo
  rw [List.mem_flatMap]
  simp
theorem hrow_mem {t : List Tm} {p : Nat} {x : Tm} (h : x ∈ hrow t p) : ∃ a ∈ t, ∃ b ∈ t, x = jn a b := by
  unfold hrow at h
  obtain ⟨b, hb, rfl⟩ := List.mem_map.1 h
  have hp : p < t.length := by
    rcases Nat.lt_or_ge p t.length with h1 | h1
    · exact h1
    · rw [List.drop_of_length_le h1] at hb; cases hb
  refine ⟨t.getD p z28, ?_, b, List.mem_of_mem_drop hb, rfl⟩
  rw [List.getD_eq_getElem?_getD, List.getElem?_eq_getElem hp]
  exact List.getElem_mem hp
theorem hj_sub {t : List Tm} {x : Tm} (h : x ∈ hj t) : ∃ a ∈ t, ∃ b ∈ t, x = jn a b := by
  obtain ⟨p, _, h⟩ := hjTo_mem.1 h
  exact hrow_mem h
theorem hj_of {t : List Tm} {p q : Nat} (h : p ≤ q) (hq : q < t.length) : jn t[p] t[q] ∈ hj t := by
  refine hjTo_mem.2 ⟨p, by omega, List.mem_map.2 ⟨t[q], ?_, ?_⟩⟩
  · have : t[q] = (t.drop p)[q - p]'(by rw [List.length_drop]; omega) := by
      rw [List.getElem_drop]
      congr 1
      omega
    rw [this]
    exact List.getElem_mem _
  · rw [List.getD_eq_getElem?_getD, List.getElem?_eq_getElem (by omega)]
    rfl
theorem jn_comm (a b : Tm) : jn a b = jn b a := by
  unfold jn mx
  exact tm_ext (by dsimp only; (repeat' split) <;> omega) (by dsimp only; (repeat' split) <;> omega)
theorem hj_mem {t : List Tm} {x : Tm} : x ∈ hj t ↔ ∃ a ∈ t, ∃ b ∈ t, x = jn a b := by
  refine ⟨hj_sub, ?_⟩
  rintro ⟨a, ha, b, hb, rfl⟩
  obtain ⟨p, hp, rfl⟩ := List.getElem_of_mem ha
  obtain ⟨q, hq, rfl⟩ := List.getElem_of_mem hb
  rcases Nat.le_total p q with h | h
  · exact hj_of h hq
  · rw [jn_comm]; exact hj_of h hp
theorem info39 : (Try.prog.info? 39).map (fun i => (i.zero, i.size, i.bytes)) = some (some (.agg #[(.int .i64 0), (.int .i64 0)]), 2, 16) := by kernel_rfl
def moment_set_all.l0 : Nat → List (S28) → List (S28) → Int → Int → Option ((List (S28)))
  | 0, _, _, _, _ => none
  | k + 1, x5, x20, x21, x22 => if x22 < x21 then (if 0 ≤ x22 then (if x22 < (x20.length : Int) then (if x5.length < 8796093022208 then (moment_set_all.l0 k (x5 ++ [(⟨(rd_T28 x20 x22).f0, (rd_T28 x20 x22).f1⟩ : S28)]) x20 x21 (wrap64 (x22 + 1))) else (none)) else (none)) else (none)) else (some x5)
theorem copy_l0 (s : List S28) (hl : s.length < 8796093022208) (d : Nat) : ∀ (k i : Nat) (acc : List S28), i + d = s.length → acc.length ≤ i → d < k → moment_set_all.l0 k acc s (s.length : Int) (i : Int) = some (acc ++ s.drop i) := by
  induction d with
  | zero =>
    intro k i acc hi _ hk
    obtain ⟨k, rfl⟩ : ∃ n, k = n + 1 := ⟨k - 1, by omega⟩
    simp only [moment_set_all.l0]
    rw [if_neg (by omega), List.drop_of_length_le (by omega), List.append_nil]
  | succ d ih =>
    intro k i acc hi ha hk
    obtain ⟨k, rfl⟩ : ∃ n, k = n + 1 := ⟨k - 1, by omega⟩
    have hil : i < s.length := by omega
    have e : wrap64 ((i : Int) + 1) = ((i : Int) + 1 + 9223372036854775808) % 18446744073709551616 - 9223372036854775808 := by with_unfolding_all rfl
    have hw : wrap64 ((i : Int) + 1) = ((i + 1 : Nat) : Int) := by rw [e]; omega
    have hr : rd_T28 s (i : Int) = s[i] := by unfold rd_T28; rw [Int.toNat_natCast, List.getD_eq_getElem?_getD, List.getElem?_eq_getElem hil]; rfl
    simp only [moment_set_all.l0]
    rw [if_pos (by omega), if_pos (by omega), if_pos (by omega), if_pos (by omega), hw, hr, ih k (i + 1) _ (by omega) (by simp; omega) (by omega), List.append_assoc, List.drop_eq_getElem_cons hil]
    rfl
/-- The keys met so far: none twice; those of the map that are no longer to come. -/
def Coll (D : DataW Unit) (left : Lit → Bool) (ys : List S28) : Prop := ys.Nodup ∧ (∀ x ∈ ys, wfT x) ∧ ∀ x, wfT x → (x ∈ ys ↔ (Go.Maps.has D (kt x) = true ∧ left (kt x) = false))
theorem Coll.start (D : DataW Unit) : Coll D (Go.Maps.has D) [] := ⟨List.nodup_nil, fun x hx => by (cases hx), fun x _ => by
  constructor
  · intro h; cases h
  · rintro ⟨h1, h2⟩
    rw [h1] at h2
    cases h2⟩
theorem Coll.step {D : DataW Unit} {left : Lit → Bool} {ys : List S28} (h : Coll D left ys) {x : S28} {y : DataW Unit} (hx : wfT x) (hlk : left (kt x) = true) (hat : ∀ zd, D.atKey (kt x) zd = y) : Coll D (fun z => left z && !z.sameKey (kt x)) (ys ++ [x]) := by
  have hhas : Go.Maps.has D (kt x) = true := Go.Maps.has_true_of_atKey hat
  have hnew : x ∉ ys := fun hm => by
    have := ((h.2.2 x hx).1 hm).2
    rw [hlk] at this
    cases this
  refine ⟨List.nodup_append.2 ⟨h.1, by simp, fun a ha b hb => by simp at hb; subst hb; exact fun e => hnew (e ▸ ha)⟩, fun z hz => ?_, fun z hz => ?_⟩
  · rcases List.mem_append.1 hz with hz | hz
    · exact h.2.1 z hz
    · rw [List.mem_singleton.1 hz]; exact hx
  · rw [List.mem_append, List.mem_singleton]
    by_cases hzx : z = x
    · subst hzx
      have h1 : (kt z).sameKey (kt z) = true := (kt_same hz hz).2 rfl
      simp [hhas, h1]
    · have h1 : (kt z).sameKey (kt x) = false := Bool.eq_false_iff.2 (fun h' => hzx ((kt_same hz hx).1 h'))
      rw [h.2.2 z hz]
      simp [hzx, h1]
set_option maxHeartbeats 8000000 in
theorem all_own (b n : Nat) (D : DataW Unit) (acc : List S28) (w : World) (hown : w.ownsMap Try.prog 39 (plainElem Try.prog 4) b n D) (hD : ∀ x, wfT x → (Go.Maps.has D (kt x) = true ↔ x ∈ acc)) (hacc : ∀ x ∈ acc, wfT x) (hn : n ≤ 1099511627776) :
    Calls Try.prog 23 #[.map (some b)] w fun e w' => ∃ v0_ : Value, e = .returned (v0_) ∧ Kd.R k28 28 w' w.heap.size (fun _ => True) v0_ (uq acc) ∧ Below w.heap.size w w' := by
  have hu28 := Try.underlying28
  have hbl := hown.lt
  have hsz : Go.Maps.size D ≤ n := by
    obtain ⟨es, clock, _, _, hs, rfl⟩ := hown
    simp [Go.Maps.size, length_sorted]
    exact hs
  have HD := Aside0.mk hD
  have HA := Aside0.mk hacc
  clear hD hacc
  go_enter Try.func23, Try.ntmps23
  go_wp2_with (first | (at_range; refine wpList_range_own _ rfl _ 38 rfl 39 4 KT Try.underlying38 _ b n _ rfl hown ?_; intro w0 hrg0 hg0 hs0) | go_in)
  go_frame
  go_loopw [3] (fun v3 wr => ∃ (left : Lit → Bool) (cnt : Nat) (ys : List S28), wr.ranges Try.prog 39 (plainElem Try.prog 4) b w.heap.size n D left cnt ∧ cnt + ys.length ≤ n ∧ Aside0 (Kd.R k28 39 wr w.heap.size (fun k_ => k_ ≠ w.heap.size) v3 ys) ∧ Aside0 (Coll D left ys) ∧ Aside0 (Below w.heap.size w wr) ∧ w.heap.size < wr.heap.size)
    (fun _ wr => wr.rangeLeft b w.heap.size)
  case atStart => exact ⟨_, _, [], hrg0, by simpa using hsz, ⟨Kd.R_nil _ _ _ _ _⟩, ⟨Coll.start D⟩, ⟨(Below.refl _ _).grown hg0 (Nat.le_refl _) (fun j hj => by cases hj)⟩, by omega⟩
  case round =>
    obtain ⟨left, cnt, ys, hrg, hcs, HO, HC, HB, hlt0⟩ := hrel
    go_wp2_with (first | (at_next; refine wpList_next_ranges _ rfl _ rfl 39 KT (plainElem Try.prog 4) kv (fun v : Value => v) (fun key kl h => (by obtain ⟨x, hx, _⟩ := key_inv key kl h; exact ⟨x, hx⟩)) (fun v y h => ⟨v, rfl⟩) b w.heap.size n D left cnt rfl hrg ?_ ?_) | go_in)
    · intro hc0 hl0
      obtain ⟨Ao4, co4, eo4⟩ := Kd.R_slice HO.out
      subst eo4
      have hys : srt ys = uq acc := srt_uq HC.out.1 (fun x => ⟨fun hx => (HD.out x (HC.out.2.1 x hx)).1 ((HC.out.2.2 x (HC.out.2.1 x hx)).1 hx).1, fun hx => (HC.out.2.2 x (HA.out x hx)).2 ⟨(HD.out x (HA.out x hx)).2 hx, hl0 _⟩⟩)
      have hyl : ys.length < 4611686018427387904 := by omega
      have hlen : (srt ys).length = ys.length := srt_len ys
      obtain ⟨t166, ht⟩ : ∃ t, t = srt ys := ⟨_, rfl⟩
      rw [← ht] at hys hlen
      have HT := Aside0.mk ht
      have HYS := Aside0.mk hys
      have LL : Aside0 (ys.length = t166.length) := ⟨hlen.symm⟩
      have HYL := Aside0.mk hyl
      obtain ⟨r, hr⟩ : ∃ r, r = uq acc := ⟨_, rfl⟩
      obtain ⟨k, hk⟩ : ∃ k, k = t166.length + 1 := ⟨_, rfl⟩
      have H' : Aside0 (moment_set_all.l0 k ([] : List (S28)) t166 (t166.length : Int) 0 = some r) := ⟨by
        have := copy_l0 t166 (by omega) t166.length k 0 [] (by omega) (by simp) (by omega)
        rw [List.nil_append, List.drop_zero] at this
        rw [hr, ← hys]
        exact this⟩
      have HO168 : Aside0 (Kd.R k28 39 wr w.heap.size (fun _ => True) (.slice Ao4 ys.length co4) ys) := ⟨Kd.R_mono HO.out (fun _ _ => trivial)⟩
      have HRQ := Aside0.mk hr
      rw [LL.out] at HO168 ⊢
      clear ht hys hlen hyl HO hk hr hl0 hc0
      go_wp2_with (go_at_call 26; refine (sort_own LL.out.symm HO168.out HYL.out).mono ?_; rintro e w4 ⟨rfl, hos, hbs⟩; rw [← HT.out] at hos; have n0_ := Aside0.mk hos; have n1_ := Aside0.mk (HB.out.trans hbs); clear HO168; clear HB; have HO168 := n0_; have HB := n1_; clear n0_ n1_; clear hos hbs)
      go_loopg [5, 22] k (fun kq v5 v22 w' => ∃ (x5_1 : List (S28)) (x22_1 : Int), v22 = .int .i64 x22_1 ∧ Aside0 (moment_set_all.l0 kq x5_1 t166 (t166.length : Int) x22_1 = some r) ∧ Aside0 (kq ≤ k) ∧ Aside0 (Kd.R k28 28 w' w.heap.size (fun k_ => some k_ ≠ ((.slice Ao4 t166.length co4) : Value).ownBlock) v5 x5_1) ∧ Aside0 (Kd.R k28 39 w' w.heap.size (fun k_ => some k_ ≠ (v5 : Value).ownBlock) (.slice Ao4 t166.length co4) t166) ∧ Aside0 (Below w.heap.size w w'))
      case atStart => exact ⟨(([] : List (S28))), (0), (by first | rfl | (simp; done) | (simp [*]; done)), H', ⟨Nat.le_refl _⟩, ⟨by first | exact Kd.R_nil _ _ _ _ _ | exact Kd.N_nil _ _ _ _ _ | exact Kd.V_nil _ _ _ _ _ | exact Kd.Q_nil _ _ _ _ _ | exact Kd.S_nil _ _ _ _ _⟩, ⟨by (with_reducible repeat (first | apply Kd.R_alloc | apply Kd.R_drewN | apply Kd.R_drew)); exact Kd.R_mono HO168.out (fun _ hk => (by simp [Value.ownBlock]))⟩, ⟨by repeat (first | (with_reducible first | exact HB.out | apply below_alloc | apply pw_below_drewN | apply below_drew1) | exact HB.out)⟩⟩
      case round =>
        clear H'
        try clear c1
        try clear c2
        try clear p2
        obtain ⟨x5_1, x22_1, rfl, HA, HK1, HO_5, HO_20, HB⟩ := hrel
        cases gk with
        | zero => exact absurd HA.out (by simp [moment_set_all.l0])
        | succ k1 =>
          have H := HA.out
          clear HA
          simp only [moment_set_all.l0] at H
          by_cases c5 : x22_1 < (t166.length : Int)
          · rw [if_pos c5] at H
            have c5b0 : decide (x22_1 < (t166.length : Int)) = true := decide_eq_true c5
            clear c5
            by_cases c6 : 0 ≤ x22_1
            · rw [if_pos c6] at H
              have c6b0 : decide (0 ≤ x22_1) = true := decide_eq_true c6
              clear c6
              by_cases c7 : x22_1 < (t166.length : Int)
              · rw [if_pos c7] at H
                have c7b0 : decide (x22_1 < (t166.length : Int)) = true := decide_eq_true c7
                clear c7
                by_cases c8 : x5_1.length < 8796093022208
                · rw [if_pos c8] at H
                  have LMc8 := Aside0.mk c8
                  clear c8
                  obtain ⟨y171, hy171⟩ : ∃ y_ : List (S28), y_ = (x5_1 ++ [(⟨(rd_T28 t166 x22_1).f0, (rd_T28 t166 x22_1).f1⟩ : S28)]) := ⟨_, rfl⟩
                  replace H : (moment_set_all.l0 k1 y171 t166 (t166.length : Int) (wrap64 (x22_1 + 1))) = some r := by first | (rw [hy171]; with_reducible exact H) | (have H2_ := (Option.bind_some _ _).symm.trans H; rw [hy171]; with_reducible exact H2_) | (have H2_ := (Option.bind_some _ _).symm.trans H; with_reducible exact H2_) | with_reducible exact H | (rw [hy171]; exact H) | exact H
                  have Ny171 := Aside0.mk hy171
                  clear hy171
                  have H' := Aside0.mk H
                  clear H
                  have p169 : 0 ≤ (x22_1 : Int) := of_decide_eq_true (by first | (with_reducible assumption) | assumption)
                  have q169 : x22_1 < (t166.length : Int) := of_decide_eq_true (by first | (with_reducible assumption) | assumption)
                  obtain ⟨ad169, e169, hx169_0, hx169_1⟩ := at_T28 (Kd.R_reads' HO_20.out).2.2 x22_1 p169 q169
                  cases e169
                  replace p169 := eq_true p169
                  replace q169 := eq_true q169
                  go_wp2_with (first | ((with_reducible refine gate_dst (N := 7) rfl ?_); refine box_event ?hg (N := 7) ?hd (cs := #[.int .i64 0, .int .i64 0]) (t := 39) ?hr ?_; (case hd => rfl); (case hg => rfl); (case hr => first | (go_simp; done) | (go_simp; rfl)); intro gb170 hg w9 hbox hb; have n0_ := Aside0.mk (Kd.R_below (Kd.R_elderB (by (with_reducible repeat (first | apply Kd.R_alloc | apply Kd.R_drewN | apply Kd.R_drew)); exact HO_5.out) gb170 (Nat.le_of_eq hg.symm)) hb); have n1_ := Aside0.mk (Kd.R_below (Kd.R_elderB (by (with_reducible repeat (first | apply Kd.R_alloc | apply Kd.R_drewN | apply Kd.R_drew)); exact HO_20.out) gb170 (Nat.le_of_eq hg.symm)) hb); have n2_ := Aside0.mk (below_step (by repeat (first | (with_reducible first | exact HB.out | apply below_alloc | apply pw_below_drewN | apply below_drew1) | exact HB.out)) hb); have n3_ := Aside0.mk (hbox); have n4_ := Aside0.mk ((by rw [hg]; exact (below_size (by repeat (first | (with_reducible first | exact HB.out | apply below_alloc | apply pw_below_drewN | apply below_drew1) | exact HB.out))) : w.heap.size ≤ gb170)); have n5_ := Aside0.mk ((by rw [hg]; exact (below_size (by repeat (first | (with_reducible first | exact HB.out | apply below_alloc | apply pw_below_drewN | apply below_drew1) | exact HB.out))) : w.heap.size ≤ gb170)); clear HO_5; clear HO_20; clear HB; have HO_5 := n0_; have HO_20 := n1_; have HB := n2_; have BK170 := n3_; have GW170 := n4_; have GE170 := n5_; clear n0_ n1_ n2_ n3_ n4_ n5_; clear hb hbox hg; have hcz10_0 : w9.cell? ⟨gb170, 0, none⟩ = some (.int .i64 0) := (blk_cell BK170.out 0).trans rfl; have hcz10_1 : w9.cell? ⟨gb170, 1, none⟩ = some (.int .i64 0) := (blk_cell BK170.out 1).trans rfl; have hfz10_0 := blk_frozen BK170.out 0; have hfz10_1 := blk_frozen BK170.out 1) | ((with_reducible refine gate_builtin (b := .append) (xs := #[.tmp 26, .tmp 28]) rfl ?_); at_builtin; refine Kd.R_append k28 (w0 := w) w.heap.size rfl (.tmp 26) (.tmp 28) 22 28 (.agg #[(.int .i64 0), (.int .i64 0)]) 16 rfl Try.underlying22 info28 rfl (by decide) (by omega) u5 x5_1 (⟨(rd_T28 t166 x22_1).f0, (rd_T28 t166 x22_1).f1⟩ : S28) [.int .i64 ((rd_T28 t166 x22_1).f0), .int .i64 ((rd_T28 t166 x22_1).f1)] (fun k_ => some k_ ≠ (.slice (some ad169) t166.length co4 : Value).ownBlock ∧ k_ ≠ gb170) (fun _ => False) rfl (by first | (go_simp; done) | (go_simp; rfl)) ?aP (fun _ hk => hk.elim) ?aF ?aO ?aB ?aS ?aL ?_; (case aP => exact k28_mkM _ _ _ (⟨(rd_T28 t166 x22_1).f0, (rd_T28 t166 x22_1).f1⟩ : S28)); (case aB => exact (by repeat (first | (with_reducible first | exact HB.out | apply below_alloc | apply pw_below_drewN | apply below_drew1 | refine below_set ?_ GE170.out) | exact HB.out))); (case aF => exact (fun k_ hk => ⟨Kd.fresh' (Kd.R_lt (by (with_reducible repeat (first | apply Kd.R_alloc | apply Kd.R_drewN | apply Kd.R_drew)); exact (Kd.R_mono (Kd.R_far (p := ⟨gb170, 1, none⟩) (Kd.R_far (p := ⟨gb170, 0, none⟩) (Kd.R_mono HO_20.out (fun k_ hk => (⟨hk, hk.2⟩ : _ ∧ k_ ≠ gb170))) (fun _ hk => hk.2) (.int .i64 ((rd_T28 t166 x22_1).f0))) (fun _ hk => hk.2) (.int .i64 ((rd_T28 t166 x22_1).f1))) (fun _ h_ => h_.1)))) k_ hk, Kd.freshB (g := gb170) (o := .cells #[.int .i64 ((rd_T28 t166 x22_1).f0), .int .i64 ((rd_T28 t166 x22_1).f1)] 39 (0, 0)) (by (with_reducible repeat (first | refine blk_drewN ?_ _ | refine blk_drew ?_ | refine blk_alloc ?_ _)); refine blk_put (cs := #[.int .i64 ((rd_T28 t166 x22_1).f0), .int .i64 0]) ?_ 1 _ rfl; (with_reducible repeat (first | refine blk_drewN ?_ _ | refine blk_drew ?_ | refine blk_alloc ?_ _)); refine blk_put (cs := #[.int .i64 0, .int .i64 0]) ?_ 0 _ rfl; (with_reducible repeat (first | refine blk_drewN ?_ _ | refine blk_drew ?_ | refine blk_alloc ?_ _)); exact BK170.out) k_ hk⟩)); (case aO => exact (by (with_reducible repeat (first | apply Kd.R_alloc | apply Kd.R_drewN | apply Kd.R_drew)); exact Kd.R_mono (Kd.R_far (p := ⟨gb170, 1, none⟩) (Kd.R_far (p := ⟨gb170, 0, none⟩) (Kd.R_mono HO_5.out (fun k_ hk => (⟨hk, hk.2⟩ : _ ∧ k_ ≠ gb170))) (fun _ hk => hk.2) (.int .i64 ((rd_T28 t166 x22_1).f0))) (fun _ hk => hk.2) (.int .i64 ((rd_T28 t166 x22_1).f1))) (fun _ hk => ⟨hk.1.1, hk.1.2⟩))); (case aS => exact (below_size (by repeat (first | (with_reducible first | exact HB.out | apply below_alloc | apply pw_below_drewN | apply below_drew1 | refine below_set ?_ GE170.out) | exact HB.out)))); (case aL => have := LMc8.out; omega); intro v172 w11 ho hb hg hat; rw [← Ny171.out] at ho; have n0_ := Aside0.mk (Kd.R_after (ok := (fun k_ => k_ ≠ gb170)) (by (with_reducible repeat (first | apply Kd.R_alloc | apply Kd.R_drewN | apply Kd.R_drew)); exact Kd.R_mono (Kd.R_far (p := ⟨gb170, 1, none⟩) (Kd.R_far (p := ⟨gb170, 0, none⟩) (Kd.R_mono HO_20.out (fun k_ hk => (⟨hk, hk.2⟩ : _ ∧ k_ ≠ gb170))) (fun _ hk => hk.2) (.int .i64 ((rd_T28 t166 x22_1).f0))) (fun _ hk => hk.2) (.int .i64 ((rd_T28 t166 x22_1).f1))) (fun _ hk => ⟨hk.1.2, hk.1.1⟩)) hg hat); have n1_ := Aside0.mk (blk_grown (g := gb170) (o := .cells #[.int .i64 ((rd_T28 t166 x22_1).f0), .int .i64 ((rd_T28 t166 x22_1).f1)] 39 (0, 0)) (by (with_reducible repeat (first | refine blk_drewN ?_ _ | refine blk_drew ?_ | refine blk_alloc ?_ _)); refine blk_put (cs := #[.int .i64 ((rd_T28 t166 x22_1).f0), .int .i64 0]) ?_ 1 _ rfl; (with_reducible repeat (first | refine blk_drewN ?_ _ | refine blk_drew ?_ | refine blk_alloc ?_ _)); refine blk_put (cs := #[.int .i64 0, .int .i64 0]) ?_ 0 _ rfl; (with_reducible repeat (first | refine blk_drewN ?_ _ | refine blk_drew ?_ | refine blk_alloc ?_ _)); exact BK170.out) hg (Kd.R_away HO_5.out (fun _ hk => hk.2))); have n2_ := Aside0.mk (hb); have n3_ := Aside0.mk (ho); clear HO_20; clear BK170; clear HB; clear HO_5; have HO_20 := n0_; have BK170 := n1_; have HB := n2_; have HO173 := n3_; clear n0_ n1_ n2_ n3_; clear ho hb hg hat))
                  go_roundg k1
                  case measure => have := HK1.out; omega
                  case rel => exact ⟨(y171), (wrap64 (x22_1 + 1)), (by first | rfl | (simp; done) | (simp [*]; done)), H', ⟨by have := HK1.out; omega⟩, ⟨by (with_reducible repeat (first | apply Kd.R_alloc | apply Kd.R_drewN | apply Kd.R_drew)); exact Kd.R_mono HO173.out (fun _ hk => hk.1)⟩, ⟨by (with_reducible repeat (first | apply Kd.R_alloc | apply Kd.R_drewN | apply Kd.R_drew)); exact Kd.R_mono HO_20.out (fun _ hk => hk.2)⟩, ⟨by repeat (first | (with_reducible first | exact HB.out | apply below_alloc | apply pw_below_drewN | apply below_drew1 | refine below_set ?_ GE170.out) | exact HB.out)⟩⟩
                · rw [if_neg c8] at H
                  exact absurd H (by simp)
              · rw [if_neg c7] at H
                exact absurd H (by simp)
            · rw [if_neg c6] at H
              exact absurd H (by simp)
          · rw [if_neg c5] at H
            have c5b0 : decide (x22_1 < (t166.length : Int)) = false := decide_eq_false c5
            clear c5
            obtain rfl := Option.some.inj H
            go_wp2
            go_ret
            exact ⟨_, by first | rfl | (simp [errW_none, errW_some] <;> rfl) | (simp [*, errW_none, errW_some] <;> rfl), by rw [← HRQ.out]; (with_reducible repeat (first | apply Kd.R_alloc | apply Kd.R_drewN | apply Kd.R_drew)); exact Kd.R_mono HO_5.out (fun _ hk => trivial), by repeat (first | (with_reducible first | exact HB.out | apply below_alloc | apply pw_below_drewN | apply below_drew1) | exact HB.out)⟩
    · intro x c kl y1 y2 w1 cnt1 hkey hlk hRy hat hrg1 hlt hg1 hs1 hen
      obtain ⟨x2, hx2, hwx, rfl⟩ := key_inv (kv x) kl hkey
      have hxx : x2 = x := by
        unfold kv at hx2
        simp at hx2
        cases x; cases x2; simp_all
      subst hxx
      have hr1 := hrg1.lt
      have HO1 : Aside0 (Kd.R k28 39 w1 w.heap.size (fun k_ => k_ ≠ w.heap.size) u3 ys) := ⟨Kd.R_grown HO.out hg1 (fun k hk e => hk (Option.some.inj e))⟩
      have HB1 : Aside0 (Below w.heap.size w w1) := ⟨HB.out.grown hg1 (by omega) (fun j hj => by cases hj; exact Nat.le_refl _)⟩
      have HC1 := Aside0.mk (HC.out.step hwx hlk hat)
      have HRG := Aside0.mk hrg1
      clear HO HB HC hrg1 hlk hat hkey hx2 hRy
      have hsz1 : w.heap.size < w1.heap.size := by omega
      simp only [kv] at hen ⊢
      go_wp2_with (first | ((with_reducible refine gate_builtin (b := .append) (xs := #[.tmp 14, .tmp 16]) rfl ?_); at_builtin; refine Kd.R_append k28 (w0 := w) w.heap.size rfl (.tmp 14) (.tmp 16) 43 39 (.agg #[(.int .i64 0), (.int .i64 0)]) 16 rfl Try.underlying43 info39 rfl (by decide) (by omega) u3 ys x2 [.int .i64 x2.f0, .int .i64 x2.f1] (fun k_ => k_ ≠ w.heap.size) (fun _ => False) rfl (by first | rfl | (go_simp; done) | (go_simp; rfl)) (k28_mkM _ _ _ x2) (fun _ hk => hk.elim) (fun k_ hk e => (by simp at hk; omega)) (Kd.R_below HO1.out ((Below.refl _ _).alloc (Nat.le_refl _) _)) (HB1.out.alloc (by omega) _) (by simp; omega) (by omega) ?_; intro v2 w2 ho hb hg2 hat2))
      have hbk : ∀ j, u3.ownBlock = some j → w.heap.size ≤ j ∧ j ≠ w.heap.size := fun j hj => by
        obtain ⟨h0, inner, hown1, _⟩ := HO1.out
        exact ⟨own_base hown1 j hj, h0 j hj⟩
      have hrg2 := (HRG.out.alloc (.cells #[.int .i64 x2.f0, .int .i64 x2.f1] 39)).kept hg2 (fun e => by have := hbk b e.symm; omega) (fun e => (hbk _ e.symm).2 rfl)
      have hs2 := hg2.size
      simp at hs2
      exact ⟨⟨_, cnt1, ys ++ [x2], hrg2, by simp; omega, ⟨ho⟩, HC1, ⟨hb⟩, by omega⟩, by rw [hrg2.left_eq, hrg.left_eq]; exact hlt⟩
set_option maxHeartbeats 4000000 in
theorem unique_own (A0 : Option Addr) (c0 : Nat) (l0 : List (S28)) (w : World) (hr0 : Kd.C k28 w A0 l0.length l0) (hwf : ∀ x ∈ l0, wfT x) (hlen : l0.length ≤ 1048576) :
    Calls Try.prog 9 #[.slice A0 l0.length c0] w fun e w' => ∃ v0_ : Value, e = .returned (v0_) ∧ Kd.R k28 28 w' w.heap.size (fun _ => True) v0_ (uq l0) ∧ Below w.heap.size w w' := by
  have hmm := @run_makeMap Try.prog
  have HR0 := Aside0.mk hr0
  have HW := Aside0.mk hwf
  have hbig : (l0.length : Int) ≤ 9223372036854775807 := by omega
  clear hr0 hwf
  go_enter Try.func9, Try.ntmps9
  go_wp2
  go_loopg [9] l0.length (fun g s9 wr => ∃ (i : Nat) (D : DataW Unit), s9 = .int .i64 i ∧ i ≤ l0.length ∧ l0.length - i ≤ g ∧ wr.ownsMap Try.prog 39 (plainElem Try.prog 4) w.heap.size i D ∧ Aside0 (∀ x, wfT x → (Go.Maps.has D (kt x) = true ↔ x ∈ l0.take i)) ∧ Aside0 (Below w.heap.size w wr))
  case atStart => exact ⟨0, .map [], rfl, Nat.zero_le _, Nat.le_refl _, World.ownsMap_made _ _ _ _, ⟨fun x _ => by simp [Go.Maps.has]⟩, ⟨(Below.refl _ _).alloc (Nat.le_refl _) _⟩⟩
  case round =>
    obtain ⟨i, D, rfl, hi, hg, hown, HD, HB⟩ := hrel
    by_cases hlt : i < l0.length
    · have hz : (i : Int) < (l0.length : Int) := by omega
      obtain ⟨ad, e, hx0, hx1⟩ := at_T28 (Kd.C_below HR0.out HB.out) (i : Int) (by omega) hz
      cases e
      rw [Int.toNat_natCast] at hx0 hx1
      have hxw := HW.out l0[i] (List.getElem_mem hlt)
      have hxe : rd_T28 l0 (i : Int) = l0[i] := by unfold rd_T28; rw [Int.toNat_natCast, List.getD_eq_getElem?_getD, List.getElem?_eq_getElem hlt]; rfl
      have htk := List.take_succ_eq_append_getElem hlt
      rw [hxe] at hx0 hx1
      generalize l0[i] = x at hx0 hx1 hxw htk
      have HTK := Aside0.mk htk
      clear htk hxe
      have h0 : (0 : Int) ≤ (i : Int) := by omega
      have hp : (i : Int) + 1 ≤ 9223372036854775807 := by omega
      go_wp2_with (first | (at_mapUpdate; refine wpList_mapUpdate_own _ rfl _ _ _ 38 rfl 39 4 KT Try.underlying38 _ w.heap.size i D rfl (hown.alloc _) (by unfold maxLen; omega) _ _ _ rfl rfl (key_of x hxw) _ [] (plainElem_bool Try.underlying4 _) ?_; intro w1 hown1 hgrow1))
      have hD1 : ∀ z, wfT z → (Go.Maps.has (D.put (kt x) (.lit (.bool true))) (kt z) = true ↔ z ∈ l0.take (i + 1)) := fun z hz' => by
        rw [HTK.out, List.mem_append, List.mem_singleton]
        by_cases hzx : z = x
        · subst hzx
          rw [Go.Maps.has_put_same hown.isMap (KT.key (key_of z hz'))]
          simp
        · have hne : kt z ≠ kt x := fun e => hzx (kt_inj hz' hxw e)
          rw [Go.Maps.has_put_other hne, HD.out z hz']
          simp [hzx]
      go_roundg (l0.length - (i + 1))
      case measure => omega
      case rel => exact ⟨i + 1, _, by first | rfl | (simp; done) | omega, by omega, by omega, hown1, ⟨hD1⟩, ⟨(HB.out.alloc HB.out.size _).grown hgrow1 (by simp; have := HB.out.size; omega) (fun j hj => by cases hj; exact Nat.le_refl _)⟩⟩
    · have hil : i = l0.length := by omega
      subst hil
      have hlt' : ¬ ((l0.length : Int) < (l0.length : Int)) := by omega
      have HD1 : Aside0 (∀ x, wfT x → (Go.Maps.has D (kt x) = true ↔ x ∈ l0)) := ⟨fun x hx => by rw [HD.out x hx, List.take_length]⟩
      clear HD
      go_wp2_with (go_at_call 23; refine (all_own w.heap.size l0.length D l0 _ hown HD1.out HW.out (by omega)).mono ?_; rintro e w' ⟨v, rfl, ho, hb⟩)
      go_ret
      exact ⟨_, rfl, Kd.R_lower ho HB.out.size, below_step HB.out hb⟩
theorem wf_jn {a b : S28} (ha : wfT a) (hb : wfT b) : wfT (jn a b) := by
  unfold wfT jn mx at *
  constructor
  · dsimp only; split
    · first | exact ha.1 | exact hb.1
    · first | exact hb.1 | exact ha.1
  · dsimp only; split
    · first | exact ha.2 | exact hb.2
    · first | exact hb.2 | exact ha.2
set_option maxHeartbeats 8000000 in
set_option maxRecDepth 100000 in
theorem closure_own (A0 : Option Addr) (c0 : Nat) (l0 : List (S28)) (w : World) (hr0 : Kd.C k28 w A0 l0.length l0) (hwf : ∀ x ∈ l0, wfT x) (hlen : l0.length ≤ 1048576) :
    Calls Try.prog 11 #[.slice A0 l0.length c0] w fun e w' => ∃ v0_ : Value, e = .returned (v0_) ∧ Kd.R k28 28 w' w.heap.size (fun _ => True) v0_ (uq (hj (uq l0))) ∧ Below w.heap.size w w' := by
  have hmm := @run_makeMap Try.prog
  have HR0 := Aside0.mk hr0
  have HW0 := Aside0.mk hwf
  have HL0 := Aside0.mk hlen
  clear hr0 hwf hlen
  obtain ⟨t, ht⟩ : ∃ t, t = uq l0 := ⟨_, rfl⟩
  have htl : t.length ≤ 1048576 := by rw [ht]; exact Nat.le_trans (uq_len l0) HL0.out
  have HW : Aside0 (∀ x ∈ t, wfT x) := ⟨fun x hx => HW0.out x (uq_mem.1 (by rw [← ht]; exact hx))⟩
  have HT := Aside0.mk ht
  clear ht
  have hbig : (t.length : Int) ≤ 9223372036854775807 := by omega
  obtain ⟨i0, hi0, _, hsz0, _⟩ := info_parts info28
  go_enter Try.func11, Try.ntmps11
  go_wp2_with (go_at_call 9; refine (unique_own A0 c0 l0 _ (Kd.C_alloc HR0.out _) HW0.out HL0.out).mono ?_; rintro e w3 ⟨v3, rfl, ho3, hb3⟩; rw [← HT.out] at ho3; have hm3 := (World.ownsMap_made (H := Unit) w Try.prog 39 (plainElem Try.prog 4)).kept (grown_of_below hb3 none) (by simp); obtain ⟨A1, c1, eo4, hc1, _⟩ := Kd.R_reads ho3; subst eo4; have HO := Aside0.mk (Kd.R_lower (Kd.R_mono (Kd.R_bound ho3) (fun k_ hk => (show k_ ≠ w.heap.size from by have h9 := hk.2.1; simp at h9; omega))) (show w.heap.size ≤ _ from by simp)); have HC := Aside0.mk hc1; have HM := Aside0.mk hm3; have HB3 := Aside0.mk (below_step ((Below.refl _ w).alloc (Nat.le_refl _) _) hb3); clear ho3 hb3 hm3 hc1)
  go_loopg [13] t.length (fun g s13 wr => ∃ (i : Nat) (D : DataW Unit), s13 = .int .i64 i ∧ i ≤ t.length ∧ t.length - i ≤ g ∧ Aside0 (wr.ownsMap Try.prog 39 (plainElem Try.prog 4) w.heap.size (i * 1048576) D) ∧ Aside0 (∀ x, wfT x → (Go.Maps.has D (kt x) = true ↔ x ∈ hjTo t i)) ∧ Aside0 (Kd.R k28 28 wr w.heap.size (fun k_ => k_ ≠ w.heap.size) (.slice A1 t.length c1) t) ∧ Aside0 (Below w.heap.size w wr) ∧ w.heap.size < wr.heap.size)
  case atStart => exact ⟨0, .map [], rfl, Nat.zero_le _, Nat.le_refl _, ⟨HM.out.mono (Nat.zero_le _)⟩, ⟨fun x _ => by simp [Go.Maps.has, hjTo]⟩, HO, HB3, HM.out.lt⟩
  case round =>
    clear HO HM HB3
    obtain ⟨i, D, rfl, hi, hg, HM, HD, HO, HB, hlt0⟩ := hrel
    by_cases hlt : i < t.length
    · have hz : (i : Int) < (t.length : Int) := by omega
      have h0 : (0 : Int) ≤ (i : Int) := by omega
      have hzz : (i : Int) ≤ (t.length : Int) := by omega
      have hCt := (Kd.R_reads' HO.out).2.2
      obtain ⟨ad, e, hx0, hx1⟩ := at_T28 hCt (i : Int) (by omega) hz
      cases e
      rw [Int.toNat_natCast] at hx0 hx1
      have hxe : rd_T28 t (i : Int) = t[i] := by unfold rd_T28; rw [Int.toNat_natCast, List.getD_eq_getElem?_getD, List.getElem?_eq_getElem hlt]; rfl
      rw [hxe] at hx0 hx1
      have hrow0 : Aside0 (hrow t i = (t.drop i).map (jn t[i])) := ⟨by unfold hrow; rw [List.getD_eq_getElem?_getD, List.getElem?_eq_getElem hlt]; rfl⟩
      have hxw := HW.out t[i] (List.getElem_mem hlt)
      obtain ⟨x, hx⟩ : ∃ x, x = t[i] := ⟨_, rfl⟩
      rw [← hx] at hx0 hx1 hrow0 hxw
      have hcut := cut_from (P := Try.prog) 22 28 .i64 Try.underlying22 hi0 2 hsz0 (some ad) t.length c1 (i : Int) h0 hzz
      simp only [Int.toNat_natCast] at hcut
      have hCd : ∀ W, Kd.C k28 W (some ad) t.length t → Kd.C k28 W (if c1 = i then some ad else (some ad : Option Addr).map (·.add (i * 2))) (t.drop i).length (t.drop i) := fun W h => Kd.C_drop (m := i) (c := c1) h (by omega) HC.out
      generalize (if c1 = i then some ad else (some ad : Option Addr).map (·.add (i * 2))) = A2 at hcut hCd
      have HCD := Aside0.mk hCd
      have hdl : (t.drop i).length = t.length - i := List.length_drop
      clear hCt hCd hxe hx
      have hp : (i : Int) + 1 ≤ 9223372036854775807 := by omega
      obtain ⟨gb, hgb⟩ : ∃ gb, gb = wr.heap.size := ⟨_, rfl⟩
      have hgb0 : w.heap.size < gb := by omega
      go_wp2
      rw [← hgb]
      have HM1 := Aside0.mk (HM.out.alloc (.cells #[.int .i64 x.f0, .int .i64 x.f1] 28))
      have HO1 := Aside0.mk (Kd.R_below HO.out ((Below.refl wr.heap.size wr).alloc (Nat.le_refl _) (.cells #[.int .i64 x.f0, .int .i64 x.f1] 28)))
      have HB1 := Aside0.mk (HB.out.alloc HB.out.size (.cells #[.int .i64 x.f0, .int .i64 x.f1] 28))
      have HK1 : Aside0 ((wr.alloc (.cells #[.int .i64 x.f0, .int .i64 x.f1] 28)).heap[gb]? = some (.cells #[.int .i64 x.f0, .int .i64 x.f1] 28 (0, 0))) := ⟨by rw [hgb]; exact (Go.MapKept.heap_alloc wr _).1⟩
      have hs1 : gb < (wr.alloc (.cells #[.int .i64 x.f0, .int .i64 x.f1] 28)).heap.size := by simp; omega
      clear HM HO HB hx0 hx1
      generalize (wr.alloc (.cells #[.int .i64 x.f0, .int .i64 x.f1] 28)) = wi at HM1 HO1 HB1 HK1 hs1 ⊢
      go_loopg [22] (t.length - i) (fun g2 s22 wq => ∃ (j : Nat) (D2 : DataW Unit), s22 = .int .i64 j ∧ j ≤ t.length - i ∧ t.length - i - j ≤ g2 ∧ Aside0 (wq.ownsMap Try.prog 39 (plainElem Try.prog 4) w.heap.size (i * 1048576 + j) D2) ∧ Aside0 (∀ z, wfT z → (Go.Maps.has D2 (kt z) = true ↔ z ∈ hjTo t i ++ (hrow t i).take j)) ∧ Aside0 (Kd.R k28 28 wq w.heap.size (fun k_ => k_ ≠ w.heap.size) (.slice (some ad) t.length c1) t) ∧ Aside0 (Below w.heap.size w wq) ∧ Aside0 (wq.heap[gb]? = some (.cells #[.int .i64 x.f0, .int .i64 x.f1] 28 (0, 0))) ∧ gb < wq.heap.size)
      case atStart => exact ⟨0, D, rfl, Nat.zero_le _, Nat.le_refl _, ⟨by rw [Nat.add_zero]; exact HM1.out⟩, ⟨fun z hz' => by rw [HD.out z hz']; simp⟩, HO1, HB1, HK1, hs1⟩
      case round =>
        clear HM1 HO1 HB1 HK1 hs1 HD
        obtain ⟨j, D2, rfl, hj, hg2, HM, HD, HO, HB, HK, hsq⟩ := hrel
        by_cases hjt : j < t.length - i
        · have hzj : (j : Int) < ((t.length - i : Nat) : Int) := by omega
          have h0j : (0 : Int) ≤ (j : Int) := by omega
          have hpj : (j : Int) + 1 ≤ 9223372036854775807 := by omega
          have hjd : j < (t.drop i).length := by omega
          have hCd := HCD.out wr (Kd.R_reads' HO.out).2.2
          obtain ⟨ad2, e2, hy0, hy1⟩ := at_T28 hCd (j : Int) h0j (by omega)
          cases e2
          rw [Int.toNat_natCast] at hy0 hy1
          have hye : rd_T28 (t.drop i) (j : Int) = (t.drop i)[j] := by unfold rd_T28; rw [Int.toNat_natCast, List.getD_eq_getElem?_getD, List.getElem?_eq_getElem hjd]; rfl
          rw [hye] at hy0 hy1
          have hyw := HW.out (t.drop i)[j] (List.mem_of_mem_drop (List.getElem_mem hjd))
          have htk : (hrow t i).take (j + 1) = (hrow t i).take j ++ [jn x (t.drop i)[j]] := by
            rw [hrow0.out, List.take_succ_eq_append_getElem (by rw [List.length_map]; exact hjd), List.getElem_map]
          generalize (t.drop i)[j] = y at hy0 hy1 hyw htk
          have HTK := Aside0.mk htk
          have hxyw := wf_jn hxw hyw
          have hq0 := (blk_cell HK.out 0).trans rfl
          have hq1 := (blk_cell HK.out 1).trans rfl
          simp at hq0 hq1
          have hne : gb ≠ wr.heap.size := by omega
          have hjc : moment_Join.f x.f0 x.f1 y.f0 y.f1 = some ((jn x y).f0, (jn x y).f1) := rfl
          have HJC := Aside0.mk hjc
          have HS := Aside0.mk HB.out.size
          clear hCd hye htk hjc
          clear hgb hdl hcut
          go_wp2_with (first | (go_at_call 14; refine (moment_Join.calls x.f0 x.f1 y.f0 y.f1 (jn x y).f0 (jn x y).f1 _ HJC.out).mono ?_; rintro e w5 ⟨rfl, hb5⟩; have HB5 := Aside0.mk hb5; clear hb5) | (at_mapUpdate; refine wpList_mapUpdate_own _ rfl _ _ _ 38 rfl 39 4 KT Try.underlying38 _ w.heap.size (i * 1048576 + j) D2 rfl ((HM.out.alloc (.cells #[.int .i64 y.f0, .int .i64 y.f1] 28)).kept (grown_of_below HB5.out none) (by simp)) (by unfold maxLen; omega) _ _ _ rfl rfl (key_of (jn x y) hxyw) _ [] (plainElem_bool Try.underlying4 _) ?_; intro w6 hown6 hgrow6))
          have hD6 : ∀ z, wfT z → (Go.Maps.has (D2.put (kt (jn x y)) (.lit (.bool true))) (kt z) = true ↔ z ∈ hjTo t i ++ (hrow t i).take (j + 1)) := fun z hz' => by
            rw [HTK.out, ← List.append_assoc, List.mem_append, List.mem_singleton]
            by_cases hzx : z = jn x y
            · rw [hzx, Go.Maps.has_put_same HM.out.isMap (KT.key (key_of _ hxyw))]
              simp
            · have hne2 : kt z ≠ kt (jn x y) := fun e => hzx (kt_inj hz' hxyw e)
              rw [Go.Maps.has_put_other hne2, HD.out z hz']
              simp [hzx]
          have hBa : Below wr.heap.size wr (wr.alloc (.cells #[.int .i64 y.f0, .int .i64 y.f1] 28)) := (Below.refl _ _).alloc (Nat.le_refl _) _
          have hB5 : Below wr.heap.size wr w5 := below_step hBa HB5.out
          have hs5 := hB5.size
          have hs6 := hgrow6.size
          have hO6 : Kd.R k28 28 w6 w.heap.size (fun k_ => k_ ≠ w.heap.size) (.slice (some ad) t.length c1) t := Kd.R_grown (Kd.R_below HO.out hB5) hgrow6 (fun k hk e => hk (Option.some.inj e))
          have hB6 : Below w.heap.size w w6 := (below_step HB.out hB5).grown hgrow6 (by have := HS.out; omega) (fun k hk => by cases hk; exact Nat.le_refl _)
          have hK6 : w6.heap[gb]? = some (.cells #[.int .i64 x.f0, .int .i64 x.f1] 28 (0, 0)) := by
            rw [hgrow6.block gb (by omega) (fun e => by have := Option.some.inj e; omega), hB5.block gb hsq]
            exact HK.out
          go_roundg (t.length - i - (j + 1))
          case measure => omega
          case rel => exact ⟨j + 1, _, by first | rfl | (simp; done) | omega, by omega, by omega, ⟨by rw [← Nat.add_assoc]; exact hown6⟩, ⟨hD6⟩, ⟨hO6⟩, ⟨hB6⟩, ⟨hK6⟩, by omega⟩
        · have hje : j = t.length - i := by omega
          subst hje
          have hzj : ¬ (((t.length - i : Nat) : Int) < ((t.length - i : Nat) : Int)) := by omega
          have hrl : (hrow t i).length = t.length - i := by rw [hrow0.out, List.length_map, List.length_drop]
          have hDn : ∀ z, wfT z → (Go.Maps.has D2 (kt z) = true ↔ z ∈ hjTo t (i + 1)) := fun z hz' => by
            rw [HD.out z hz', hjTo_succ, List.take_of_length_le (by omega)]
          go_wp2
          go_roundg (t.length - (i + 1))
          case measure => omega
          case rel => exact ⟨i + 1, _, by first | rfl | (simp; done) | omega, by omega, by omega, ⟨HM.out.mono (by omega)⟩, ⟨hDn⟩, HO, HB, by omega⟩
    · have hil : i = t.length := by omega
      subst hil
      have hlt' : ¬ ((t.length : Int) < (t.length : Int)) := by omega
      have hacc : ∀ z ∈ hj t, wfT z := fun z hz => by
        obtain ⟨a, ha, b, hb, rfl⟩ := hj_sub hz
        exact wf_jn (HW.out a ha) (HW.out b hb)
      have HACC := Aside0.mk hacc
      have HD1 : Aside0 (∀ z, wfT z → (Go.Maps.has D (kt z) = true ↔ z ∈ hj t)) := ⟨HD.out⟩
      have hT : hj (uq l0) = hj t := by rw [HT.out]
      have HTT := Aside0.mk hT
      clear HD hacc hT
      go_wp2_with (go_at_call 23; refine (all_own w.heap.size (t.length * 1048576) D (hj t) _ HM.out HD1.out HACC.out (by omega)).mono ?_; rintro e w' ⟨v, rfl, ho, hb⟩)
      go_ret
      exact ⟨_, rfl, by rw [HTT.out]; exact Kd.R_lower ho HB.out.size, below_step HB.out hb⟩
def wfB (x : S28) : Bool := (Lit.int .i64 x.f0).wf && (Lit.int .i64 x.f1).wf
theorem wfB_iff {x : S28} : wfB x = true ↔ wfT x := by unfold wfB wfT; rw [Bool.and_eq_true]
def okL (l : List S28) : Bool := decide (l.length ≤ 1048576) && l.all wfB
theorem okL_iff {l : List S28} : okL l = true ↔ l.length ≤ 1048576 ∧ ∀ x ∈ l, wfT x := by
  unfold okL
  rw [Bool.and_eq_true, decide_eq_true_eq, List.all_eq_true]
  exact ⟨fun h => ⟨h.1, fun x hx => wfB_iff.1 (h.2 x hx)⟩, fun h => ⟨h.1, fun x hx => wfB_iff.2 (h.2 x hx)⟩⟩
/-! ### moment_Closure: function 11 -/
def moment_Closure.f (k : Nat) (l0 : List (S28)) : Option ((List (S28))) := if okL l0 = true then some (uq (hj (uq l0))) else none
theorem moment_Closure.mono : ∀ a0 k, LeO (moment_Closure.f k a0) (moment_Closure.f (k + 1) a0) := fun _ _ => LeO.refl _
theorem moment_Closure.calls (k : Nat) (A0 : Option Addr) (c0 : Nat) (l0 : List (S28)) (r : List (S28)) (w : World) (hr0 : Kd.C k28 w A0 l0.length l0) (hc0 : l0.length ≤ c0) (h : moment_Closure.f k l0 = some r) :
    Calls Try.prog 11 #[.slice A0 l0.length c0] w fun e w' => ∃ v0_ : Value, e = .returned (v0_) ∧ Kd.R k28 28 w' w.heap.size (fun _ => True) v0_ r ∧ Below w.heap.size w w' := by
  unfold moment_Closure.f at h
  split at h
  · rename_i ho
    obtain rfl := Option.some.inj h
    exact closure_own A0 c0 l0 w hr0 (okL_iff.1 ho).2 (okL_iff.1 ho).1
  · cases h

/-! ### runnellaw04_live: function 7 -/
def runnellaw04_live.f (k : Nat)  : Option (Bool) := (moment_Closure.f k (([(⟨1, 0⟩ : S28), (⟨0, 2⟩ : S28)] : List (S28)))).bind fun t172 => ((runnelref04_Same.f k t172 (([(⟨0, 2⟩ : S28), (⟨1, 0⟩ : S28), (⟨1, 2⟩ : S28)] : List (S28)))).bind fun t178 => (some t178))
theorem runnellaw04_live.mono : ∀ k, LeO (runnellaw04_live.f k ) (runnellaw04_live.f (k + 1) ) := by
  intro  k
  unfold runnellaw04_live.f
  repeat' first
      | (with_reducible exact moment_Closure.mono _ _)
      | (with_reducible exact runnelref04_Same.mono _ _ _)
      | (with_reducible exact LeO.refl _)
      | (with_reducible exact LeO.none _)
      | (with_reducible refine LeO.ite ?_ ?_)
      | (with_reducible refine LeO.bind ?_ (fun _ => ?_))
      | exact moment_Closure.mono _ _
      | exact runnelref04_Same.mono _ _ _
      | exact LeO.none _
      | refine LeO.ite ?_ ?_
      | refine LeO.bind ?_ (fun _ => ?_)
set_option maxHeartbeats 8000000 in
set_option maxRecDepth 100000 in
theorem runnellaw04_live.calls (k : Nat)  (r : Bool) (w : World) (h : runnellaw04_live.f k  = some r) :
    Calls Try.prog 7 #[] w fun e w' => e = .returned (.bool r) ∧ Below w.heap.size w w' := by
  have hu28 := Try.underlying28
  have HB := Aside0.mk (Below.refl w.heap.size w)
  have H : ((moment_Closure.f k (([(⟨1, 0⟩ : S28), (⟨0, 2⟩ : S28)] : List (S28)))).bind fun t172 => ((runnelref04_Same.f k t172 (([(⟨0, 2⟩ : S28), (⟨1, 0⟩ : S28), (⟨1, 2⟩ : S28)] : List (S28)))).bind fun t178 => (some t178))) = some r := h
  clear h
  obtain ⟨y169, hy169⟩ : ∃ y_ : List (S28), y_ = (([(⟨1, 0⟩ : S28), (⟨0, 2⟩ : S28)] : List (S28))) := ⟨_, rfl⟩
  replace H : ((moment_Closure.f k y169).bind fun t172 => ((runnelref04_Same.f k t172 (([(⟨0, 2⟩ : S28), (⟨1, 0⟩ : S28), (⟨1, 2⟩ : S28)] : List (S28)))).bind fun t178 => (some t178))) = some r := by first | (rw [hy169]; with_reducible exact H) | (have H2_ := (Option.bind_some _ _).symm.trans H; rw [hy169]; with_reducible exact H2_) | (have H2_ := (Option.bind_some _ _).symm.trans H; with_reducible exact H2_) | with_reducible exact H | (rw [hy169]; exact H) | exact H
  have Ny169 := Aside0.mk hy169
  clear hy169
  replace H := Option.bind_eq_some_iff.mp H
  obtain ⟨t172, A10, H⟩ := H
  replace H : ((runnelref04_Same.f k t172 (([(⟨0, 2⟩ : S28), (⟨1, 0⟩ : S28), (⟨1, 2⟩ : S28)] : List (S28)))).bind fun t178 => (some t178)) = some r := H
  have A1 := Aside0.mk A10
  clear A10
  obtain ⟨y175, hy175⟩ : ∃ y_ : List (S28), y_ = (([(⟨0, 2⟩ : S28), (⟨1, 0⟩ : S28), (⟨1, 2⟩ : S28)] : List (S28))) := ⟨_, rfl⟩
  replace H : ((runnelref04_Same.f k t172 y175).bind fun t178 => (some t178)) = some r := by first | (rw [hy175]; with_reducible exact H) | (have H2_ := (Option.bind_some _ _).symm.trans H; rw [hy175]; with_reducible exact H2_) | (have H2_ := (Option.bind_some _ _).symm.trans H; with_reducible exact H2_) | with_reducible exact H | (rw [hy175]; exact H) | exact H
  have Ny175 := Aside0.mk hy175
  clear hy175
  replace H := Option.bind_eq_some_iff.mp H
  obtain ⟨t178, A20, H⟩ := H
  replace H : (some t178) = some r := H
  have A2 := Aside0.mk A20
  clear A20
  obtain rfl := Option.some.inj H
  go_enter Try.func7, Try.ntmps7
  go_wp2_with (first | ((with_reducible refine gate_dst (N := 3) rfl ?_); refine Kd.R_lit k28 _ 28 ?hg (N := 3) ?hd (xs := ([(⟨1, 0⟩ : S28), (⟨0, 2⟩ : S28)] : List (S28))) (inner := [.int .i64 1, .int .i64 0, .int .i64 0, .int .i64 2]) (ok := fun _ => True) (okp := fun _ => True) ?hr ?hp (fun _ hk => hk) trivial (Below.refl _ _) (Nat.le_refl _) (by simp) ?_; (case hd => rfl); (case hg => rfl); (case hr => first | (go_simp; done) | (go_simp; rfl)); (case hp => exact (Reps.c2 (show Kd.M k28 _ _ _ (⟨1, 0⟩ : S28) [.int .i64 1, .int .i64 0] from (k28_mkM _ _ _ (⟨1, 0⟩ : S28) )) (Reps.c2 (show Kd.M k28 _ _ _ (⟨0, 2⟩ : S28) [.int .i64 0, .int .i64 2] from (k28_mkM _ _ _ (⟨0, 2⟩ : S28) )) (Reps.none _ _)))); intro v170 w3 ho4 hb hg_ hnew_; clear hg_ hnew_; (first | rw [← Ny169.out] at ho4 | (simp only [Int.reduceToNat] at ho4; rw [← Ny169.out] at ho4)); have n0_ := Aside0.mk (Kd.R_lower ho4 (below_size (by repeat (first | (with_reducible first | exact HB.out | apply below_alloc | apply pw_below_drewN | apply below_drew1) | exact HB.out)))); have n1_ := Aside0.mk (below_step (by repeat (first | (with_reducible first | exact HB.out | apply below_alloc | apply pw_below_drewN | apply below_drew1) | exact HB.out)) hb); clear HB; have HO171 := n0_; have HB := n1_; clear n0_ n1_; clear hb ho4; obtain ⟨Ao5, co5, eo5⟩ := Kd.R_slice HO171.out; subst eo5) | ((with_reducible refine gate_callee (f := 11) rfl ?_); refine goesL_ (some 4) rfl rfl Try.func11 (by kernel_rfl) rfl #[.slice Ao5 y169.length co5] rfl (by (try simp only [List.map_toArray, List.map_cons, List.map_nil]); first | done | rfl | (simp only [List.length_drop, List.length_take]; rfl)) ?_; (with_reducible refine (moment_Closure.calls k _ _ y169 t172 _ ?side1 ?side2 A1.out).mono ?_); (case side1 => repeat (first | exact (Kd.R_reads' HO171.out).2.2 | (with_reducible refine Kd.C_alloc ?_ _) | (with_reducible refine Kd.C_drewN ?_ _) | (with_reducible refine Kd.C_drew ?_))); (case side2 => exact (Kd.R_reads' HO171.out).2.1); rintro e w6 ⟨v173, rfl, ho0, hb⟩; refine ⟨_, rfl, ?_⟩; have n0_ := Aside0.mk (Kd.R_elder' (by (with_reducible repeat (first | apply Kd.R_alloc | apply Kd.R_drewN | apply Kd.R_drew)); exact HO171.out) (Kd.R_base ho0) hb); have n1_ := Aside0.mk (Kd.R_lower (Kd.R_new' ho0 (Kd.R_lt (by (with_reducible repeat (first | apply Kd.R_alloc | apply Kd.R_drewN | apply Kd.R_drew)); exact HO171.out))) (below_size (by repeat (first | (with_reducible first | exact HB.out | apply below_alloc | apply pw_below_drewN | apply below_drew1) | exact HB.out)))); have n2_ := Aside0.mk (below_step (by repeat (first | (with_reducible first | exact HB.out | apply below_alloc | apply pw_below_drewN | apply below_drew1) | exact HB.out)) hb); clear HO171; clear HB; have HO171 := n0_; have HO174 := n1_; have HB := n2_; clear n0_ n1_ n2_; (try clear hb); (try clear hb2); (try clear hk); (try clear hi); (try clear ho0)) | ((with_reducible refine gate_dst (N := 8) rfl ?_); refine Kd.R_lit k28 _ 28 ?hg (N := 8) ?hd (xs := ([(⟨0, 2⟩ : S28), (⟨1, 0⟩ : S28), (⟨1, 2⟩ : S28)] : List (S28))) (inner := [.int .i64 0, .int .i64 2, .int .i64 1, .int .i64 0, .int .i64 1, .int .i64 2]) (ok := fun _ => True) (okp := fun _ => True) ?hr ?hp (fun _ hk => hk) trivial (Below.refl _ _) (Nat.le_refl _) (by simp) ?_; (case hd => rfl); (case hg => rfl); (case hr => first | (go_simp; done) | (go_simp; rfl)); (case hp => exact (Reps.c2 (show Kd.M k28 _ _ _ (⟨0, 2⟩ : S28) [.int .i64 0, .int .i64 2] from (k28_mkM _ _ _ (⟨0, 2⟩ : S28) )) (Reps.c2 (show Kd.M k28 _ _ _ (⟨1, 0⟩ : S28) [.int .i64 1, .int .i64 0] from (k28_mkM _ _ _ (⟨1, 0⟩ : S28) )) (Reps.c2 (show Kd.M k28 _ _ _ (⟨1, 2⟩ : S28) [.int .i64 1, .int .i64 2] from (k28_mkM _ _ _ (⟨1, 2⟩ : S28) )) (Reps.none _ _))))); intro v176 w7 ho8 hb hg_ hnew_; clear hg_ hnew_; (first | rw [← Ny175.out] at ho8 | (simp only [Int.reduceToNat] at ho8; rw [← Ny175.out] at ho8)); have n0_ := Aside0.mk (Kd.R_elder' (by (with_reducible repeat (first | apply Kd.R_alloc | apply Kd.R_drewN | apply Kd.R_drew)); exact HO171.out) (Kd.R_base ho8) hb); have n1_ := Aside0.mk (Kd.R_elder' (by (with_reducible repeat (first | apply Kd.R_alloc | apply Kd.R_drewN | apply Kd.R_drew)); exact HO174.out) (Kd.R_base ho8) hb); have n2_ := Aside0.mk (Kd.R_lower (Kd.R_new' (Kd.R_new' ho8 (Kd.R_lt (by (with_reducible repeat (first | apply Kd.R_alloc | apply Kd.R_drewN | apply Kd.R_drew)); exact HO171.out))) (Kd.R_lt (by (with_reducible repeat (first | apply Kd.R_alloc | apply Kd.R_drewN | apply Kd.R_drew)); exact HO174.out))) (below_size (by repeat (first | (with_reducible first | exact HB.out | apply below_alloc | apply pw_below_drewN | apply below_drew1) | exact HB.out)))); have n3_ := Aside0.mk (below_step (by repeat (first | (with_reducible first | exact HB.out | apply below_alloc | apply pw_below_drewN | apply below_drew1) | exact HB.out)) hb); clear HO171; clear HO174; clear HB; have HO171 := n0_; have HO174 := n1_; have HO177 := n2_; have HB := n3_; clear n0_ n1_ n2_ n3_; clear hb ho8; obtain ⟨Ao9, co9, eo9⟩ := Kd.R_slice HO174.out; subst eo9; obtain ⟨Ao10, co10, eo10⟩ := Kd.R_slice HO177.out; subst eo10) | ((with_reducible refine gate_callee (f := 8) rfl ?_); refine goesL_ (some 9) rfl rfl Try.func8 (by kernel_rfl) rfl #[.slice Ao9 t172.length co9, .slice Ao10 y175.length co10] rfl (by (try simp only [List.map_toArray, List.map_cons, List.map_nil]); first | done | rfl | (simp only [List.length_drop, List.length_take]; rfl)) ?_; (with_reducible refine (runnelref04_Same.calls k _ _ t172 _ _ y175 t178 _ ?side1 ?side2 ?side3 ?side4 A2.out).mono ?_); (case side1 => repeat (first | exact (Kd.R_reads' HO174.out).2.2 | (with_reducible refine Kd.C_alloc ?_ _) | (with_reducible refine Kd.C_drewN ?_ _) | (with_reducible refine Kd.C_drew ?_))); (case side2 => exact (Kd.R_reads' HO174.out).2.1); (case side3 => repeat (first | exact (Kd.R_reads' HO177.out).2.2 | (with_reducible refine Kd.C_alloc ?_ _) | (with_reducible refine Kd.C_drewN ?_ _) | (with_reducible refine Kd.C_drew ?_))); (case side4 => exact (Kd.R_reads' HO177.out).2.1); rintro e w' ⟨rfl, ⟨nd, rfl⟩⟩; refine ⟨_, rfl, ?_⟩))
  go_ret
  exact ⟨by first | rfl | (simp [errW_none, errW_some] <;> rfl) | (simp [*, errW_none, errW_some] <;> rfl), by repeat (first | (with_reducible first | exact HB.out | apply below_alloc | apply pw_below_drewN | apply below_drew1) | exact HB.out)⟩

/-! ### moment_LessEq: function 13 -/
def moment_LessEq.f (a0_0 : Int) (a0_1 : Int) (a1_0 : Int) (a1_1 : Int) : Option (Bool) := if a0_0 ≤ a1_0 then (some (decide (a0_1 ≤ a1_1))) else (some false)
set_option maxHeartbeats 8000000 in
set_option maxRecDepth 100000 in
theorem moment_LessEq.calls (a0_0 : Int) (a0_1 : Int) (a1_0 : Int) (a1_1 : Int) (r : Bool) (w : World) (h : moment_LessEq.f a0_0 a0_1 a1_0 a1_1 = some r) :
    Calls Try.prog 13 #[.agg #[.int .i64 a0_0, .int .i64 a0_1], .agg #[.int .i64 a1_0, .int .i64 a1_1]] w fun e w' => e = .returned (.bool r) ∧ Below w.heap.size w w' := by
  have hu28 := Try.underlying28
  have HB := Aside0.mk (Below.refl w.heap.size w)
  have H : (if a0_0 ≤ a1_0 then (some (decide (a0_1 ≤ a1_1))) else (some false)) = some r := h
  clear h
  by_cases c3 : a0_0 ≤ a1_0
  · rw [if_pos c3] at H
    have c3b0 : decide (a0_0 ≤ a1_0) = true := decide_eq_true c3
    clear c3
    obtain rfl := Option.some.inj H
    go_enter Try.func13, Try.ntmps13
    go_wp2_with (first | ((with_reducible refine gate_dst (N := 2) rfl ?_); refine box_event ?hg (N := 2) ?hd (cs := #[.int .i64 a0_0, .int .i64 a0_1]) (t := 28) ?hr ?_; (case hd => rfl); (case hg => rfl); (case hr => first | (go_simp; done) | (go_simp; rfl)); intro gb179 hg w4 hbox hb; have n0_ := Aside0.mk (below_step (by repeat (first | (with_reducible first | exact HB.out | apply below_alloc | apply pw_below_drewN | apply below_drew1) | exact HB.out)) hb); have n1_ := Aside0.mk (hbox); have n2_ := Aside0.mk ((by rw [hg]; exact (below_size (by repeat (first | (with_reducible first | exact HB.out | apply below_alloc | apply pw_below_drewN | apply below_drew1) | exact HB.out))) : w.heap.size ≤ gb179)); have n3_ := Aside0.mk ((by rw [hg]; exact (below_size (by repeat (first | (with_reducible first | exact HB.out | apply below_alloc | apply pw_below_drewN | apply below_drew1) | exact HB.out))) : w.heap.size ≤ gb179)); clear HB; have HB := n0_; have BK179 := n1_; have GW179 := n2_; have GE179 := n3_; clear n0_ n1_ n2_ n3_; clear hb hbox hg) | ((with_reducible refine gate_dst (N := 3) rfl ?_); refine box_event ?hg (N := 3) ?hd (cs := #[.int .i64 a1_0, .int .i64 a1_1]) (t := 28) ?hr ?_; (case hd => rfl); (case hg => rfl); (case hr => first | (go_simp; done) | (go_simp; rfl)); intro gb180 hg w5 hbox hb; have n0_ := Aside0.mk (blk_below (g := gb179) (o := .cells #[.int .i64 a0_0, .int .i64 a0_1] 28 (0, 0)) (by (with_reducible repeat (first | refine blk_drewN ?_ _ | refine blk_drew ?_ | refine blk_alloc ?_ _)); exact BK179.out) hb); have n1_ := Aside0.mk (below_step (by repeat (first | (with_reducible first | exact HB.out | apply below_alloc | apply pw_below_drewN | apply below_drew1 | refine below_set ?_ GE179.out) | exact HB.out)) hb); have n2_ := Aside0.mk (hbox); have n3_ := Aside0.mk ((by rw [hg]; exact (below_size (by repeat (first | (with_reducible first | exact HB.out | apply below_alloc | apply pw_below_drewN | apply below_drew1 | refine below_set ?_ GE179.out) | exact HB.out))) : w.heap.size ≤ gb180)); have n4_ := Aside0.mk ((by rw [hg]; exact (below_size (by repeat (first | (with_reducible first | exact HB.out | apply below_alloc | apply pw_below_drewN | apply below_drew1 | refine below_set ?_ GE179.out) | exact HB.out))) : w.heap.size ≤ gb180)); have n5_ := Aside0.mk ((by rw [hg]; exact Nat.ne_of_lt (blk_lt (g := gb179) (o := .cells #[.int .i64 a0_0, .int .i64 a0_1] 28 (0, 0)) (by (with_reducible repeat (first | refine blk_drewN ?_ _ | refine blk_drew ?_ | refine blk_alloc ?_ _)); exact BK179.out)) : gb179 ≠ gb180)); have n6_ := Aside0.mk ((by rw [hg]; exact Nat.ne_of_gt (blk_lt (g := gb179) (o := .cells #[.int .i64 a0_0, .int .i64 a0_1] 28 (0, 0)) (by (with_reducible repeat (first | refine blk_drewN ?_ _ | refine blk_drew ?_ | refine blk_alloc ?_ _)); exact BK179.out)) : gb180 ≠ gb179)); clear BK179; clear HB; have BK179 := n0_; have HB := n1_; have BK180 := n2_; have GW180 := n3_; have GE180 := n4_; have NB179_180 := n5_; have NB180_179 := n6_; clear n0_ n1_ n2_ n3_ n4_ n5_ n6_; clear hb hbox hg; have hnb6 := NB179_180.out; have hnc6 := NB180_179.out; have hcz7_0 : w5.cell? ⟨gb179, 0, none⟩ = some (.int .i64 a0_0) := (blk_cell BK179.out 0).trans rfl; have hcz7_1 : w5.cell? ⟨gb179, 1, none⟩ = some (.int .i64 a0_1) := (blk_cell BK179.out 1).trans rfl; have hfz7_0 := blk_frozen BK179.out 0; have hfz7_1 := blk_frozen BK179.out 1; have hcz8_0 : w5.cell? ⟨gb180, 0, none⟩ = some (.int .i64 a1_0) := (blk_cell BK180.out 0).trans rfl; have hcz8_1 : w5.cell? ⟨gb180, 1, none⟩ = some (.int .i64 a1_1) := (blk_cell BK180.out 1).trans rfl; have hfz8_0 := blk_frozen BK180.out 0; have hfz8_1 := blk_frozen BK180.out 1))
    go_ret
    exact ⟨by first | rfl | (simp [errW_none, errW_some] <;> rfl) | (simp [*, errW_none, errW_some] <;> rfl), by repeat (first | (with_reducible first | exact HB.out | apply below_alloc | apply pw_below_drewN | apply below_drew1 | refine below_set ?_ GE179.out | refine below_set ?_ GE180.out) | exact HB.out)⟩
  · rw [if_neg c3] at H
    have c3b0 : decide (a0_0 ≤ a1_0) = false := decide_eq_false c3
    clear c3
    obtain rfl := Option.some.inj H
    go_enter Try.func13, Try.ntmps13
    go_wp2_with (first | ((with_reducible refine gate_dst (N := 2) rfl ?_); refine box_event ?hg (N := 2) ?hd (cs := #[.int .i64 a0_0, .int .i64 a0_1]) (t := 28) ?hr ?_; (case hd => rfl); (case hg => rfl); (case hr => first | (go_simp; done) | (go_simp; rfl)); intro gb179 hg w9 hbox hb; have n0_ := Aside0.mk (below_step (by repeat (first | (with_reducible first | exact HB.out | apply below_alloc | apply pw_below_drewN | apply below_drew1) | exact HB.out)) hb); have n1_ := Aside0.mk (hbox); have n2_ := Aside0.mk ((by rw [hg]; exact (below_size (by repeat (first | (with_reducible first | exact HB.out | apply below_alloc | apply pw_below_drewN | apply below_drew1) | exact HB.out))) : w.heap.size ≤ gb179)); have n3_ := Aside0.mk ((by rw [hg]; exact (below_size (by repeat (first | (with_reducible first | exact HB.out | apply below_alloc | apply pw_below_drewN | apply below_drew1) | exact HB.out))) : w.heap.size ≤ gb179)); clear HB; have HB := n0_; have BK179 := n1_; have GW179 := n2_; have GE179 := n3_; clear n0_ n1_ n2_ n3_; clear hb hbox hg) | ((with_reducible refine gate_dst (N := 3) rfl ?_); refine box_event ?hg (N := 3) ?hd (cs := #[.int .i64 a1_0, .int .i64 a1_1]) (t := 28) ?hr ?_; (case hd => rfl); (case hg => rfl); (case hr => first | (go_simp; done) | (go_simp; rfl)); intro gb180 hg w10 hbox hb; have n0_ := Aside0.mk (blk_below (g := gb179) (o := .cells #[.int .i64 a0_0, .int .i64 a0_1] 28 (0, 0)) (by (with_reducible repeat (first | refine blk_drewN ?_ _ | refine blk_drew ?_ | refine blk_alloc ?_ _)); exact BK179.out) hb); have n1_ := Aside0.mk (below_step (by repeat (first | (with_reducible first | exact HB.out | apply below_alloc | apply pw_below_drewN | apply below_drew1 | refine below_set ?_ GE179.out) | exact HB.out)) hb); have n2_ := Aside0.mk (hbox); have n3_ := Aside0.mk ((by rw [hg]; exact (below_size (by repeat (first | (with_reducible first | exact HB.out | apply below_alloc | apply pw_below_drewN | apply below_drew1 | refine below_set ?_ GE179.out) | exact HB.out))) : w.heap.size ≤ gb180)); have n4_ := Aside0.mk ((by rw [hg]; exact (below_size (by repeat (first | (with_reducible first | exact HB.out | apply below_alloc | apply pw_below_drewN | apply below_drew1 | refine below_set ?_ GE179.out) | exact HB.out))) : w.heap.size ≤ gb180)); have n5_ := Aside0.mk ((by rw [hg]; exact Nat.ne_of_lt (blk_lt (g := gb179) (o := .cells #[.int .i64 a0_0, .int .i64 a0_1] 28 (0, 0)) (by (with_reducible repeat (first | refine blk_drewN ?_ _ | refine blk_drew ?_ | refine blk_alloc ?_ _)); exact BK179.out)) : gb179 ≠ gb180)); have n6_ := Aside0.mk ((by rw [hg]; exact Nat.ne_of_gt (blk_lt (g := gb179) (o := .cells #[.int .i64 a0_0, .int .i64 a0_1] 28 (0, 0)) (by (with_reducible repeat (first | refine blk_drewN ?_ _ | refine blk_drew ?_ | refine blk_alloc ?_ _)); exact BK179.out)) : gb180 ≠ gb179)); clear BK179; clear HB; have BK179 := n0_; have HB := n1_; have BK180 := n2_; have GW180 := n3_; have GE180 := n4_; have NB179_180 := n5_; have NB180_179 := n6_; clear n0_ n1_ n2_ n3_ n4_ n5_ n6_; clear hb hbox hg; have hnb11 := NB179_180.out; have hnc11 := NB180_179.out; have hcz12_0 : w10.cell? ⟨gb179, 0, none⟩ = some (.int .i64 a0_0) := (blk_cell BK179.out 0).trans rfl; have hcz12_1 : w10.cell? ⟨gb179, 1, none⟩ = some (.int .i64 a0_1) := (blk_cell BK179.out 1).trans rfl; have hfz12_0 := blk_frozen BK179.out 0; have hfz12_1 := blk_frozen BK179.out 1; have hcz13_0 : w10.cell? ⟨gb180, 0, none⟩ = some (.int .i64 a1_0) := (blk_cell BK180.out 0).trans rfl; have hcz13_1 : w10.cell? ⟨gb180, 1, none⟩ = some (.int .i64 a1_1) := (blk_cell BK180.out 1).trans rfl; have hfz13_0 := blk_frozen BK180.out 0; have hfz13_1 := blk_frozen BK180.out 1))
    go_ret
    exact ⟨by first | rfl | (simp [errW_none, errW_some] <;> rfl) | (simp [*, errW_none, errW_some] <;> rfl), by repeat (first | (with_reducible first | exact HB.out | apply below_alloc | apply pw_below_drewN | apply below_drew1 | refine below_set ?_ GE179.out | refine below_set ?_ GE180.out) | exact HB.out)⟩

/-! ### moment_Meet: function 15 -/
def moment_Meet.f (a0_0 : Int) (a0_1 : Int) (a1_0 : Int) (a1_1 : Int) : Option (Int × Int) := some (mn a0_0 a1_0, mn a0_1 a1_1)
set_option maxHeartbeats 8000000 in
set_option maxRecDepth 100000 in
theorem moment_Meet.calls (a0_0 : Int) (a0_1 : Int) (a1_0 : Int) (a1_1 : Int) (r1 : Int) (r2 : Int) (w : World) (h : moment_Meet.f a0_0 a0_1 a1_0 a1_1 = some (r1, r2)) :
    Calls Try.prog 15 #[.agg #[.int .i64 a0_0, .int .i64 a0_1], .agg #[.int .i64 a1_0, .int .i64 a1_1]] w fun e w' => e = .returned (.agg #[.int .i64 r1, .int .i64 r2]) ∧ Below w.heap.size w w' := by
  have hu28 := Try.underlying28
  have HB := Aside0.mk (Below.refl w.heap.size w)
  have H : (some (mn a0_0 a1_0, mn a0_1 a1_1)) = some (r1, r2) := h
  clear h
  obtain ⟨ji3, hji3⟩ : ∃ j_ : Int, (mn a0_0 a1_0) = j_ := ⟨_, rfl⟩
  replace H : (some (ji3, mn a0_1 a1_1)) = some (r1, r2) := by first | (rw [hji3] at H; exact H) | (simp only [hji3] at H ⊢; exact H)
  have hji3_ : (if a1_0 < a0_0 then a1_0 else a0_0) = ji3 := hji3
  obtain ⟨ji4, hji4⟩ : ∃ j_ : Int, (mn a0_1 a1_1) = j_ := ⟨_, rfl⟩
  replace H : (some (ji3, ji4)) = some (r1, r2) := by first | (rw [hji4] at H; exact H) | (simp only [hji4] at H ⊢; exact H)
  have hji4_ : (if a1_1 < a0_1 then a1_1 else a0_1) = ji4 := hji4
  simp only [Option.some.injEq, Prod.mk.injEq] at H
  obtain ⟨rfl, rfl⟩ := H
  go_enter Try.func15, Try.ntmps15
  go_wp2_with (first | ((with_reducible refine gate_dst (N := 2) rfl ?_); refine box_event ?hg (N := 2) ?hd (cs := #[.int .i64 a0_0, .int .i64 a0_1]) (t := 28) ?hr ?_; (case hd => rfl); (case hg => rfl); (case hr => first | (go_simp; done) | (go_simp; rfl)); intro gb181 hg w5 hbox hb; have n0_ := Aside0.mk (below_step (by repeat (first | (with_reducible first | exact HB.out | apply below_alloc | apply pw_below_drewN | apply below_drew1) | exact HB.out)) hb); have n1_ := Aside0.mk (hbox); have n2_ := Aside0.mk ((by rw [hg]; exact (below_size (by repeat (first | (with_reducible first | exact HB.out | apply below_alloc | apply pw_below_drewN | apply below_drew1) | exact HB.out))) : w.heap.size ≤ gb181)); have n3_ := Aside0.mk ((by rw [hg]; exact (below_size (by repeat (first | (with_reducible first | exact HB.out | apply below_alloc | apply pw_below_drewN | apply below_drew1) | exact HB.out))) : w.heap.size ≤ gb181)); clear HB; have HB := n0_; have BK181 := n1_; have GW181 := n2_; have GE181 := n3_; clear n0_ n1_ n2_ n3_; clear hb hbox hg) | ((with_reducible refine gate_dst (N := 3) rfl ?_); refine box_event ?hg (N := 3) ?hd (cs := #[.int .i64 a1_0, .int .i64 a1_1]) (t := 28) ?hr ?_; (case hd => rfl); (case hg => rfl); (case hr => first | (go_simp; done) | (go_simp; rfl)); intro gb182 hg w6 hbox hb; have n0_ := Aside0.mk (blk_below (g := gb181) (o := .cells #[.int .i64 a0_0, .int .i64 a0_1] 28 (0, 0)) (by (with_reducible repeat (first | refine blk_drewN ?_ _ | refine blk_drew ?_ | refine blk_alloc ?_ _)); exact BK181.out) hb); have n1_ := Aside0.mk (below_step (by repeat (first | (with_reducible first | exact HB.out | apply below_alloc | apply pw_below_drewN | apply below_drew1 | refine below_set ?_ GE181.out) | exact HB.out)) hb); have n2_ := Aside0.mk (hbox); have n3_ := Aside0.mk ((by rw [hg]; exact (below_size (by repeat (first | (with_reducible first | exact HB.out | apply below_alloc | apply pw_below_drewN | apply below_drew1 | refine below_set ?_ GE181.out) | exact HB.out))) : w.heap.size ≤ gb182)); have n4_ := Aside0.mk ((by rw [hg]; exact (below_size (by repeat (first | (with_reducible first | exact HB.out | apply below_alloc | apply pw_below_drewN | apply below_drew1 | refine below_set ?_ GE181.out) | exact HB.out))) : w.heap.size ≤ gb182)); have n5_ := Aside0.mk ((by rw [hg]; exact Nat.ne_of_lt (blk_lt (g := gb181) (o := .cells #[.int .i64 a0_0, .int .i64 a0_1] 28 (0, 0)) (by (with_reducible repeat (first | refine blk_drewN ?_ _ | refine blk_drew ?_ | refine blk_alloc ?_ _)); exact BK181.out)) : gb181 ≠ gb182)); have n6_ := Aside0.mk ((by rw [hg]; exact Nat.ne_of_gt (blk_lt (g := gb181) (o := .cells #[.int .i64 a0_0, .int .i64 a0_1] 28 (0, 0)) (by (with_reducible repeat (first | refine blk_drewN ?_ _ | refine blk_drew ?_ | refine blk_alloc ?_ _)); exact BK181.out)) : gb182 ≠ gb181)); clear BK181; clear HB; have BK181 := n0_; have HB := n1_; have BK182 := n2_; have GW182 := n3_; have GE182 := n4_; have NB181_182 := n5_; have NB182_181 := n6_; clear n0_ n1_ n2_ n3_ n4_ n5_ n6_; clear hb hbox hg) | ((with_reducible refine gate_dst (N := 4) rfl ?_); refine box_event ?hg (N := 4) ?hd (cs := #[.int .i64 0, .int .i64 0]) (t := 28) ?hr ?_; (case hd => rfl); (case hg => rfl); (case hr => first | (go_simp; done) | (go_simp; rfl)); intro gb183 hg w7 hbox hb; have n0_ := Aside0.mk (blk_below (g := gb181) (o := .cells #[.int .i64 a0_0, .int .i64 a0_1] 28 (0, 0)) (by (with_reducible repeat (first | refine blk_drewN ?_ _ | refine blk_drew ?_ | refine blk_alloc ?_ _)); exact BK181.out) hb); have n1_ := Aside0.mk (blk_below (g := gb182) (o := .cells #[.int .i64 a1_0, .int .i64 a1_1] 28 (0, 0)) (by (with_reducible repeat (first | refine blk_drewN ?_ _ | refine blk_drew ?_ | refine blk_alloc ?_ _)); exact BK182.out) hb); have n2_ := Aside0.mk (below_step (by repeat (first | (with_reducible first | exact HB.out | apply below_alloc | apply pw_below_drewN | apply below_drew1 | refine below_set ?_ GE181.out | refine below_set ?_ GE182.out) | exact HB.out)) hb); have n3_ := Aside0.mk (hbox); have n4_ := Aside0.mk ((by rw [hg]; exact (below_size (by repeat (first | (with_reducible first | exact HB.out | apply below_alloc | apply pw_below_drewN | apply below_drew1 | refine below_set ?_ GE181.out | refine below_set ?_ GE182.out) | exact HB.out))) : w.heap.size ≤ gb183)); have n5_ := Aside0.mk ((by rw [hg]; exact (below_size (by repeat (first | (with_reducible first | exact HB.out | apply below_alloc | apply pw_below_drewN | apply below_drew1 | refine below_set ?_ GE181.out | refine below_set ?_ GE182.out) | exact HB.out))) : w.heap.size ≤ gb183)); have n6_ := Aside0.mk ((by rw [hg]; exact Nat.ne_of_lt (blk_lt (g := gb181) (o := .cells #[.int .i64 a0_0, .int .i64 a0_1] 28 (0, 0)) (by (with_reducible repeat (first | refine blk_drewN ?_ _ | refine blk_drew ?_ | refine blk_alloc ?_ _)); exact BK181.out)) : gb181 ≠ gb183)); have n7_ := Aside0.mk ((by rw [hg]; exact Nat.ne_of_gt (blk_lt (g := gb181) (o := .cells #[.int .i64 a0_0, .int .i64 a0_1] 28 (0, 0)) (by (with_reducible repeat (first | refine blk_drewN ?_ _ | refine blk_drew ?_ | refine blk_alloc ?_ _)); exact BK181.out)) : gb183 ≠ gb181)); have n8_ := Aside0.mk ((by rw [hg]; exact Nat.ne_of_lt (blk_lt (g := gb182) (o := .cells #[.int .i64 a1_0, .int .i64 a1_1] 28 (0, 0)) (by (with_reducible repeat (first | refine blk_drewN ?_ _ | refine blk_drew ?_ | refine blk_alloc ?_ _)); exact BK182.out)) : gb182 ≠ gb183)); have n9_ := Aside0.mk ((by rw [hg]; exact Nat.ne_of_gt (blk_lt (g := gb182) (o := .cells #[.int .i64 a1_0, .int .i64 a1_1] 28 (0, 0)) (by (with_reducible repeat (first | refine blk_drewN ?_ _ | refine blk_drew ?_ | refine blk_alloc ?_ _)); exact BK182.out)) : gb183 ≠ gb182)); clear BK181; clear BK182; clear HB; have BK181 := n0_; have BK182 := n1_; have HB := n2_; have BK183 := n3_; have GW183 := n4_; have GE183 := n5_; have NB181_183 := n6_; have NB183_181 := n7_; have NB182_183 := n8_; have NB183_182 := n9_; clear n0_ n1_ n2_ n3_ n4_ n5_ n6_ n7_ n8_ n9_; clear hb hbox hg; have hnb8 := NB181_182.out; have hnc8 := NB182_181.out; have hnb9 := NB181_183.out; have hnc9 := NB183_181.out; have hcz10_0 : w7.cell? ⟨gb181, 0, none⟩ = some (.int .i64 a0_0) := (blk_cell BK181.out 0).trans rfl; have hcz10_1 : w7.cell? ⟨gb181, 1, none⟩ = some (.int .i64 a0_1) := (blk_cell BK181.out 1).trans rfl; have hfz10_0 := blk_frozen BK181.out 0; have hfz10_1 := blk_frozen BK181.out 1; have hnb11 := NB182_183.out; have hnc11 := NB183_182.out; have hcz12_0 : w7.cell? ⟨gb182, 0, none⟩ = some (.int .i64 a1_0) := (blk_cell BK182.out 0).trans rfl; have hcz12_1 : w7.cell? ⟨gb182, 1, none⟩ = some (.int .i64 a1_1) := (blk_cell BK182.out 1).trans rfl; have hfz12_0 := blk_frozen BK182.out 0; have hfz12_1 := blk_frozen BK182.out 1; have hcz13_0 : w7.cell? ⟨gb183, 0, none⟩ = some (.int .i64 0) := (blk_cell BK183.out 0).trans rfl; have hcz13_1 : w7.cell? ⟨gb183, 1, none⟩ = some (.int .i64 0) := (blk_cell BK183.out 1).trans rfl; have hfz13_0 := blk_frozen BK183.out 0; have hfz13_1 := blk_frozen BK183.out 1))
  refine bodyPost_ret (results_cell_row rfl _ _ gb183 28 #[.int .i64 ji3, .int .i64 ji4] (0, 0) _ rfl (by (with_reducible repeat (first | refine blk_drewN ?_ _ | refine blk_drew ?_ | refine blk_alloc ?_ _)); refine blk_put (cs := #[.int .i64 ji3, .int .i64 0]) ?_ 1 _ rfl; (with_reducible repeat (first | refine blk_drewN ?_ _ | refine blk_drew ?_ | refine blk_alloc ?_ _)); refine blk_put (cs := #[.int .i64 0, .int .i64 0]) ?_ 0 _ rfl; (with_reducible repeat (first | refine blk_drewN ?_ _ | refine blk_drew ?_ | refine blk_alloc ?_ _)); exact BK183.out) Try.underlying28 rfl (by kernel_rfl)) rfl ?_
  exact ⟨by first | rfl | (simp [errW_none, errW_some] <;> rfl) | (simp only [← hji3, ← hji4]; first | rfl | (simp [errW_none, errW_some] <;> rfl)) | (simp [*, errW_none, errW_some] <;> rfl), by repeat (first | (with_reducible first | exact HB.out | apply below_alloc | apply pw_below_drewN | apply below_drew1 | refine below_set ?_ GE181.out | refine below_set ?_ GE182.out | refine below_set ?_ GE183.out) | exact HB.out)⟩

/-! ### cmp_isNaN_int: function 30 -/
def cmp_isNaN_int.f (a0 : Int) : Option (Bool) := some (a0 != a0)
set_option maxHeartbeats 8000000 in
set_option maxRecDepth 100000 in
theorem cmp_isNaN_int.calls (a0 : Int) (r : Bool) (w : World) (h : cmp_isNaN_int.f a0 = some r) :
    Calls Try.prog 30 #[.int .i64 a0] w fun e w' => e = .returned (.bool r) ∧ Drawn0 w w' := by
  have H : (some (a0 != a0)) = some r := h
  clear h
  obtain rfl := Option.some.inj H
  go_enter Try.func30, Try.ntmps30
  go_wp2
  go_ret
  exact ⟨by first | rfl | (simp; done) | (simp [*]; done), by repeat (first | exact Drawn0.refl _ | apply Drawn0.step)⟩

/-! ### cmp_Compare_int: function 27 -/
def cmp_Compare_int.f (a0 : Int) (a1 : Int) : Option (Int) := (cmp_isNaN_int.f a0).bind fun t184 => ((cmp_isNaN_int.f a1).bind fun t185 => (if t184 = true then (if t185 = true then (some 0) else (some (-1))) else (if t185 = true then (some 1) else (if a0 < a1 then (some (-1)) else (if a0 > a1 then (some 1) else (some 0))))))
set_option maxHeartbeats 8000000 in
set_option maxRecDepth 100000 in
theorem cmp_Compare_int.calls (a0 : Int) (a1 : Int) (r : Int) (w : World) (h : cmp_Compare_int.f a0 a1 = some r) :
    Calls Try.prog 27 #[.int .i64 a0, .int .i64 a1] w fun e w' => e = .returned (.int .i64 r) ∧ Drawn0 w w' := by
  have H : ((cmp_isNaN_int.f a0).bind fun t184 => ((cmp_isNaN_int.f a1).bind fun t185 => (if t184 = true then (if t185 = true then (some 0) else (some (-1))) else (if t185 = true then (some 1) else (if a0 < a1 then (some (-1)) else (if a0 > a1 then (some 1) else (some 0))))))) = some r := h
  clear h
  replace H := Option.bind_eq_some_iff.mp H
  obtain ⟨t184, A30, H⟩ := H
  replace H : ((cmp_isNaN_int.f a1).bind fun t185 => (if t184 = true then (if t185 = true then (some 0) else (some (-1))) else (if t185 = true then (some 1) else (if a0 < a1 then (some (-1)) else (if a0 > a1 then (some 1) else (some 0)))))) = some r := H
  have A3 := Aside0.mk A30
  clear A30
  replace H := Option.bind_eq_some_iff.mp H
  obtain ⟨t185, A40, H⟩ := H
  replace H : (if t184 = true then (if t185 = true then (some 0) else (some (-1))) else (if t185 = true then (some 1) else (if a0 < a1 then (some (-1)) else (if a0 > a1 then (some 1) else (some 0))))) = some r := H
  have A4 := Aside0.mk A40
  clear A40
  by_cases c5 : t184 = true
  · subst c5
    have H1 : (if t185 = true then (some 0) else (some (-1))) = some r := by rw [if_pos rfl] at H; exact H
    clear H
    have H := H1
    clear H1
    by_cases c6 : t185 = true
    · subst c6
      have H1 : (some 0) = some r := by rw [if_pos rfl] at H; exact H
      clear H
      have H := H1
      clear H1
      obtain rfl := Option.some.inj H
      go_enter Try.func27, Try.ntmps27
      go_wp2_with (first | ((with_reducible refine gate_callee (f := 30) rfl ?_); refine goesL_ (some 8) rfl rfl Try.func30 (by kernel_rfl) rfl #[.int .i64 a0] rfl (by (try simp only [List.map_toArray, List.map_cons, List.map_nil]); first | done | rfl | (simp only [List.length_drop, List.length_take]; rfl)) ?_; (with_reducible refine (cmp_isNaN_int.calls a0 true _ A3.out).mono ?_); rintro e w' ⟨rfl, ⟨nd, rfl⟩⟩; refine ⟨_, rfl, ?_⟩) | ((with_reducible refine gate_callee (f := 30) rfl ?_); refine goesL_ (some 10) rfl rfl Try.func30 (by kernel_rfl) rfl #[.int .i64 a1] rfl (by (try simp only [List.map_toArray, List.map_cons, List.map_nil]); first | done | rfl | (simp only [List.length_drop, List.length_take]; rfl)) ?_; (with_reducible refine (cmp_isNaN_int.calls a1 true _ A4.out).mono ?_); rintro e w' ⟨rfl, ⟨nd, rfl⟩⟩; refine ⟨_, rfl, ?_⟩))
      go_ret
      exact ⟨by first | rfl | (simp; done) | (simp [*]; done), by repeat (first | exact Drawn0.refl _ | apply Drawn0.step)⟩
    · replace c6 := Bool.eq_false_iff.mpr c6
      subst c6
      have H1 : (some (-1)) = some r := by rw [if_neg (show ¬ (false = true) by decide)] at H; exact H
      clear H
      have H := H1
      clear H1
      obtain rfl := Option.some.inj H
      go_enter Try.func27, Try.ntmps27
      go_wp2_with (first | ((with_reducible refine gate_callee (f := 30) rfl ?_); refine goesL_ (some 8) rfl rfl Try.func30 (by kernel_rfl) rfl #[.int .i64 a0] rfl (by (try simp only [List.map_toArray, List.map_cons, List.map_nil]); first | done | rfl | (simp only [List.length_drop, List.length_take]; rfl)) ?_; (with_reducible refine (cmp_isNaN_int.calls a0 true _ A3.out).mono ?_); rintro e w' ⟨rfl, ⟨nd, rfl⟩⟩; refine ⟨_, rfl, ?_⟩) | ((with_reducible refine gate_callee (f := 30) rfl ?_); refine goesL_ (some 10) rfl rfl Try.func30 (by kernel_rfl) rfl #[.int .i64 a1] rfl (by (try simp only [List.map_toArray, List.map_cons, List.map_nil]); first | done | rfl | (simp only [List.length_drop, List.length_take]; rfl)) ?_; (with_reducible refine (cmp_isNaN_int.calls a1 false _ A4.out).mono ?_); rintro e w' ⟨rfl, ⟨nd, rfl⟩⟩; refine ⟨_, rfl, ?_⟩))
      go_ret
      exact ⟨by first | rfl | (simp; done) | (simp [*]; done), by repeat (first | exact Drawn0.refl _ | apply Drawn0.step)⟩
  · replace c5 := Bool.eq_false_iff.mpr c5
    subst c5
    have H1 : (if t185 = true then (some 1) else (if a0 < a1 then (some (-1)) else (if a0 > a1 then (some 1) else (some 0)))) = some r := by rw [if_neg (show ¬ (false = true) by decide)] at H; exact H
    clear H
    have H := H1
    clear H1
    by_cases c7 : t185 = true
    · subst c7
      have H1 : (some 1) = some r := by rw [if_pos rfl] at H; exact H
      clear H
      have H := H1
      clear H1
      obtain rfl := Option.some.inj H
      go_enter Try.func27, Try.ntmps27
      go_wp2_with (first | ((with_reducible refine gate_callee (f := 30) rfl ?_); refine goesL_ (some 8) rfl rfl Try.func30 (by kernel_rfl) rfl #[.int .i64 a0] rfl (by (try simp only [List.map_toArray, List.map_cons, List.map_nil]); first | done | rfl | (simp only [List.length_drop, List.length_take]; rfl)) ?_; (with_reducible refine (cmp_isNaN_int.calls a0 false _ A3.out).mono ?_); rintro e w' ⟨rfl, ⟨nd, rfl⟩⟩; refine ⟨_, rfl, ?_⟩) | ((with_reducible refine gate_callee (f := 30) rfl ?_); refine goesL_ (some 10) rfl rfl Try.func30 (by kernel_rfl) rfl #[.int .i64 a1] rfl (by (try simp only [List.map_toArray, List.map_cons, List.map_nil]); first | done | rfl | (simp only [List.length_drop, List.length_take]; rfl)) ?_; (with_reducible refine (cmp_isNaN_int.calls a1 true _ A4.out).mono ?_); rintro e w' ⟨rfl, ⟨nd, rfl⟩⟩; refine ⟨_, rfl, ?_⟩))
      go_ret
      exact ⟨by first | rfl | (simp; done) | (simp [*]; done), by repeat (first | exact Drawn0.refl _ | apply Drawn0.step)⟩
    · replace c7 := Bool.eq_false_iff.mpr c7
      subst c7
      have H1 : (if a0 < a1 then (some (-1)) else (if a0 > a1 then (some 1) else (some 0))) = some r := by rw [if_neg (show ¬ (false = true) by decide)] at H; exact H
      clear H
      have H := H1
      clear H1
      by_cases c8 : a0 < a1
      · rw [if_pos c8] at H
        have c8b0 : decide (a0 < a1) = true := decide_eq_true c8
        clear c8
        obtain rfl := Option.some.inj H
        go_enter Try.func27, Try.ntmps27
        go_wp2_with (first | ((with_reducible refine gate_callee (f := 30) rfl ?_); refine goesL_ (some 8) rfl rfl Try.func30 (by kernel_rfl) rfl #[.int .i64 a0] rfl (by (try simp only [List.map_toArray, List.map_cons, List.map_nil]); first | done | rfl | (simp only [List.length_drop, List.length_take]; rfl)) ?_; (with_reducible refine (cmp_isNaN_int.calls a0 false _ A3.out).mono ?_); rintro e w' ⟨rfl, ⟨nd, rfl⟩⟩; refine ⟨_, rfl, ?_⟩) | ((with_reducible refine gate_callee (f := 30) rfl ?_); refine goesL_ (some 10) rfl rfl Try.func30 (by kernel_rfl) rfl #[.int .i64 a1] rfl (by (try simp only [List.map_toArray, List.map_cons, List.map_nil]); first | done | rfl | (simp only [List.length_drop, List.length_take]; rfl)) ?_; (with_reducible refine (cmp_isNaN_int.calls a1 false _ A4.out).mono ?_); rintro e w' ⟨rfl, ⟨nd, rfl⟩⟩; refine ⟨_, rfl, ?_⟩))
        go_ret
        exact ⟨by first | rfl | (simp; done) | (simp [*]; done), by repeat (first | exact Drawn0.refl _ | apply Drawn0.step)⟩
      · rw [if_neg c8] at H
        have c8b0 : decide (a0 < a1) = false := decide_eq_false c8
        clear c8
        by_cases c9 : a0 > a1
        · rw [if_pos c9] at H
          have c9b0 : decide (a1 < a0) = true := decide_eq_true c9
          clear c9
          obtain rfl := Option.some.inj H
          go_enter Try.func27, Try.ntmps27
          go_wp2_with (first | ((with_reducible refine gate_callee (f := 30) rfl ?_); refine goesL_ (some 8) rfl rfl Try.func30 (by kernel_rfl) rfl #[.int .i64 a0] rfl (by (try simp only [List.map_toArray, List.map_cons, List.map_nil]); first | done | rfl | (simp only [List.length_drop, List.length_take]; rfl)) ?_; (with_reducible refine (cmp_isNaN_int.calls a0 false _ A3.out).mono ?_); rintro e w' ⟨rfl, ⟨nd, rfl⟩⟩; refine ⟨_, rfl, ?_⟩) | ((with_reducible refine gate_callee (f := 30) rfl ?_); refine goesL_ (some 10) rfl rfl Try.func30 (by kernel_rfl) rfl #[.int .i64 a1] rfl (by (try simp only [List.map_toArray, List.map_cons, List.map_nil]); first | done | rfl | (simp only [List.length_drop, List.length_take]; rfl)) ?_; (with_reducible refine (cmp_isNaN_int.calls a1 false _ A4.out).mono ?_); rintro e w' ⟨rfl, ⟨nd, rfl⟩⟩; refine ⟨_, rfl, ?_⟩))
          go_ret
          exact ⟨by first | rfl | (simp; done) | (simp [*]; done), by repeat (first | exact Drawn0.refl _ | apply Drawn0.step)⟩
        · rw [if_neg c9] at H
          have c9b0 : decide (a1 < a0) = false := decide_eq_false c9
          clear c9
          obtain rfl := Option.some.inj H
          go_enter Try.func27, Try.ntmps27
          go_wp2_with (first | ((with_reducible refine gate_callee (f := 30) rfl ?_); refine goesL_ (some 8) rfl rfl Try.func30 (by kernel_rfl) rfl #[.int .i64 a0] rfl (by (try simp only [List.map_toArray, List.map_cons, List.map_nil]); first | done | rfl | (simp only [List.length_drop, List.length_take]; rfl)) ?_; (with_reducible refine (cmp_isNaN_int.calls a0 false _ A3.out).mono ?_); rintro e w' ⟨rfl, ⟨nd, rfl⟩⟩; refine ⟨_, rfl, ?_⟩) | ((with_reducible refine gate_callee (f := 30) rfl ?_); refine goesL_ (some 10) rfl rfl Try.func30 (by kernel_rfl) rfl #[.int .i64 a1] rfl (by (try simp only [List.map_toArray, List.map_cons, List.map_nil]); first | done | rfl | (simp only [List.length_drop, List.length_take]; rfl)) ?_; (with_reducible refine (cmp_isNaN_int.calls a1 false _ A4.out).mono ?_); rintro e w' ⟨rfl, ⟨nd, rfl⟩⟩; refine ⟨_, rfl, ?_⟩))
          go_ret
          exact ⟨by first | rfl | (simp; done) | (simp [*]; done), by repeat (first | exact Drawn0.refl _ | apply Drawn0.step)⟩

end Go.Proofs.Ythealffcpcbmhaa.PMomentPartial
