/- One piece of the machine's side of the law, written by a program over the translation; Lean checks it. -/
import Derived.Test.YtpplklickfioiaaOWireGetsx0
import Derived.Test.YtpplklickfioiaaOWireGetsx1
import Derived.Test.YtpplklickfioiaaOWireGetsx6
import Derived.Test.YtpplklickfioiaaOWireGetsx12
import Derived.Test.YtpplklickfioiaaShort
namespace Go.Proofs.Ytpplklickfioiaa.PWireGets
open Go.RowKit Go.Proofs.YtpplklickfioiaaW.PrintWords Go.Proofs.YtpplklickfioiaaW.PrintLast Go.Proofs.YtpplklickfioiaaW.PrintMore
attribute [local go_sem] max2_int min2_int max_two min_two max_three min_three max_four min_four   -- for this text's walks alone
set_option linter.unusedVariables false
set_option linter.unusedSimpArgs false

attribute [local go_sem high] eqA36
/-! ### runnelref26_Same: function 17 -/
def runnelref26_Same.l0 : Nat → List (S40) → List (S40) → Int → Option (Bool)
 | 0, _, _, _ => none
 | k + 1, x0, x1, x7 => if x7 < (x0.length : Int) then (if 0 ≤ x7 then (if x7 < (x1.length : Int) then (if ((rd_T40 x0 x7).f0) = ((rd_T40 x1 x7).f0) then (if ((rd_T40 x0 x7).f1) = ((rd_T40 x1 x7).f1) then (if ((rd_T40 x0 x7).f4) = ((rd_T40 x1 x7).f4) then (if (strOfNums ((rd_T40 x0 x7).f5)).toList = (strOfNums ((rd_T40 x1 x7).f5)).toList then ((runnelref03_Same.f k ((rd_T40 x0 x7).f2.f0) ((rd_T40 x1 x7).f2.f0)).bind fun t470 => (if t470 = true then (if (!(((rd_T40 x0 x7).f2.f1.f0) == ((rd_T40 x1 x7).f2.f1.f0)) || (!(((rd_T40 x0 x7).f2.f1.f1) == ((rd_T40 x1 x7).f2.f1.f1)))) = true then (some false) else (if ((rd_T40 x0 x7).f2.f2) = ((rd_T40 x1 x7).f2.f2) then ((runnelref04_Same.f k ((rd_T40 x0 x7).f3) ((rd_T40 x1 x7).f3)).bind fun t471 => (if t471 = true then (runnelref26_Same.l0 k x0 x1 (wrap64 (x7 + 1))) else (some false))) else (some false))) else (some false))) else (some false)) else (some false)) else (some false)) else (some false)) else (none)) else (none)) else (some true)
def runnelref26_Same.f (k : Nat) (l0 : List (S40)) (l1 : List (S40)) (a2 : Bool) : Option (Bool) := if (l0.length : Int) = (l1.length : Int) then (runnelref26_Same.l0 k l0 l1 0) else (some false)
theorem runnelref26_Same.mono_l : ∀ k, (∀ y0 y1 y2, LeO (runnelref26_Same.l0 k y0 y1 y2) (runnelref26_Same.l0 (k + 1) y0 y1 y2))
 | 0 => fun _ _ _ r h => by simp [runnelref26_Same.l0] at h
 | k + 1 => by
  have ih0 := runnelref26_Same.mono_l k
  ·
   intro y0 y1 y2
   unfold runnelref26_Same.l0
   repeat' first
   | (with_reducible exact ih0 _ _ _)
   | (with_reducible exact runnelref03_Same.mono _ _ _)
   | (with_reducible exact runnelref04_Same.mono _ _ _)
   | (with_reducible exact LeO.refl _)
   | (with_reducible exact LeO.none _)
   | (with_reducible refine LeO.ite ?_ ?_)
   | (with_reducible refine LeO.bind ?_ (fun _ => ?_))
   | exact ih0 _ _ _
   | exact runnelref03_Same.mono _ _ _
   | exact runnelref04_Same.mono _ _ _
   | exact LeO.none _
   | refine LeO.ite ?_ ?_
   | refine LeO.bind ?_ (fun _ => ?_)
theorem runnelref26_Same.mono : ∀ a0 a1 a2 k, LeO (runnelref26_Same.f k a0 a1 a2) (runnelref26_Same.f (k + 1) a0 a1 a2) := by
 intro a0 a1 a2 k
 have ih0 := runnelref26_Same.mono_l k
 unfold runnelref26_Same.f
 repeat' first
   | (with_reducible exact ih0 _ _ _)
   | (with_reducible exact runnelref03_Same.mono _ _ _)
   | (with_reducible exact runnelref04_Same.mono _ _ _)
   | (with_reducible exact LeO.refl _)
   | (with_reducible exact LeO.none _)
   | (with_reducible refine LeO.ite ?_ ?_)
   | (with_reducible refine LeO.bind ?_ (fun _ => ?_))
   | exact ih0 _ _ _
   | exact runnelref03_Same.mono _ _ _
   | exact runnelref04_Same.mono _ _ _
   | exact LeO.none _
   | refine LeO.ite ?_ ?_
   | refine LeO.bind ?_ (fun _ => ?_)
def runnelref26_Same.T6 : Bool × List (List Nat × List Nat) := (true, [([], []), ([], []), ([0, 1], [0, 1]), ([2], [2]), ([], []), ([], []), ([4, 5], [4, 5]), ([6], [6]), ([], []), ([], []), ([8, 3, 0, 1, 2, 3, 8, 9], [3, 8]), ([9, 7, 10, 0, 1, 2, 3, 4, 5, 6, 7, 8, 9, 10], [7, 9])])
def runnelref26_Same.B6 : List Nat := [0, 0, 3, 7, 0, 0, 48, 112, 0, 0, 783, 2047]
theorem runnelref26_Same.tab6 : rtab .any (opsOf Try.f17 6) = runnelref26_Same.T6 := by kernel_rfl
theorem runnelref26_Same.bits6 : waitsOk runnelref26_Same.T6.2 runnelref26_Same.B6 = true := by kernel_rfl
set_option maxHeartbeats 8000000 in
set_option maxRecDepth 100000 in
theorem runnelref26_Same.calls (k : Nat) (A0 : Option Addr) (c0 : Nat) (l0 : List (S40)) (A1 : Option Addr) (c1 : Nat) (l1 : List (S40)) (a2 : Bool) (r : Bool) (w : World) (hr0 : Kd.C k40 w A0 l0.length l0) (hc0 : l0.length ≤ c0) (hr1 : Kd.C k40 w A1 l1.length l1) (hc1 : l1.length ≤ c1) (h : runnelref26_Same.f k l0 l1 a2 = some r) :
  Calls Try.prog 17 #[.slice A0 l0.length c0, .slice A1 l1.length c1, .bool false] w fun e w' => e = .returned (.bool r) ∧ Below w.heap.size w w' := by
 have hu40 := Try.underlying40
 have hu36 := Try.underlying36
 have HR0 := Aside0.mk hr0
 have HC0 := Aside0.mk hc0
 clear hr0 hc0
 have HR1 := Aside0.mk hr1
 have HC1 := Aside0.mk hc1
 clear hr1 hc1
 have HB := Aside0.mk (Below.refl w.heap.size w)
 have H : (if (l0.length : Int) = (l1.length : Int) then (runnelref26_Same.l0 k l0 l1 0) else (some false)) = some r := h
 clear h
 by_cases c4 : (l0.length : Int) = (l1.length : Int)
 ·
  rw [if_pos c4] at H
  have c4b0 : ((l0.length : Int) == (l1.length : Int)) = true := beq_iff_eq.mpr c4
  have c4b1 : ((l0.length : Int) != (l1.length : Int)) = false := bne_eq_false_iff_eq.mpr c4
  have c4b2 : (l0.length == l1.length) = true := by first | simpa using c4 | (simp at c4 ⊢; omega)
  clear c4
  have H' := Aside0.mk H
  clear H
  go_enter Try.func17, Try.ntmps17
  go_wp2
  go_loopg [7] k (fun kq v7 w' => ∃ (x7_1 : Int), v7 = .int .i64 x7_1 ∧ Aside0 (runnelref26_Same.l0 kq l0 l1 x7_1 = some r) ∧ Aside0 (kq ≤ k) ∧ Aside0 (Below w.heap.size w w'))
  case atStart => exact ⟨(0), (by first | rfl | (simp; done) | (simp [*]; done)), H', ⟨Nat.le_refl _⟩, ⟨bl⟩⟩
  case round =>
   clear H'
   (try clear c1); (try clear c4); (try clear c4b0); (try clear c4b1); (try clear c4b2)
   obtain ⟨x7_1, rfl, HA, HK1, HB⟩ := hrel
   cases gk with
   | zero => exact absurd HA.out (by simp [runnelref26_Same.l0])
   | succ k1 =>
    have H := HA.out
    clear HA
    simp only [runnelref26_Same.l0] at H
    by_cases c5 : x7_1 < (l0.length : Int)
    ·
     rw [if_pos c5] at H
     have c5b0 : decide (x7_1 < (l0.length : Int)) = true := decide_eq_true c5
     clear c5
     by_cases c6 : 0 ≤ x7_1
     ·
      rw [if_pos c6] at H
      have c6b0 : decide (0 ≤ x7_1) = true := decide_eq_true c6
      clear c6
      by_cases c7 : x7_1 < (l1.length : Int)
      ·
       rw [if_pos c7] at H
       have c7b0 : decide (x7_1 < (l1.length : Int)) = true := decide_eq_true c7
       clear c7
       have HQ_ := Aside0.mk H
       clear H
       try go_wp2
       have n0_ := Aside0.mk (below_drew1 HB.out)
       clear HB
       have HB := n0_
       clear n0_
       have p466 : 0 ≤ (x7_1 : Int) := of_decide_eq_true (by first | (with_reducible assumption) | assumption)
       have q466 : x7_1 < (l0.length : Int) := of_decide_eq_true (by first | (with_reducible assumption) | assumption)
       obtain ⟨ad466, A466_2, c466_2, A466_6, c466_6, A466_8, c466_8, e466, hx466_0, hx466_1, hx466_2, hx466_3, hx466_4, hx466_5, hx466_6, hx466_7, hx466_8, hl466_2, hi466_2, hl466_6, hi466_6, hl466_8, hi466_8⟩ := at_T40 HR0.out x7_1 p466 q466
       have hw466_8 := hx466_8
       have hw466_7 := hx466_7
       have hw466_6 := hx466_6
       have hw466_5 := hx466_5
       have hw466_4 := hx466_4
       have hw466_3 := hx466_3
       have hw466_2 := hx466_2
       have hw466_1 := hx466_1
       have hw466_0 := hx466_0
       cases e466
       replace hx466_0 := bc HB.out hx466_0
       replace hx466_1 := bc HB.out hx466_1
       replace hx466_2 := bc HB.out hx466_2
       replace hx466_3 := bc HB.out hx466_3
       replace hx466_4 := bc HB.out hx466_4
       replace hx466_5 := bc HB.out hx466_5
       replace hx466_6 := bc HB.out hx466_6
       replace hx466_7 := bc HB.out hx466_7
       replace hx466_8 := bc HB.out hx466_8
       have HR466_2 := Aside0.mk hi466_2
       have HC466_2 := Aside0.mk hl466_2
       clear hi466_2 hl466_2
       have HR466_6 := Aside0.mk hi466_6
       have HC466_6 := Aside0.mk hl466_6
       clear hi466_6 hl466_6
       have HR466_8 := Aside0.mk hi466_8
       have HC466_8 := Aside0.mk hl466_8
       clear hi466_8 hl466_8
       replace p466 := eq_true p466
       replace q466 := eq_true q466
       have p467 : 0 ≤ (x7_1 : Int) := of_decide_eq_true (by first | (with_reducible assumption) | assumption)
       have q467 : x7_1 < (l1.length : Int) := of_decide_eq_true (by first | (with_reducible assumption) | assumption)
       obtain ⟨ad467, A467_2, c467_2, A467_6, c467_6, A467_8, c467_8, e467, hx467_0, hx467_1, hx467_2, hx467_3, hx467_4, hx467_5, hx467_6, hx467_7, hx467_8, hl467_2, hi467_2, hl467_6, hi467_6, hl467_8, hi467_8⟩ := at_T40 HR1.out x7_1 p467 q467
       have hw467_8 := hx467_8
       have hw467_7 := hx467_7
       have hw467_6 := hx467_6
       have hw467_5 := hx467_5
       have hw467_4 := hx467_4
       have hw467_3 := hx467_3
       have hw467_2 := hx467_2
       have hw467_1 := hx467_1
       have hw467_0 := hx467_0
       cases e467
       replace hx467_0 := bc HB.out hx467_0
       replace hx467_1 := bc HB.out hx467_1
       replace hx467_2 := bc HB.out hx467_2
       replace hx467_3 := bc HB.out hx467_3
       replace hx467_4 := bc HB.out hx467_4
       replace hx467_5 := bc HB.out hx467_5
       replace hx467_6 := bc HB.out hx467_6
       replace hx467_7 := bc HB.out hx467_7
       replace hx467_8 := bc HB.out hx467_8
       have HR467_2 := Aside0.mk hi467_2
       have HC467_2 := Aside0.mk hl467_2
       clear hi467_2 hl467_2
       have HR467_6 := Aside0.mk hi467_6
       have HC467_6 := Aside0.mk hl467_6
       clear hi467_6 hl467_6
       have HR467_8 := Aside0.mk hi467_8
       have HC467_8 := Aside0.mk hl467_8
       clear hi467_8 hl467_8
       replace p467 := eq_true p467
       replace q467 := eq_true q467
       refine start_ (n := 12) (S := fun w' => w'.cell? (ad466.add ((x7_1).toNat * 9)) = some (.int .i64 ((rd_T40 l0 x7_1).f0)) ∧ w'.cell? ⟨(ad466.add ((x7_1).toNat * 9)).block, (ad466.add ((x7_1).toNat * 9)).off + 1, none⟩ = some (.int .i64 ((rd_T40 l0 x7_1).f1)) ∧ w'.cell? ⟨(ad466.add ((x7_1).toNat * 9)).block, (ad466.add ((x7_1).toNat * 9)).off + 2, none⟩ = some (.slice A466_2 ((rd_T40 l0 x7_1).f2.f0).length c466_2) ∧ w'.cell? ⟨(ad466.add ((x7_1).toNat * 9)).block, (ad466.add ((x7_1).toNat * 9)).off + 3, none⟩ = some (.int .i64 ((rd_T40 l0 x7_1).f2.f1.f0)) ∧ w'.cell? ⟨(ad466.add ((x7_1).toNat * 9)).block, (ad466.add ((x7_1).toNat * 9)).off + 4, none⟩ = some (.int .i64 ((rd_T40 l0 x7_1).f2.f1.f1)) ∧ w'.cell? ⟨(ad466.add ((x7_1).toNat * 9)).block, (ad466.add ((x7_1).toNat * 9)).off + 5, none⟩ = some (.int .i64 ((rd_T40 l0 x7_1).f2.f2)) ∧ w'.cell? ⟨(ad466.add ((x7_1).toNat * 9)).block, (ad466.add ((x7_1).toNat * 9)).off + 6, none⟩ = some (.slice A466_6 ((rd_T40 l0 x7_1).f3).length c466_6) ∧ w'.cell? ⟨(ad466.add ((x7_1).toNat * 9)).block, (ad466.add ((x7_1).toNat * 9)).off + 7, none⟩ = some (.int .i64 ((rd_T40 l0 x7_1).f4)) ∧ w'.cell? ⟨(ad466.add ((x7_1).toNat * 9)).block, (ad466.add ((x7_1).toNat * 9)).off + 8, none⟩ = some (.slice A466_8 ((rd_T40 l0 x7_1).f5).length c466_8) ∧ w'.cell? (ad467.add ((x7_1).toNat * 9)) = some (.int .i64 ((rd_T40 l1 x7_1).f0)) ∧ w'.cell? ⟨(ad467.add ((x7_1).toNat * 9)).block, (ad467.add ((x7_1).toNat * 9)).off + 1, none⟩ = some (.int .i64 ((rd_T40 l1 x7_1).f1)) ∧ w'.cell? ⟨(ad467.add ((x7_1).toNat * 9)).block, (ad467.add ((x7_1).toNat * 9)).off + 2, none⟩ = some (.slice A467_2 ((rd_T40 l1 x7_1).f2.f0).length c467_2) ∧ w'.cell? ⟨(ad467.add ((x7_1).toNat * 9)).block, (ad467.add ((x7_1).toNat * 9)).off + 3, none⟩ = some (.int .i64 ((rd_T40 l1 x7_1).f2.f1.f0)) ∧ w'.cell? ⟨(ad467.add ((x7_1).toNat * 9)).block, (ad467.add ((x7_1).toNat * 9)).off + 4, none⟩ = some (.int .i64 ((rd_T40 l1 x7_1).f2.f1.f1)) ∧ w'.cell? ⟨(ad467.add ((x7_1).toNat * 9)).block, (ad467.add ((x7_1).toNat * 9)).off + 5, none⟩ = some (.int .i64 ((rd_T40 l1 x7_1).f2.f2)) ∧ w'.cell? ⟨(ad467.add ((x7_1).toNat * 9)).block, (ad467.add ((x7_1).toNat * 9)).off + 6, none⟩ = some (.slice A467_6 ((rd_T40 l1 x7_1).f3).length c467_6) ∧ w'.cell? ⟨(ad467.add ((x7_1).toNat * 9)).block, (ad467.add ((x7_1).toNat * 9)).off + 7, none⟩ = some (.int .i64 ((rd_T40 l1 x7_1).f4)) ∧ w'.cell? ⟨(ad467.add ((x7_1).toNat * 9)).block, (ad467.add ((x7_1).toNat * 9)).off + 8, none⟩ = some (.slice A467_8 ((rd_T40 l1 x7_1).f5).length c467_8)) (ds := []) #[false, false, false, false, false, false, false, false, false, false, false, false] (by kernel_rfl) rfl rfl ⟨(bc HB.out hw466_0), (bc HB.out hw466_1), (bc HB.out hw466_2), (bc HB.out hw466_3), (bc HB.out hw466_4), (bc HB.out hw466_5), (bc HB.out hw466_6), (bc HB.out hw466_7), (bc HB.out hw466_8), (bc HB.out hw467_0), (bc HB.out hw467_1), (bc HB.out hw467_2), (bc HB.out hw467_3), (bc HB.out hw467_4), (bc HB.out hw467_5), (bc HB.out hw467_6), (bc HB.out hw467_7), (bc HB.out hw467_8)⟩ (fun hHeld => ?_); refine with_tabW runnelref26_Same.tab6 runnelref26_Same.bits6 (fun HT_ HW_ => ?_)
       generalize wr.drew = w15 at HB HR466_2 HR466_6 HR466_8 HR467_2 HR467_6 HR467_8 hx466_0 hx466_1 hx466_2 hx466_3 hx466_4 hx466_5 hx466_6 hx466_7 hx466_8 hx467_0 hx467_1 hx467_2 hx467_3 hx467_4 hx467_5 hx467_6 hx467_7 hx467_8 hHeld ⊢
       refine pure_ (i := 0) (N := some 21) (v := ?_) (a' := ?_) #[true, false, false, false, false, false, false, false, false, false, false, false] rfl rfl (any_of HT_.out (by kernel_rfl)) (fun _ _ _ h => h) (Or.inl ⟨by rfl, ?_⟩) ?_ ?_
       rotate_left
       ·
        intro w'
        go_simp
        with_reducible rfl
       rotate_left
       ·
        simp only [Act.put, List.setIfInBounds_toArray, List.set_cons_zero, List.set_cons_succ, i64_w, i32_w]
        rfl
       refine pure_ (i := 1) (N := some 22) (v := ?_) (a' := ?_) #[true, true, false, false, false, false, false, false, false, false, false, false] rfl rfl (any_of HT_.out (by kernel_rfl)) (fun _ _ _ h => h) (Or.inl ⟨by rfl, ?_⟩) ?_ ?_
       rotate_left
       ·
        intro w'
        go_simp
        with_reducible rfl
       rotate_left
       ·
        simp only [Act.put, List.setIfInBounds_toArray, List.set_cons_zero, List.set_cons_succ, i64_w, i32_w]
        rfl
       refine pure_ (i := 2) (N := some 23) (v := ?_) (a' := ?_) #[true, true, true, false, false, false, false, false, false, false, false, false] rfl rfl (any_of HT_.out (by kernel_rfl)) (fun _ _ _ h => h) (Or.inl ⟨by rfl, ?_⟩) ?_ ?_
       rotate_left
       ·
        intro w'
        go_simp
        with_reducible rfl
       rotate_left
       ·
        simp only [Act.put, List.setIfInBounds_toArray, List.set_cons_zero, List.set_cons_succ, i64_w, i32_w]
        rfl
       refine pure_ (i := 4) (N := some 25) (v := ?_) (a' := ?_) #[true, true, true, false, true, false, false, false, false, false, false, false] rfl rfl (any_of HT_.out (by kernel_rfl)) (fun _ _ _ h => h) (Or.inl ⟨by rfl, ?_⟩) ?_ ?_
       rotate_left
       ·
        intro w'
        go_simp
        with_reducible rfl
       rotate_left
       ·
        simp only [Act.put, List.setIfInBounds_toArray, List.set_cons_zero, List.set_cons_succ, i64_w, i32_w]
        rfl
       refine pure_ (i := 5) (N := some 26) (v := ?_) (a' := ?_) #[true, true, true, false, true, true, false, false, false, false, false, false] rfl rfl (any_of HT_.out (by kernel_rfl)) (fun _ _ _ h => h) (Or.inl ⟨by rfl, ?_⟩) ?_ ?_
       rotate_left
       ·
        intro w'
        go_simp
        with_reducible rfl
       rotate_left
       ·
        simp only [Act.put, List.setIfInBounds_toArray, List.set_cons_zero, List.set_cons_succ, i64_w, i32_w]
        rfl
       refine pure_ (i := 6) (N := some 27) (v := ?_) (a' := ?_) #[true, true, true, false, true, true, true, false, false, false, false, false] rfl rfl (any_of HT_.out (by kernel_rfl)) (fun _ _ _ h => h) (Or.inl ⟨by rfl, ?_⟩) ?_ ?_
       rotate_left
       ·
        intro w'
        go_simp
        with_reducible rfl
       rotate_left
       ·
        simp only [Act.put, List.setIfInBounds_toArray, List.set_cons_zero, List.set_cons_succ, i64_w, i32_w]
        rfl
       refine take_ (i := 3) (N := some 24) (v := ?_) (a' := ?_) #[true, true, true, true, true, true, true, false, false, false, false, false] rfl rfl (take_ofW HT_.out HW_.out (by kernel_rfl)) (fun _ _ _ h => h) (Or.inl ⟨by rfl, ?_⟩) hHeld ?_ ?_
       rotate_left
       ·
        rintro w' ⟨s0, s1, s2, s3, s4, s5, s6, s7, s8, s9, s10, s11, s12, s13, s14, s15, s16, s17⟩
        go_simp
        with_reducible rfl
       rotate_left
       ·
        simp only [Act.put, List.setIfInBounds_toArray, List.set_cons_zero, List.set_cons_succ, i64_w, i32_w]
        rfl
       refine take_ (i := 7) (N := some 28) (v := ?_) (a' := ?_) #[true, true, true, true, true, true, true, true, false, false, false, false] rfl rfl (take_ofW HT_.out HW_.out (by kernel_rfl)) (fun _ _ _ h => h) (Or.inl ⟨by rfl, ?_⟩) hHeld ?_ ?_
       rotate_left
       ·
        rintro w' ⟨s0, s1, s2, s3, s4, s5, s6, s7, s8, s9, s10, s11, s12, s13, s14, s15, s16, s17⟩
        go_simp
        with_reducible rfl
       rotate_left
       ·
        simp only [Act.put, List.setIfInBounds_toArray, List.set_cons_zero, List.set_cons_succ, i64_w, i32_w]
        rfl
       refine join_ (σ := Nat × Nat) 2 #[true, true, true, true, true, true, true, true, true, true, false, false] (fun s_ => [(8, .pointer (some ⟨s_.1, 0, none⟩)), (9, .pointer (some ⟨s_.2, 0, none⟩))]) (fun s_ w' => (w'.cell? (ad466.add ((x7_1).toNat * 9)) = some (.int .i64 ((rd_T40 l0 x7_1).f0)) ∧ w'.cell? ⟨(ad466.add ((x7_1).toNat * 9)).block, (ad466.add ((x7_1).toNat * 9)).off + 1, none⟩ = some (.int .i64 ((rd_T40 l0 x7_1).f1)) ∧ w'.cell? ⟨(ad466.add ((x7_1).toNat * 9)).block, (ad466.add ((x7_1).toNat * 9)).off + 2, none⟩ = some (.slice A466_2 ((rd_T40 l0 x7_1).f2.f0).length c466_2) ∧ w'.cell? ⟨(ad466.add ((x7_1).toNat * 9)).block, (ad466.add ((x7_1).toNat * 9)).off + 3, none⟩ = some (.int .i64 ((rd_T40 l0 x7_1).f2.f1.f0)) ∧ w'.cell? ⟨(ad466.add ((x7_1).toNat * 9)).block, (ad466.add ((x7_1).toNat * 9)).off + 4, none⟩ = some (.int .i64 ((rd_T40 l0 x7_1).f2.f1.f1)) ∧ w'.cell? ⟨(ad466.add ((x7_1).toNat * 9)).block, (ad466.add ((x7_1).toNat * 9)).off + 5, none⟩ = some (.int .i64 ((rd_T40 l0 x7_1).f2.f2)) ∧ w'.cell? ⟨(ad466.add ((x7_1).toNat * 9)).block, (ad466.add ((x7_1).toNat * 9)).off + 6, none⟩ = some (.slice A466_6 ((rd_T40 l0 x7_1).f3).length c466_6) ∧ w'.cell? ⟨(ad466.add ((x7_1).toNat * 9)).block, (ad466.add ((x7_1).toNat * 9)).off + 7, none⟩ = some (.int .i64 ((rd_T40 l0 x7_1).f4)) ∧ w'.cell? ⟨(ad466.add ((x7_1).toNat * 9)).block, (ad466.add ((x7_1).toNat * 9)).off + 8, none⟩ = some (.slice A466_8 ((rd_T40 l0 x7_1).f5).length c466_8) ∧ w'.cell? (ad467.add ((x7_1).toNat * 9)) = some (.int .i64 ((rd_T40 l1 x7_1).f0)) ∧ w'.cell? ⟨(ad467.add ((x7_1).toNat * 9)).block, (ad467.add ((x7_1).toNat * 9)).off + 1, none⟩ = some (.int .i64 ((rd_T40 l1 x7_1).f1)) ∧ w'.cell? ⟨(ad467.add ((x7_1).toNat * 9)).block, (ad467.add ((x7_1).toNat * 9)).off + 2, none⟩ = some (.slice A467_2 ((rd_T40 l1 x7_1).f2.f0).length c467_2) ∧ w'.cell? ⟨(ad467.add ((x7_1).toNat * 9)).block, (ad467.add ((x7_1).toNat * 9)).off + 3, none⟩ = some (.int .i64 ((rd_T40 l1 x7_1).f2.f1.f0)) ∧ w'.cell? ⟨(ad467.add ((x7_1).toNat * 9)).block, (ad467.add ((x7_1).toNat * 9)).off + 4, none⟩ = some (.int .i64 ((rd_T40 l1 x7_1).f2.f1.f1)) ∧ w'.cell? ⟨(ad467.add ((x7_1).toNat * 9)).block, (ad467.add ((x7_1).toNat * 9)).off + 5, none⟩ = some (.int .i64 ((rd_T40 l1 x7_1).f2.f2)) ∧ w'.cell? ⟨(ad467.add ((x7_1).toNat * 9)).block, (ad467.add ((x7_1).toNat * 9)).off + 6, none⟩ = some (.slice A467_6 ((rd_T40 l1 x7_1).f3).length c467_6) ∧ w'.cell? ⟨(ad467.add ((x7_1).toNat * 9)).block, (ad467.add ((x7_1).toNat * 9)).off + 7, none⟩ = some (.int .i64 ((rd_T40 l1 x7_1).f4)) ∧ w'.cell? ⟨(ad467.add ((x7_1).toNat * 9)).block, (ad467.add ((x7_1).toNat * 9)).off + 8, none⟩ = some (.slice A467_8 ((rd_T40 l1 x7_1).f5).length c467_8)) ∧ (w'.heap[s_.1]? = some (.cells #[.int .i64 0, .int .i64 0, .slice none 0 0, .int .i64 0, .int .i64 0, .int .i64 0, .slice none 0 0, .int .i64 0, .slice none 0 0] 40 (0, 0))) ∧ (w'.heap[s_.2]? = some (.cells #[.int .i64 0, .int .i64 0, .slice none 0 0, .int .i64 0, .int .i64 0, .int .i64 0, .slice none 0 0, .int .i64 0, .slice none 0 0] 40 (0, 0))) ∧ (w.heap.size ≤ s_.1) ∧ (w.heap.size ≤ s_.1) ∧ (s_.2 ≠ s_.1) ∧ (s_.1 ≠ s_.2) ∧ (w.heap.size ≤ s_.2) ∧ (w.heap.size ≤ s_.2) ∧ (Below w.heap.size w w')) ?_ ?_
       rotate_left
       ·
        intro hCont
        refine two_ (i := 8) (j := 9) (Ni := some 8) (Nj := some 9) #[true, true, true, true, true, true, true, true, true, false, false, false] #[true, true, true, true, true, true, true, true, false, true, false, false] rfl rfl rfl rfl (two_of HT_.out (by kernel_rfl)) (by decide) (by decide) (fun K hK => ?_) (fun K hK => ?_)
        ·
         skip
         refine box_step ?hg (N := 8) ?hd (cs := #[.int .i64 0, .int .i64 0, .slice none 0 0, .int .i64 0, .int .i64 0, .int .i64 0, .slice none 0 0, .int .i64 0, .slice none 0 0]) (t := 40) ?hr ?_; (case hd => rfl); (case hg => rfl); (case hr => first | (go_simp; done) | (go_simp; rfl))
         intro gb468 hg w16 hbox hb
         have n0_ := Aside0.mk (below_step bl hb)
         have n1_ := Aside0.mk (hbox)
         have n2_ := Aside0.mk ((by rw [hg]; exact (below_size bl) : w.heap.size ≤ gb468))
         have n3_ := Aside0.mk ((by rw [hg]; exact (below_size bl) : w.heap.size ≤ gb468))
         clear HB
         have HB := n0_
         have BK468 := n1_
         have GW468 := n2_
         have GE468 := n3_
         clear n0_ n1_ n2_ n3_
         clear hb hbox hg
         refine hK.out _ _ ⟨(bc HB.out hw466_0), (bc HB.out hw466_1), (bc HB.out hw466_2), (bc HB.out hw466_3), (bc HB.out hw466_4), (bc HB.out hw466_5), (bc HB.out hw466_6), (bc HB.out hw466_7), (bc HB.out hw466_8), (bc HB.out hw467_0), (bc HB.out hw467_1), (bc HB.out hw467_2), (bc HB.out hw467_3), (bc HB.out hw467_4), (bc HB.out hw467_5), (bc HB.out hw467_6), (bc HB.out hw467_7), (bc HB.out hw467_8)⟩ (fun hHeld => ?_)
         clear hK K
         refine norm_ (a' := ?_) ?_ ?_
         rotate_left
         ·
          show Act.put _ (some 8) _ = _
          simp only [Act.put, List.setIfInBounds_toArray, List.set_cons_zero, List.set_cons_succ, i64_w, i32_w]
          rfl
         refine one_ (i := 9) (N := some 9) #[true, true, true, true, true, true, true, true, true, true, false, false] rfl rfl (one_of HT_.out (by kernel_rfl)) (by decide) (fun K hK => ?_)
         refine box_step ?hg (N := 9) ?hd (cs := #[.int .i64 0, .int .i64 0, .slice none 0 0, .int .i64 0, .int .i64 0, .int .i64 0, .slice none 0 0, .int .i64 0, .slice none 0 0]) (t := 40) ?hr ?_; (case hd => rfl); (case hg => rfl); (case hr => first | (go_simp; done) | (go_simp; rfl))
         intro gb469 hg w17 hbox hb
         have n0_ := Aside0.mk (blk_below (g := gb468) (o := .cells #[.int .i64 0, .int .i64 0, .slice none 0 0, .int .i64 0, .int .i64 0, .int .i64 0, .slice none 0 0, .int .i64 0, .slice none 0 0] 40 (0, 0)) bk hb)
         have n1_ := Aside0.mk (below_step bl hb)
         have n2_ := Aside0.mk (hbox)
         have n3_ := Aside0.mk ((by rw [hg]; exact (below_size bl) : w.heap.size ≤ gb469))
         have n4_ := Aside0.mk ((by rw [hg]; exact (below_size bl) : w.heap.size ≤ gb469))
         have n5_ := Aside0.mk ((by rw [hg]; exact Nat.ne_of_lt blt : gb468 ≠ gb469))
         have n6_ := Aside0.mk ((by rw [hg]; exact Nat.ne_of_gt blt : gb469 ≠ gb468))
         clear BK468
         clear HB
         have BK468 := n0_
         have HB := n1_
         have BK469 := n2_
         have GW469 := n3_
         have GE469 := n4_
         have NB468_469 := n5_
         have NB469_468 := n6_
         clear n0_ n1_ n2_ n3_ n4_ n5_ n6_
         clear hb hbox hg
         refine hK.out _ _ ⟨(bc HB.out hw466_0), (bc HB.out hw466_1), (bc HB.out hw466_2), (bc HB.out hw466_3), (bc HB.out hw466_4), (bc HB.out hw466_5), (bc HB.out hw466_6), (bc HB.out hw466_7), (bc HB.out hw466_8), (bc HB.out hw467_0), (bc HB.out hw467_1), (bc HB.out hw467_2), (bc HB.out hw467_3), (bc HB.out hw467_4), (bc HB.out hw467_5), (bc HB.out hw467_6), (bc HB.out hw467_7), (bc HB.out hw467_8)⟩ (fun hHeld => ?_)
         clear hK K
         refine norm_ (a' := ?_) ?_ ?_
         rotate_left
         ·
          show Act.put _ (some 9) _ = _
          simp only [Act.put, List.setIfInBounds_toArray, List.set_cons_zero, List.set_cons_succ, i64_w, i32_w]
          rfl
         exact norm_ (by simp only [putAll, Act.put, List.setIfInBounds_toArray, List.set_cons_zero, List.set_cons_succ]) (hCont (gb468, gb469) _ ⟨hHeld, bk, bk, GW468.out, GE468.out, NB469_468.out, NB468_469.out, GW469.out, GE469.out, bl⟩)
        ·
         skip
         refine box_step ?hg (N := 9) ?hd (cs := #[.int .i64 0, .int .i64 0, .slice none 0 0, .int .i64 0, .int .i64 0, .int .i64 0, .slice none 0 0, .int .i64 0, .slice none 0 0]) (t := 40) ?hr ?_; (case hd => rfl); (case hg => rfl); (case hr => first | (go_simp; done) | (go_simp; rfl))
         intro gb469 hg w16 hbox hb
         have n0_ := Aside0.mk (below_step bl hb)
         have n1_ := Aside0.mk (hbox)
         have n2_ := Aside0.mk ((by rw [hg]; exact (below_size bl) : w.heap.size ≤ gb469))
         have n3_ := Aside0.mk ((by rw [hg]; exact (below_size bl) : w.heap.size ≤ gb469))
         clear HB
         have HB := n0_
         have BK469 := n1_
         have GW469 := n2_
         have GE469 := n3_
         clear n0_ n1_ n2_ n3_
         clear hb hbox hg
         refine hK.out _ _ ⟨(bc HB.out hw466_0), (bc HB.out hw466_1), (bc HB.out hw466_2), (bc HB.out hw466_3), (bc HB.out hw466_4), (bc HB.out hw466_5), (bc HB.out hw466_6), (bc HB.out hw466_7), (bc HB.out hw466_8), (bc HB.out hw467_0), (bc HB.out hw467_1), (bc HB.out hw467_2), (bc HB.out hw467_3), (bc HB.out hw467_4), (bc HB.out hw467_5), (bc HB.out hw467_6), (bc HB.out hw467_7), (bc HB.out hw467_8)⟩ (fun hHeld => ?_)
         clear hK K
         refine norm_ (a' := ?_) ?_ ?_
         rotate_left
         ·
          show Act.put _ (some 9) _ = _
          simp only [Act.put, List.setIfInBounds_toArray, List.set_cons_zero, List.set_cons_succ, i64_w, i32_w]
          rfl
         refine one_ (i := 8) (N := some 8) #[true, true, true, true, true, true, true, true, true, true, false, false] rfl rfl (one_of HT_.out (by kernel_rfl)) (by decide) (fun K hK => ?_)
         refine box_step ?hg (N := 8) ?hd (cs := #[.int .i64 0, .int .i64 0, .slice none 0 0, .int .i64 0, .int .i64 0, .int .i64 0, .slice none 0 0, .int .i64 0, .slice none 0 0]) (t := 40) ?hr ?_; (case hd => rfl); (case hg => rfl); (case hr => first | (go_simp; done) | (go_simp; rfl))
         intro gb468 hg w17 hbox hb
         have n0_ := Aside0.mk (blk_below (g := gb469) (o := .cells #[.int .i64 0, .int .i64 0, .slice none 0 0, .int .i64 0, .int .i64 0, .int .i64 0, .slice none 0 0, .int .i64 0, .slice none 0 0] 40 (0, 0)) bk hb)
         have n1_ := Aside0.mk (below_step bl hb)
         have n2_ := Aside0.mk (hbox)
         have n3_ := Aside0.mk ((by rw [hg]; exact (below_size bl) : w.heap.size ≤ gb468))
         have n4_ := Aside0.mk ((by rw [hg]; exact (below_size bl) : w.heap.size ≤ gb468))
         have n5_ := Aside0.mk ((by rw [hg]; exact Nat.ne_of_lt blt : gb469 ≠ gb468))
         have n6_ := Aside0.mk ((by rw [hg]; exact Nat.ne_of_gt blt : gb468 ≠ gb469))
         clear BK469
         clear HB
         have BK469 := n0_
         have HB := n1_
         have BK468 := n2_
         have GW468 := n3_
         have GE468 := n4_
         have NB469_468 := n5_
         have NB468_469 := n6_
         clear n0_ n1_ n2_ n3_ n4_ n5_ n6_
         clear hb hbox hg
         refine hK.out _ _ ⟨(bc HB.out hw466_0), (bc HB.out hw466_1), (bc HB.out hw466_2), (bc HB.out hw466_3), (bc HB.out hw466_4), (bc HB.out hw466_5), (bc HB.out hw466_6), (bc HB.out hw466_7), (bc HB.out hw466_8), (bc HB.out hw467_0), (bc HB.out hw467_1), (bc HB.out hw467_2), (bc HB.out hw467_3), (bc HB.out hw467_4), (bc HB.out hw467_5), (bc HB.out hw467_6), (bc HB.out hw467_7), (bc HB.out hw467_8)⟩ (fun hHeld => ?_)
         clear hK K
         refine norm_ (a' := ?_) ?_ ?_
         rotate_left
         ·
          show Act.put _ (some 8) _ = _
          simp only [Act.put, List.setIfInBounds_toArray, List.set_cons_zero, List.set_cons_succ, i64_w, i32_w]
          rfl
         exact norm_ (by simp only [putAll, Act.put, List.setIfInBounds_toArray, List.set_cons_zero, List.set_cons_succ]) (hCont (gb468, gb469) _ ⟨hHeld, bk, bk, GW468.out, GE468.out, NB469_468.out, NB468_469.out, GW469.out, GE469.out, bl⟩)
       rintro ⟨gb468, gb469⟩ w18 ⟨hS_, h0_, h1_, h2_, h3_, h4_, h5_, h6_, h7_, h8_⟩
       have n0_ : Aside0 (w18.heap[gb468]? = some (.cells #[.int .i64 0, .int .i64 0, .slice none 0 0, .int .i64 0, .int .i64 0, .int .i64 0, .slice none 0 0, .int .i64 0, .slice none 0 0] 40 (0, 0))) := ⟨h0_⟩
       have n1_ : Aside0 (w18.heap[gb469]? = some (.cells #[.int .i64 0, .int .i64 0, .slice none 0 0, .int .i64 0, .int .i64 0, .int .i64 0, .slice none 0 0, .int .i64 0, .slice none 0 0] 40 (0, 0))) := ⟨h1_⟩
       have n2_ : Aside0 (w.heap.size ≤ gb468) := ⟨h2_⟩
       have n3_ : Aside0 (w.heap.size ≤ gb468) := ⟨h3_⟩
       have n4_ : Aside0 (gb469 ≠ gb468) := ⟨h4_⟩
       have n5_ : Aside0 (gb468 ≠ gb469) := ⟨h5_⟩
       have n6_ : Aside0 (w.heap.size ≤ gb469) := ⟨h6_⟩
       have n7_ : Aside0 (w.heap.size ≤ gb469) := ⟨h7_⟩
       have n8_ : Aside0 (Below w.heap.size w w18) := ⟨h8_⟩
       clear HB
       clear h0_ h1_ h2_ h3_ h4_ h5_ h6_ h7_ h8_
       have BK468 := n0_
       have BK469 := n1_
       have GW468 := n2_
       have GE468 := n3_
       have NB469_468 := n4_
       have NB468_469 := n5_
       have GW469 := n6_
       have GE469 := n7_
       have HB := n8_
       clear n0_ n1_ n2_ n3_ n4_ n5_ n6_ n7_ n8_
       have hHeld : w18.cell? (ad466.add ((x7_1).toNat * 9)) = some (.int .i64 ((rd_T40 l0 x7_1).f0)) ∧ w18.cell? ⟨(ad466.add ((x7_1).toNat * 9)).block, (ad466.add ((x7_1).toNat * 9)).off + 1, none⟩ = some (.int .i64 ((rd_T40 l0 x7_1).f1)) ∧ w18.cell? ⟨(ad466.add ((x7_1).toNat * 9)).block, (ad466.add ((x7_1).toNat * 9)).off + 2, none⟩ = some (.slice A466_2 ((rd_T40 l0 x7_1).f2.f0).length c466_2) ∧ w18.cell? ⟨(ad466.add ((x7_1).toNat * 9)).block, (ad466.add ((x7_1).toNat * 9)).off + 3, none⟩ = some (.int .i64 ((rd_T40 l0 x7_1).f2.f1.f0)) ∧ w18.cell? ⟨(ad466.add ((x7_1).toNat * 9)).block, (ad466.add ((x7_1).toNat * 9)).off + 4, none⟩ = some (.int .i64 ((rd_T40 l0 x7_1).f2.f1.f1)) ∧ w18.cell? ⟨(ad466.add ((x7_1).toNat * 9)).block, (ad466.add ((x7_1).toNat * 9)).off + 5, none⟩ = some (.int .i64 ((rd_T40 l0 x7_1).f2.f2)) ∧ w18.cell? ⟨(ad466.add ((x7_1).toNat * 9)).block, (ad466.add ((x7_1).toNat * 9)).off + 6, none⟩ = some (.slice A466_6 ((rd_T40 l0 x7_1).f3).length c466_6) ∧ w18.cell? ⟨(ad466.add ((x7_1).toNat * 9)).block, (ad466.add ((x7_1).toNat * 9)).off + 7, none⟩ = some (.int .i64 ((rd_T40 l0 x7_1).f4)) ∧ w18.cell? ⟨(ad466.add ((x7_1).toNat * 9)).block, (ad466.add ((x7_1).toNat * 9)).off + 8, none⟩ = some (.slice A466_8 ((rd_T40 l0 x7_1).f5).length c466_8) ∧ w18.cell? (ad467.add ((x7_1).toNat * 9)) = some (.int .i64 ((rd_T40 l1 x7_1).f0)) ∧ w18.cell? ⟨(ad467.add ((x7_1).toNat * 9)).block, (ad467.add ((x7_1).toNat * 9)).off + 1, none⟩ = some (.int .i64 ((rd_T40 l1 x7_1).f1)) ∧ w18.cell? ⟨(ad467.add ((x7_1).toNat * 9)).block, (ad467.add ((x7_1).toNat * 9)).off + 2, none⟩ = some (.slice A467_2 ((rd_T40 l1 x7_1).f2.f0).length c467_2) ∧ w18.cell? ⟨(ad467.add ((x7_1).toNat * 9)).block, (ad467.add ((x7_1).toNat * 9)).off + 3, none⟩ = some (.int .i64 ((rd_T40 l1 x7_1).f2.f1.f0)) ∧ w18.cell? ⟨(ad467.add ((x7_1).toNat * 9)).block, (ad467.add ((x7_1).toNat * 9)).off + 4, none⟩ = some (.int .i64 ((rd_T40 l1 x7_1).f2.f1.f1)) ∧ w18.cell? ⟨(ad467.add ((x7_1).toNat * 9)).block, (ad467.add ((x7_1).toNat * 9)).off + 5, none⟩ = some (.int .i64 ((rd_T40 l1 x7_1).f2.f2)) ∧ w18.cell? ⟨(ad467.add ((x7_1).toNat * 9)).block, (ad467.add ((x7_1).toNat * 9)).off + 6, none⟩ = some (.slice A467_6 ((rd_T40 l1 x7_1).f3).length c467_6) ∧ w18.cell? ⟨(ad467.add ((x7_1).toNat * 9)).block, (ad467.add ((x7_1).toNat * 9)).off + 7, none⟩ = some (.int .i64 ((rd_T40 l1 x7_1).f4)) ∧ w18.cell? ⟨(ad467.add ((x7_1).toNat * 9)).block, (ad467.add ((x7_1).toNat * 9)).off + 8, none⟩ = some (.slice A467_8 ((rd_T40 l1 x7_1).f5).length c467_8) := hS_
       refine norm_ (a' := ?_) ?_ ?_
       rotate_left
       ·
        simp only [putAll, Act.put, List.setIfInBounds_toArray, List.set_cons_zero, List.set_cons_succ]
        rfl
       refine one_ (i := 10) (N := none) #[true, true, true, true, true, true, true, true, true, true, true, false] rfl rfl (one_of HT_.out (by kernel_rfl)) (by decide) (fun K hK => ?_)
       have hs19 : w18.cell? ⟨gb468, 0, none⟩ = some (.int .i64 0) := (blk_cell BK468.out 0).trans rfl
       have hfs19 := blk_frozen BK468.out 0
       have hns19_1 := NB469_468.out
       have hms19_1 := NB468_469.out
       have hs20 : w18.cell? ⟨gb468, 1, none⟩ = some (.int .i64 0) := (blk_cell BK468.out 1).trans rfl
       have hfs20 := blk_frozen BK468.out 1
       have hns20_1 := NB469_468.out
       have hms20_1 := NB468_469.out
       have hs21 : w18.cell? ⟨gb468, 2, none⟩ = some (.slice none 0 0) := (blk_cell BK468.out 2).trans rfl
       have hfs21 := blk_frozen BK468.out 2
       have hns21_1 := NB469_468.out
       have hms21_1 := NB468_469.out
       have hs22 : w18.cell? ⟨gb468, 3, none⟩ = some (.int .i64 0) := (blk_cell BK468.out 3).trans rfl
       have hfs22 := blk_frozen BK468.out 3
       have hns22_1 := NB469_468.out
       have hms22_1 := NB468_469.out
       have hs23 : w18.cell? ⟨gb468, 4, none⟩ = some (.int .i64 0) := (blk_cell BK468.out 4).trans rfl
       have hfs23 := blk_frozen BK468.out 4
       have hns23_1 := NB469_468.out
       have hms23_1 := NB468_469.out
       have hs24 : w18.cell? ⟨gb468, 5, none⟩ = some (.int .i64 0) := (blk_cell BK468.out 5).trans rfl
       have hfs24 := blk_frozen BK468.out 5
       have hns24_1 := NB469_468.out
       have hms24_1 := NB468_469.out
       have hs25 : w18.cell? ⟨gb468, 6, none⟩ = some (.slice none 0 0) := (blk_cell BK468.out 6).trans rfl
       have hfs25 := blk_frozen BK468.out 6
       have hns25_1 := NB469_468.out
       have hms25_1 := NB468_469.out
       have hs26 : w18.cell? ⟨gb468, 7, none⟩ = some (.int .i64 0) := (blk_cell BK468.out 7).trans rfl
       have hfs26 := blk_frozen BK468.out 7
       have hns26_1 := NB469_468.out
       have hms26_1 := NB468_469.out
       have hs27 : w18.cell? ⟨gb468, 8, none⟩ = some (.slice none 0 0) := (blk_cell BK468.out 8).trans rfl
       have hfs27 := blk_frozen BK468.out 8
       have hns27_1 := NB469_468.out
       have hms27_1 := NB468_469.out
       obtain ⟨w18y, hw_⟩ : ∃ x, x = (((((((((w18.setCell ⟨gb468, 0, none⟩ (.int .i64 ((rd_T40 l0 x7_1).f0))).setCell ⟨gb468, 1, none⟩ (.int .i64 ((rd_T40 l0 x7_1).f1))).setCell ⟨gb468, 2, none⟩ (.slice A466_2 ((rd_T40 l0 x7_1).f2.f0).length c466_2)).setCell ⟨gb468, 3, none⟩ (.int .i64 ((rd_T40 l0 x7_1).f2.f1.f0))).setCell ⟨gb468, 4, none⟩ (.int .i64 ((rd_T40 l0 x7_1).f2.f1.f1))).setCell ⟨gb468, 5, none⟩ (.int .i64 ((rd_T40 l0 x7_1).f2.f2))).setCell ⟨gb468, 6, none⟩ (.slice A466_6 ((rd_T40 l0 x7_1).f3).length c466_6)).setCell ⟨gb468, 7, none⟩ (.int .i64 ((rd_T40 l0 x7_1).f4))).setCell ⟨gb468, 8, none⟩ (.slice A466_8 ((rd_T40 l0 x7_1).f5).length c466_8)) := ⟨_, rfl⟩
       have keep_ : ∀ (a : Addr) (v : Value), a.block ≠ gb468 → w18.cell? a = some v → w18y.cell? a = some v := by
        intro a v ha h
        rw [hw_]
        iterate 9 refine cf ha ?_
        exact h
       have kb_ : ∀ (b : Nat) (cs : Array Value) (t : TypeId), b ≠ gb468 → w18.heap[b]? = some (.cells cs t (0, 0)) → w18y.heap[b]? = some (.cells cs t (0, 0)) := by
        intro b cs t ha h
        rw [hw_]
        iterate 9 refine blk_far ?_ ha _
        exact h
       have kg_ : w18y.heap[gb468]? = some (.cells #[.int .i64 ((rd_T40 l0 x7_1).f0), .int .i64 ((rd_T40 l0 x7_1).f1), .slice A466_2 ((rd_T40 l0 x7_1).f2.f0).length c466_2, .int .i64 ((rd_T40 l0 x7_1).f2.f1.f0), .int .i64 ((rd_T40 l0 x7_1).f2.f1.f1), .int .i64 ((rd_T40 l0 x7_1).f2.f2), .slice A466_6 ((rd_T40 l0 x7_1).f3).length c466_6, .int .i64 ((rd_T40 l0 x7_1).f4), .slice A466_8 ((rd_T40 l0 x7_1).f5).length c466_8] 40 (0, 0)) := by
        rw [hw_]
        refine E_in ?_
        iterate 9 refine E_set ?_
        exact ⟨_, BK468.out, by (try dsimp only); simp only [List.setIfInBounds_toArray, List.set_cons_zero, List.set_cons_succ]⟩
       have kl_ : Below w.heap.size w w18y := by
        rw [hw_]
        iterate 9 refine below_set ?_ GE468.out
        exact HB.out
       refine skip_ (w1 := w18y) (by rfl) rfl ?_ ?_
       ·
        go_simp
        try (first | rfl | exact hw_.symm | (rw [hw_]) | (simp only [hw_]))
       refine hK.out _ _ ⟨(keep_ _ _ (by first | exact ne_rd hw466_0 GW468.out | exact ne_rd' hw466_0 GW468.out) (hHeld.1)), (keep_ _ _ (by first | exact ne_rd hw466_1 GW468.out | exact ne_rd' hw466_1 GW468.out) (hHeld.2.1)), (keep_ _ _ (by first | exact ne_rd hw466_2 GW468.out | exact ne_rd' hw466_2 GW468.out) (hHeld.2.2.1)), (keep_ _ _ (by first | exact ne_rd hw466_3 GW468.out | exact ne_rd' hw466_3 GW468.out) (hHeld.2.2.2.1)), (keep_ _ _ (by first | exact ne_rd hw466_4 GW468.out | exact ne_rd' hw466_4 GW468.out) (hHeld.2.2.2.2.1)), (keep_ _ _ (by first | exact ne_rd hw466_5 GW468.out | exact ne_rd' hw466_5 GW468.out) (hHeld.2.2.2.2.2.1)), (keep_ _ _ (by first | exact ne_rd hw466_6 GW468.out | exact ne_rd' hw466_6 GW468.out) (hHeld.2.2.2.2.2.2.1)), (keep_ _ _ (by first | exact ne_rd hw466_7 GW468.out | exact ne_rd' hw466_7 GW468.out) (hHeld.2.2.2.2.2.2.2.1)), (keep_ _ _ (by first | exact ne_rd hw466_8 GW468.out | exact ne_rd' hw466_8 GW468.out) (hHeld.2.2.2.2.2.2.2.2.1)), (keep_ _ _ (by first | exact ne_rd hw467_0 GW468.out | exact ne_rd' hw467_0 GW468.out) (hHeld.2.2.2.2.2.2.2.2.2.1)), (keep_ _ _ (by first | exact ne_rd hw467_1 GW468.out | exact ne_rd' hw467_1 GW468.out) (hHeld.2.2.2.2.2.2.2.2.2.2.1)), (keep_ _ _ (by first | exact ne_rd hw467_2 GW468.out | exact ne_rd' hw467_2 GW468.out) (hHeld.2.2.2.2.2.2.2.2.2.2.2.1)), (keep_ _ _ (by first | exact ne_rd hw467_3 GW468.out | exact ne_rd' hw467_3 GW468.out) (hHeld.2.2.2.2.2.2.2.2.2.2.2.2.1)), (keep_ _ _ (by first | exact ne_rd hw467_4 GW468.out | exact ne_rd' hw467_4 GW468.out) (hHeld.2.2.2.2.2.2.2.2.2.2.2.2.2.1)), (keep_ _ _ (by first | exact ne_rd hw467_5 GW468.out | exact ne_rd' hw467_5 GW468.out) (hHeld.2.2.2.2.2.2.2.2.2.2.2.2.2.2.1)), (keep_ _ _ (by first | exact ne_rd hw467_6 GW468.out | exact ne_rd' hw467_6 GW468.out) (hHeld.2.2.2.2.2.2.2.2.2.2.2.2.2.2.2.1)), (keep_ _ _ (by first | exact ne_rd hw467_7 GW468.out | exact ne_rd' hw467_7 GW468.out) (hHeld.2.2.2.2.2.2.2.2.2.2.2.2.2.2.2.2.1)), (keep_ _ _ (by first | exact ne_rd hw467_8 GW468.out | exact ne_rd' hw467_8 GW468.out) (hHeld.2.2.2.2.2.2.2.2.2.2.2.2.2.2.2.2.2))⟩ (fun hHeld => ?_)
       clear hK K
       have n0_ := Aside0.mk (kb_ _ _ _ NB469_468.out BK469.out)
       have n1_ := Aside0.mk kg_
       have n2_ := Aside0.mk kl_
       clear keep_ kb_ kg_ kl_ hw_ BK469 BK468 HB
       have BK469 := n0_
       have BK468 := n1_
       have HB := n2_
       clear n0_ n1_ n2_
       refine one_ (i := 11) (N := none) #[true, true, true, true, true, true, true, true, true, true, true, true] rfl rfl (one_of HT_.out (by kernel_rfl)) (by decide) (fun K hK => ?_)
       have hs28 : w18y.cell? ⟨gb469, 0, none⟩ = some (.int .i64 0) := (blk_cell BK469.out 0).trans rfl
       have hfs28 := blk_frozen BK469.out 0
       have hns28_0 := NB468_469.out
       have hms28_0 := NB469_468.out
       have hs29 : w18y.cell? ⟨gb469, 1, none⟩ = some (.int .i64 0) := (blk_cell BK469.out 1).trans rfl
       have hfs29 := blk_frozen BK469.out 1
       have hns29_0 := NB468_469.out
       have hms29_0 := NB469_468.out
       have hs30 : w18y.cell? ⟨gb469, 2, none⟩ = some (.slice none 0 0) := (blk_cell BK469.out 2).trans rfl
       have hfs30 := blk_frozen BK469.out 2
       have hns30_0 := NB468_469.out
       have hms30_0 := NB469_468.out
       have hs31 : w18y.cell? ⟨gb469, 3, none⟩ = some (.int .i64 0) := (blk_cell BK469.out 3).trans rfl
       have hfs31 := blk_frozen BK469.out 3
       have hns31_0 := NB468_469.out
       have hms31_0 := NB469_468.out
       have hs32 : w18y.cell? ⟨gb469, 4, none⟩ = some (.int .i64 0) := (blk_cell BK469.out 4).trans rfl
       have hfs32 := blk_frozen BK469.out 4
       have hns32_0 := NB468_469.out
       have hms32_0 := NB469_468.out
       have hs33 : w18y.cell? ⟨gb469, 5, none⟩ = some (.int .i64 0) := (blk_cell BK469.out 5).trans rfl
       have hfs33 := blk_frozen BK469.out 5
       have hns33_0 := NB468_469.out
       have hms33_0 := NB469_468.out
       have hs34 : w18y.cell? ⟨gb469, 6, none⟩ = some (.slice none 0 0) := (blk_cell BK469.out 6).trans rfl
       have hfs34 := blk_frozen BK469.out 6
       have hns34_0 := NB468_469.out
       have hms34_0 := NB469_468.out
       have hs35 : w18y.cell? ⟨gb469, 7, none⟩ = some (.int .i64 0) := (blk_cell BK469.out 7).trans rfl
       have hfs35 := blk_frozen BK469.out 7
       have hns35_0 := NB468_469.out
       have hms35_0 := NB469_468.out
       have hs36 : w18y.cell? ⟨gb469, 8, none⟩ = some (.slice none 0 0) := (blk_cell BK469.out 8).trans rfl
       have hfs36 := blk_frozen BK469.out 8
       have hns36_0 := NB468_469.out
       have hms36_0 := NB469_468.out
       obtain ⟨w18z, hw_⟩ : ∃ x, x = (((((((((w18y.setCell ⟨gb469, 0, none⟩ (.int .i64 ((rd_T40 l1 x7_1).f0))).setCell ⟨gb469, 1, none⟩ (.int .i64 ((rd_T40 l1 x7_1).f1))).setCell ⟨gb469, 2, none⟩ (.slice A467_2 ((rd_T40 l1 x7_1).f2.f0).length c467_2)).setCell ⟨gb469, 3, none⟩ (.int .i64 ((rd_T40 l1 x7_1).f2.f1.f0))).setCell ⟨gb469, 4, none⟩ (.int .i64 ((rd_T40 l1 x7_1).f2.f1.f1))).setCell ⟨gb469, 5, none⟩ (.int .i64 ((rd_T40 l1 x7_1).f2.f2))).setCell ⟨gb469, 6, none⟩ (.slice A467_6 ((rd_T40 l1 x7_1).f3).length c467_6)).setCell ⟨gb469, 7, none⟩ (.int .i64 ((rd_T40 l1 x7_1).f4))).setCell ⟨gb469, 8, none⟩ (.slice A467_8 ((rd_T40 l1 x7_1).f5).length c467_8)) := ⟨_, rfl⟩
       have keep_ : ∀ (a : Addr) (v : Value), a.block ≠ gb469 → w18y.cell? a = some v → w18z.cell? a = some v := by
        intro a v ha h
        rw [hw_]
        iterate 9 refine cf ha ?_
        exact h
       have kb_ : ∀ (b : Nat) (cs : Array Value) (t : TypeId), b ≠ gb469 → w18y.heap[b]? = some (.cells cs t (0, 0)) → w18z.heap[b]? = some (.cells cs t (0, 0)) := by
        intro b cs t ha h
        rw [hw_]
        iterate 9 refine blk_far ?_ ha _
        exact h
       have kg_ : w18z.heap[gb469]? = some (.cells #[.int .i64 ((rd_T40 l1 x7_1).f0), .int .i64 ((rd_T40 l1 x7_1).f1), .slice A467_2 ((rd_T40 l1 x7_1).f2.f0).length c467_2, .int .i64 ((rd_T40 l1 x7_1).f2.f1.f0), .int .i64 ((rd_T40 l1 x7_1).f2.f1.f1), .int .i64 ((rd_T40 l1 x7_1).f2.f2), .slice A467_6 ((rd_T40 l1 x7_1).f3).length c467_6, .int .i64 ((rd_T40 l1 x7_1).f4), .slice A467_8 ((rd_T40 l1 x7_1).f5).length c467_8] 40 (0, 0)) := by
        rw [hw_]
        refine E_in ?_
        iterate 9 refine E_set ?_
        exact ⟨_, BK469.out, by (try dsimp only); simp only [List.setIfInBounds_toArray, List.set_cons_zero, List.set_cons_succ]⟩
       have kl_ : Below w.heap.size w w18z := by
        rw [hw_]
        iterate 9 refine below_set ?_ GE469.out
        exact HB.out
       refine skip_ (w1 := w18z) (by rfl) rfl ?_ ?_
       ·
        go_simp
        try (first | rfl | exact hw_.symm | (rw [hw_]) | (simp only [hw_]))
       refine hK.out _ _ ⟨(keep_ _ _ (by first | exact ne_rd hw466_0 GW469.out | exact ne_rd' hw466_0 GW469.out) (hHeld.1)), (keep_ _ _ (by first | exact ne_rd hw466_1 GW469.out | exact ne_rd' hw466_1 GW469.out) (hHeld.2.1)), (keep_ _ _ (by first | exact ne_rd hw466_2 GW469.out | exact ne_rd' hw466_2 GW469.out) (hHeld.2.2.1)), (keep_ _ _ (by first | exact ne_rd hw466_3 GW469.out | exact ne_rd' hw466_3 GW469.out) (hHeld.2.2.2.1)), (keep_ _ _ (by first | exact ne_rd hw466_4 GW469.out | exact ne_rd' hw466_4 GW469.out) (hHeld.2.2.2.2.1)), (keep_ _ _ (by first | exact ne_rd hw466_5 GW469.out | exact ne_rd' hw466_5 GW469.out) (hHeld.2.2.2.2.2.1)), (keep_ _ _ (by first | exact ne_rd hw466_6 GW469.out | exact ne_rd' hw466_6 GW469.out) (hHeld.2.2.2.2.2.2.1)), (keep_ _ _ (by first | exact ne_rd hw466_7 GW469.out | exact ne_rd' hw466_7 GW469.out) (hHeld.2.2.2.2.2.2.2.1)), (keep_ _ _ (by first | exact ne_rd hw466_8 GW469.out | exact ne_rd' hw466_8 GW469.out) (hHeld.2.2.2.2.2.2.2.2.1)), (keep_ _ _ (by first | exact ne_rd hw467_0 GW469.out | exact ne_rd' hw467_0 GW469.out) (hHeld.2.2.2.2.2.2.2.2.2.1)), (keep_ _ _ (by first | exact ne_rd hw467_1 GW469.out | exact ne_rd' hw467_1 GW469.out) (hHeld.2.2.2.2.2.2.2.2.2.2.1)), (keep_ _ _ (by first | exact ne_rd hw467_2 GW469.out | exact ne_rd' hw467_2 GW469.out) (hHeld.2.2.2.2.2.2.2.2.2.2.2.1)), (keep_ _ _ (by first | exact ne_rd hw467_3 GW469.out | exact ne_rd' hw467_3 GW469.out) (hHeld.2.2.2.2.2.2.2.2.2.2.2.2.1)), (keep_ _ _ (by first | exact ne_rd hw467_4 GW469.out | exact ne_rd' hw467_4 GW469.out) (hHeld.2.2.2.2.2.2.2.2.2.2.2.2.2.1)), (keep_ _ _ (by first | exact ne_rd hw467_5 GW469.out | exact ne_rd' hw467_5 GW469.out) (hHeld.2.2.2.2.2.2.2.2.2.2.2.2.2.2.1)), (keep_ _ _ (by first | exact ne_rd hw467_6 GW469.out | exact ne_rd' hw467_6 GW469.out) (hHeld.2.2.2.2.2.2.2.2.2.2.2.2.2.2.2.1)), (keep_ _ _ (by first | exact ne_rd hw467_7 GW469.out | exact ne_rd' hw467_7 GW469.out) (hHeld.2.2.2.2.2.2.2.2.2.2.2.2.2.2.2.2.1)), (keep_ _ _ (by first | exact ne_rd hw467_8 GW469.out | exact ne_rd' hw467_8 GW469.out) (hHeld.2.2.2.2.2.2.2.2.2.2.2.2.2.2.2.2.2))⟩ (fun hHeld => ?_)
       clear hK K
       have n0_ := Aside0.mk (kb_ _ _ _ NB468_469.out BK468.out)
       have n1_ := Aside0.mk kg_
       have n2_ := Aside0.mk kl_
       clear keep_ kb_ kg_ kl_ hw_ BK468 BK469 HB
       have BK468 := n0_
       have BK469 := n1_
       have HB := n2_
       clear n0_ n1_ n2_
       refine done_ (done_of HT_.out (by kernel_rfl)) ?_
       have hnb37 := NB468_469.out
       have hnc37 := NB469_468.out
       obtain ⟨hcz38_0, hcz38_1, hcz38_2, hcz38_3, hcz38_4, hcz38_5, hcz38_6, hcz38_7, hcz38_8⟩ := cells9 BK468.out
       obtain ⟨hfz38_0, hfz38_1, hfz38_2, hfz38_3, hfz38_4, hfz38_5, hfz38_6, hfz38_7, hfz38_8⟩ := frz9 BK468.out
       obtain ⟨hcz39_0, hcz39_1, hcz39_2, hcz39_3, hcz39_4, hcz39_5, hcz39_6, hcz39_7, hcz39_8⟩ := cells9 BK469.out
       obtain ⟨hfz39_0, hfz39_1, hfz39_2, hfz39_3, hfz39_4, hfz39_5, hfz39_6, hfz39_7, hfz39_8⟩ := frz9 BK469.out
       have H := HQ_.out
       clear HQ_
       by_cases c8 : ((rd_T40 l0 x7_1).f0) = ((rd_T40 l1 x7_1).f0)
       ·
        rw [if_pos c8] at H
        have c8b0 : (((rd_T40 l0 x7_1).f0) == ((rd_T40 l1 x7_1).f0)) = true := beq_iff_eq.mpr c8
        have c8b1 : (((rd_T40 l0 x7_1).f0) != ((rd_T40 l1 x7_1).f0)) = false := bne_eq_false_iff_eq.mpr c8
        clear c8
        by_cases c9 : ((rd_T40 l0 x7_1).f1) = ((rd_T40 l1 x7_1).f1)
        ·
         rw [if_pos c9] at H
         have c9b0 : (((rd_T40 l0 x7_1).f1) == ((rd_T40 l1 x7_1).f1)) = true := beq_iff_eq.mpr c9
         have c9b1 : (((rd_T40 l0 x7_1).f1) != ((rd_T40 l1 x7_1).f1)) = false := bne_eq_false_iff_eq.mpr c9
         clear c9
         by_cases c10 : ((rd_T40 l0 x7_1).f4) = ((rd_T40 l1 x7_1).f4)
         ·
          rw [if_pos c10] at H
          have c10b0 : (((rd_T40 l0 x7_1).f4) == ((rd_T40 l1 x7_1).f4)) = true := beq_iff_eq.mpr c10
          have c10b1 : (((rd_T40 l0 x7_1).f4) != ((rd_T40 l1 x7_1).f4)) = false := bne_eq_false_iff_eq.mpr c10
          clear c10
          by_cases c11 : (strOfNums ((rd_T40 l0 x7_1).f5)).toList = (strOfNums ((rd_T40 l1 x7_1).f5)).toList
          ·
           rw [if_pos c11] at H
           have c11b0 : ((strOfNums ((rd_T40 l0 x7_1).f5)).toList == (strOfNums ((rd_T40 l1 x7_1).f5)).toList) = true := beq_iff_eq.mpr c11
           have c11b1 : ((strOfNums ((rd_T40 l0 x7_1).f5)).toList != (strOfNums ((rd_T40 l1 x7_1).f5)).toList) = false := bne_eq_false_iff_eq.mpr c11
           clear c11
           replace H := Option.bind_eq_some_iff.mp H
           obtain ⟨t470, A120, H⟩ := H
           replace H : (if t470 = true then (if (!(((rd_T40 l0 x7_1).f2.f1.f0) == ((rd_T40 l1 x7_1).f2.f1.f0)) || (!(((rd_T40 l0 x7_1).f2.f1.f1) == ((rd_T40 l1 x7_1).f2.f1.f1)))) = true then (some false) else (if ((rd_T40 l0 x7_1).f2.f2) = ((rd_T40 l1 x7_1).f2.f2) then ((runnelref04_Same.f k1 ((rd_T40 l0 x7_1).f3) ((rd_T40 l1 x7_1).f3)).bind fun t471 => (if t471 = true then (runnelref26_Same.l0 k1 l0 l1 (wrap64 (x7_1 + 1))) else (some false))) else (some false))) else (some false)) = some r := H
           have A12 := Aside0.mk A120
           clear A120
           by_cases c13 : t470 = true
           ·
            subst c13
            have H1 : (if (!(((rd_T40 l0 x7_1).f2.f1.f0) == ((rd_T40 l1 x7_1).f2.f1.f0)) || (!(((rd_T40 l0 x7_1).f2.f1.f1) == ((rd_T40 l1 x7_1).f2.f1.f1)))) = true then (some false) else (if ((rd_T40 l0 x7_1).f2.f2) = ((rd_T40 l1 x7_1).f2.f2) then ((runnelref04_Same.f k1 ((rd_T40 l0 x7_1).f3) ((rd_T40 l1 x7_1).f3)).bind fun t471 => (if t471 = true then (runnelref26_Same.l0 k1 l0 l1 (wrap64 (x7_1 + 1))) else (some false))) else (some false))) = some r := by rw [if_pos rfl] at H; exact H
            clear H
            have H := H1
            clear H1
            by_cases c14 : (!(((rd_T40 l0 x7_1).f2.f1.f0) == ((rd_T40 l1 x7_1).f2.f1.f0)) || (!(((rd_T40 l0 x7_1).f2.f1.f1) == ((rd_T40 l1 x7_1).f2.f1.f1)))) = true
            ·
             rw [if_pos c14] at H
             have c14b0 : (!(((rd_T40 l0 x7_1).f2.f1.f0) == ((rd_T40 l1 x7_1).f2.f1.f0)) || (!(((rd_T40 l0 x7_1).f2.f1.f1) == ((rd_T40 l1 x7_1).f2.f1.f1)))) = true := c14
             clear c14
             obtain rfl := Option.some.inj H
             have hcv40 := Kd.C_string (P := Try.prog) (A := A466_8) (c := c466_8) Try.underlying22 Try.underlying5 Try.underlying9 (Kd.C_below HR466_8.out HB.out)
             have hcv40d := fun n_ : Nat => Kd.C_string (P := Try.prog) (A := A466_8) (c := c466_8) Try.underlying22 Try.underlying5 Try.underlying9 (Kd.C_drewN ((Kd.C_below HR466_8.out HB.out)) n_)
             have hcv41 := Kd.C_string (P := Try.prog) (A := A467_8) (c := c467_8) Try.underlying22 Try.underlying5 Try.underlying9 (Kd.C_below HR467_8.out HB.out)
             have hcv41d := fun n_ : Nat => Kd.C_string (P := Try.prog) (A := A467_8) (c := c467_8) Try.underlying22 Try.underlying5 Try.underlying9 (Kd.C_drewN ((Kd.C_below HR467_8.out HB.out)) n_)
             try go_wp2_with (first | (go_at_call 45; (with_reducible refine (runnelref03_Same.calls k1 _ _ ((rd_T40 l0 x7_1).f2.f0) _ _ ((rd_T40 l1 x7_1).f2.f0) true _ ?side1 ?side2 ?side3 ?side4 A12.out).mono ?_); (case side1 => exact Kd.C_below HR466_2.out bl); (case side2 => exact HC466_2.out); (case side3 => exact Kd.C_below HR467_2.out bl); (case side4 => exact HC467_2.out); rintro e w42 ⟨rfl, hb⟩; have n0_ := Aside0.mk (blk_below (g := gb468) (o := .cells #[.int .i64 ((rd_T40 l0 x7_1).f0), .int .i64 ((rd_T40 l0 x7_1).f1), .slice A466_2 ((rd_T40 l0 x7_1).f2.f0).length c466_2, .int .i64 ((rd_T40 l0 x7_1).f2.f1.f0), .int .i64 ((rd_T40 l0 x7_1).f2.f1.f1), .int .i64 ((rd_T40 l0 x7_1).f2.f2), .slice A466_6 ((rd_T40 l0 x7_1).f3).length c466_6, .int .i64 ((rd_T40 l0 x7_1).f4), .slice A466_8 ((rd_T40 l0 x7_1).f5).length c466_8] 40 (0, 0)) bk hb); have n1_ := Aside0.mk (blk_below (g := gb469) (o := .cells #[.int .i64 ((rd_T40 l1 x7_1).f0), .int .i64 ((rd_T40 l1 x7_1).f1), .slice A467_2 ((rd_T40 l1 x7_1).f2.f0).length c467_2, .int .i64 ((rd_T40 l1 x7_1).f2.f1.f0), .int .i64 ((rd_T40 l1 x7_1).f2.f1.f1), .int .i64 ((rd_T40 l1 x7_1).f2.f2), .slice A467_6 ((rd_T40 l1 x7_1).f3).length c467_6, .int .i64 ((rd_T40 l1 x7_1).f4), .slice A467_8 ((rd_T40 l1 x7_1).f5).length c467_8] 40 (0, 0)) bk hb); have n2_ := Aside0.mk (below_step bl hb); clear BK468; clear BK469; clear HB; have BK468 := n0_; have BK469 := n1_; have HB := n2_; clear n0_ n1_ n2_; (try clear hb); (try clear hb2); (try clear hk); (try clear hi); obtain ⟨hcz43_0, hcz43_1, hcz43_2, hcz43_3, hcz43_4, hcz43_5, hcz43_6, hcz43_7, hcz43_8⟩ := cells9 BK468.out; obtain ⟨hfz43_0, hfz43_1, hfz43_2, hfz43_3, hfz43_4, hfz43_5, hfz43_6, hfz43_7, hfz43_8⟩ := frz9 BK468.out; obtain ⟨hcz44_0, hcz44_1, hcz44_2, hcz44_3, hcz44_4, hcz44_5, hcz44_6, hcz44_7, hcz44_8⟩ := cells9 BK469.out; obtain ⟨hfz44_0, hfz44_1, hfz44_2, hfz44_3, hfz44_4, hfz44_5, hfz44_6, hfz44_7, hfz44_8⟩ := frz9 BK469.out))
             go_ret
             exact ⟨erq, by repeat (first | (with_reducible first | exact HB.out | apply below_alloc | apply pw_below_drewN | apply below_drew1 | refine below_set ?_ GE468.out | refine below_set ?_ GE469.out) | exact HB.out)⟩
            ·
             rw [if_neg c14] at H
             have c14b0 : (!(((rd_T40 l0 x7_1).f2.f1.f0) == ((rd_T40 l1 x7_1).f2.f1.f0)) || (!(((rd_T40 l0 x7_1).f2.f1.f1) == ((rd_T40 l1 x7_1).f2.f1.f1)))) = false := by simpa using c14
             clear c14
             by_cases c45 : ((rd_T40 l0 x7_1).f2.f2) = ((rd_T40 l1 x7_1).f2.f2)
             ·
              rw [if_pos c45] at H
              have c45b0 : (((rd_T40 l0 x7_1).f2.f2) == ((rd_T40 l1 x7_1).f2.f2)) = true := beq_iff_eq.mpr c45
              have c45b1 : (((rd_T40 l0 x7_1).f2.f2) != ((rd_T40 l1 x7_1).f2.f2)) = false := bne_eq_false_iff_eq.mpr c45
              clear c45
              replace H := Option.bind_eq_some_iff.mp H
              obtain ⟨t471, A460, H⟩ := H
              replace H : (if t471 = true then (runnelref26_Same.l0 k1 l0 l1 (wrap64 (x7_1 + 1))) else (some false)) = some r := H
              have A46 := Aside0.mk A460
              clear A460
              by_cases c47 : t471 = true
              ·
               subst c47
               have H1 : (runnelref26_Same.l0 k1 l0 l1 (wrap64 (x7_1 + 1))) = some r := by rw [if_pos rfl] at H; exact H
               clear H
               have H := H1
               clear H1
               have H' := Aside0.mk H
               clear H
               have hcv73 := Kd.C_string (P := Try.prog) (A := A466_8) (c := c466_8) Try.underlying22 Try.underlying5 Try.underlying9 (Kd.C_below HR466_8.out HB.out)
               have hcv73d := fun n_ : Nat => Kd.C_string (P := Try.prog) (A := A466_8) (c := c466_8) Try.underlying22 Try.underlying5 Try.underlying9 (Kd.C_drewN ((Kd.C_below HR466_8.out HB.out)) n_)
               have hcv74 := Kd.C_string (P := Try.prog) (A := A467_8) (c := c467_8) Try.underlying22 Try.underlying5 Try.underlying9 (Kd.C_below HR467_8.out HB.out)
               have hcv74d := fun n_ : Nat => Kd.C_string (P := Try.prog) (A := A467_8) (c := c467_8) Try.underlying22 Try.underlying5 Try.underlying9 (Kd.C_drewN ((Kd.C_below HR467_8.out HB.out)) n_)
               try go_wp2_with (first | (go_at_call 45; (with_reducible refine (runnelref03_Same.calls k1 _ _ ((rd_T40 l0 x7_1).f2.f0) _ _ ((rd_T40 l1 x7_1).f2.f0) true _ ?side1 ?side2 ?side3 ?side4 A12.out).mono ?_); (case side1 => exact Kd.C_below HR466_2.out bl); (case side2 => exact HC466_2.out); (case side3 => exact Kd.C_below HR467_2.out bl); (case side4 => exact HC467_2.out); rintro e w75 ⟨rfl, hb⟩; have n0_ := Aside0.mk (blk_below (g := gb468) (o := .cells #[.int .i64 ((rd_T40 l0 x7_1).f0), .int .i64 ((rd_T40 l0 x7_1).f1), .slice A466_2 ((rd_T40 l0 x7_1).f2.f0).length c466_2, .int .i64 ((rd_T40 l0 x7_1).f2.f1.f0), .int .i64 ((rd_T40 l0 x7_1).f2.f1.f1), .int .i64 ((rd_T40 l0 x7_1).f2.f2), .slice A466_6 ((rd_T40 l0 x7_1).f3).length c466_6, .int .i64 ((rd_T40 l0 x7_1).f4), .slice A466_8 ((rd_T40 l0 x7_1).f5).length c466_8] 40 (0, 0)) bk hb); have n1_ := Aside0.mk (blk_below (g := gb469) (o := .cells #[.int .i64 ((rd_T40 l1 x7_1).f0), .int .i64 ((rd_T40 l1 x7_1).f1), .slice A467_2 ((rd_T40 l1 x7_1).f2.f0).length c467_2, .int .i64 ((rd_T40 l1 x7_1).f2.f1.f0), .int .i64 ((rd_T40 l1 x7_1).f2.f1.f1), .int .i64 ((rd_T40 l1 x7_1).f2.f2), .slice A467_6 ((rd_T40 l1 x7_1).f3).length c467_6, .int .i64 ((rd_T40 l1 x7_1).f4), .slice A467_8 ((rd_T40 l1 x7_1).f5).length c467_8] 40 (0, 0)) bk hb); have n2_ := Aside0.mk (below_step bl hb); clear BK468; clear BK469; clear HB; have BK468 := n0_; have BK469 := n1_; have HB := n2_; clear n0_ n1_ n2_; (try clear hb); (try clear hb2); (try clear hk); (try clear hi); obtain ⟨hcz76_0, hcz76_1, hcz76_2, hcz76_3, hcz76_4, hcz76_5, hcz76_6, hcz76_7, hcz76_8⟩ := cells9 BK468.out; obtain ⟨hfz76_0, hfz76_1, hfz76_2, hfz76_3, hfz76_4, hfz76_5, hfz76_6, hfz76_7, hfz76_8⟩ := frz9 BK468.out; obtain ⟨hcz77_0, hcz77_1, hcz77_2, hcz77_3, hcz77_4, hcz77_5, hcz77_6, hcz77_7, hcz77_8⟩ := cells9 BK469.out; have hfz77_0 := blk_frozen BK469.out 0; have hfz77_1 := blk_frozen BK469.out 1; have hfz77_2 := blk_frozen BK469.out 2; have hfz77_3 := blk_frozen BK469.out 3; have hfz77_4 := blk_frozen BK469.out 4; have hfz77_5 := blk_frozen BK469.out 5; have hfz77_6 := blk_frozen BK469.out 6; have hfz77_7 := blk_frozen BK469.out 7; have hfz77_8 := blk_frozen BK469.out 8) | (go_at_call 13; (with_reducible refine (runnelref04_Same.calls k1 _ _ ((rd_T40 l0 x7_1).f3) _ _ ((rd_T40 l1 x7_1).f3) true _ ?side1 ?side2 ?side3 ?side4 A46.out).mono ?_); (case side1 => repeat (first | exact (Kd.C_below HR466_6.out HB.out) | (with_reducible refine Kd.C_alloc ?_ _) | (with_reducible refine Kd.C_drewN ?_ _) | (with_reducible refine Kd.C_drew ?_))); (case side2 => exact HC466_6.out); (case side3 => repeat (first | exact (Kd.C_below HR467_6.out HB.out) | (with_reducible refine Kd.C_alloc ?_ _) | (with_reducible refine Kd.C_drewN ?_ _) | (with_reducible refine Kd.C_drew ?_))); (case side4 => exact HC467_6.out); rintro e w' ⟨rfl, ⟨nd, rfl⟩⟩))
               go_roundg k1
               case measure => have := HK1.out; omega
               case rel => exact ⟨(wrap64 (x7_1 + 1)), (by first | rfl | (simp; done) | (simp [*]; done)), H', ⟨by have := HK1.out; omega⟩, ⟨bl⟩⟩
              ·
               replace c47 := Bool.eq_false_iff.mpr c47
               subst c47
               have H1 : (some false) = some r := by rw [if_neg (show ¬ (false = true) by decide)] at H; exact H
               clear H
               have H := H1
               clear H1
               obtain rfl := Option.some.inj H
               have hcv103 := Kd.C_string (P := Try.prog) (A := A466_8) (c := c466_8) Try.underlying22 Try.underlying5 Try.underlying9 (Kd.C_below HR466_8.out HB.out)
               have hcv103d := fun n_ : Nat => Kd.C_string (P := Try.prog) (A := A466_8) (c := c466_8) Try.underlying22 Try.underlying5 Try.underlying9 (Kd.C_drewN ((Kd.C_below HR466_8.out HB.out)) n_)
               have hcv104 := Kd.C_string (P := Try.prog) (A := A467_8) (c := c467_8) Try.underlying22 Try.underlying5 Try.underlying9 (Kd.C_below HR467_8.out HB.out)
               have hcv104d := fun n_ : Nat => Kd.C_string (P := Try.prog) (A := A467_8) (c := c467_8) Try.underlying22 Try.underlying5 Try.underlying9 (Kd.C_drewN ((Kd.C_below HR467_8.out HB.out)) n_)
               try go_wp2_with (first | (go_at_call 45; (with_reducible refine (runnelref03_Same.calls k1 _ _ ((rd_T40 l0 x7_1).f2.f0) _ _ ((rd_T40 l1 x7_1).f2.f0) true _ ?side1 ?side2 ?side3 ?side4 A12.out).mono ?_); (case side1 => exact Kd.C_below HR466_2.out bl); (case side2 => exact HC466_2.out); (case side3 => exact Kd.C_below HR467_2.out bl); (case side4 => exact HC467_2.out); rintro e w105 ⟨rfl, hb⟩; have n0_ := Aside0.mk (blk_below (g := gb468) (o := .cells #[.int .i64 ((rd_T40 l0 x7_1).f0), .int .i64 ((rd_T40 l0 x7_1).f1), .slice A466_2 ((rd_T40 l0 x7_1).f2.f0).length c466_2, .int .i64 ((rd_T40 l0 x7_1).f2.f1.f0), .int .i64 ((rd_T40 l0 x7_1).f2.f1.f1), .int .i64 ((rd_T40 l0 x7_1).f2.f2), .slice A466_6 ((rd_T40 l0 x7_1).f3).length c466_6, .int .i64 ((rd_T40 l0 x7_1).f4), .slice A466_8 ((rd_T40 l0 x7_1).f5).length c466_8] 40 (0, 0)) bk hb); have n1_ := Aside0.mk (blk_below (g := gb469) (o := .cells #[.int .i64 ((rd_T40 l1 x7_1).f0), .int .i64 ((rd_T40 l1 x7_1).f1), .slice A467_2 ((rd_T40 l1 x7_1).f2.f0).length c467_2, .int .i64 ((rd_T40 l1 x7_1).f2.f1.f0), .int .i64 ((rd_T40 l1 x7_1).f2.f1.f1), .int .i64 ((rd_T40 l1 x7_1).f2.f2), .slice A467_6 ((rd_T40 l1 x7_1).f3).length c467_6, .int .i64 ((rd_T40 l1 x7_1).f4), .slice A467_8 ((rd_T40 l1 x7_1).f5).length c467_8] 40 (0, 0)) bk hb); have n2_ := Aside0.mk (below_step bl hb); clear BK468; clear BK469; clear HB; have BK468 := n0_; have BK469 := n1_; have HB := n2_; clear n0_ n1_ n2_; (try clear hb); (try clear hb2); (try clear hk); (try clear hi); obtain ⟨hcz106_0, hcz106_1, hcz106_2, hcz106_3, hcz106_4, hcz106_5, hcz106_6, hcz106_7, hcz106_8⟩ := cells9 BK468.out; obtain ⟨hfz106_0, hfz106_1, hfz106_2, hfz106_3, hfz106_4, hfz106_5, hfz106_6, hfz106_7, hfz106_8⟩ := frz9 BK468.out; obtain ⟨hcz107_0, hcz107_1, hcz107_2, hcz107_3, hcz107_4, hcz107_5, hcz107_6, hcz107_7, hcz107_8⟩ := cells9 BK469.out; have hfz107_0 := blk_frozen BK469.out 0; have hfz107_1 := blk_frozen BK469.out 1; have hfz107_2 := blk_frozen BK469.out 2; have hfz107_3 := blk_frozen BK469.out 3; have hfz107_4 := blk_frozen BK469.out 4; have hfz107_5 := blk_frozen BK469.out 5; have hfz107_6 := blk_frozen BK469.out 6; have hfz107_7 := blk_frozen BK469.out 7; have hfz107_8 := blk_frozen BK469.out 8) | (go_at_call 13; (with_reducible refine (runnelref04_Same.calls k1 _ _ ((rd_T40 l0 x7_1).f3) _ _ ((rd_T40 l1 x7_1).f3) false _ ?side1 ?side2 ?side3 ?side4 A46.out).mono ?_); (case side1 => repeat (first | exact (Kd.C_below HR466_6.out HB.out) | (with_reducible refine Kd.C_alloc ?_ _) | (with_reducible refine Kd.C_drewN ?_ _) | (with_reducible refine Kd.C_drew ?_))); (case side2 => exact HC466_6.out); (case side3 => repeat (first | exact (Kd.C_below HR467_6.out HB.out) | (with_reducible refine Kd.C_alloc ?_ _) | (with_reducible refine Kd.C_drewN ?_ _) | (with_reducible refine Kd.C_drew ?_))); (case side4 => exact HC467_6.out); rintro e w' ⟨rfl, ⟨nd, rfl⟩⟩))
               go_ret
               exact ⟨erq, by repeat (first | (with_reducible first | exact HB.out | apply below_alloc | apply pw_below_drewN | apply below_drew1 | refine below_set ?_ GE468.out | refine below_set ?_ GE469.out) | exact HB.out)⟩
             ·
              rw [if_neg c45] at H
              have c45b0 : (((rd_T40 l0 x7_1).f2.f2) == ((rd_T40 l1 x7_1).f2.f2)) = false := beq_eq_false_iff_ne.mpr c45
              have c45b1 : (((rd_T40 l0 x7_1).f2.f2) != ((rd_T40 l1 x7_1).f2.f2)) = true := bne_iff_ne.mpr c45
              obtain rfl := Option.some.inj H
              have hcv133 := Kd.C_string (P := Try.prog) (A := A466_8) (c := c466_8) Try.underlying22 Try.underlying5 Try.underlying9 (Kd.C_below HR466_8.out HB.out)
              have hcv133d := fun n_ : Nat => Kd.C_string (P := Try.prog) (A := A466_8) (c := c466_8) Try.underlying22 Try.underlying5 Try.underlying9 (Kd.C_drewN ((Kd.C_below HR466_8.out HB.out)) n_)
              have hcv134 := Kd.C_string (P := Try.prog) (A := A467_8) (c := c467_8) Try.underlying22 Try.underlying5 Try.underlying9 (Kd.C_below HR467_8.out HB.out)
              have hcv134d := fun n_ : Nat => Kd.C_string (P := Try.prog) (A := A467_8) (c := c467_8) Try.underlying22 Try.underlying5 Try.underlying9 (Kd.C_drewN ((Kd.C_below HR467_8.out HB.out)) n_)
              try go_wp2_with (first | (go_at_call 45; (with_reducible refine (runnelref03_Same.calls k1 _ _ ((rd_T40 l0 x7_1).f2.f0) _ _ ((rd_T40 l1 x7_1).f2.f0) true _ ?side1 ?side2 ?side3 ?side4 A12.out).mono ?_); (case side1 => exact Kd.C_below HR466_2.out bl); (case side2 => exact HC466_2.out); (case side3 => exact Kd.C_below HR467_2.out bl); (case side4 => exact HC467_2.out); rintro e w135 ⟨rfl, hb⟩; have n0_ := Aside0.mk (blk_below (g := gb468) (o := .cells #[.int .i64 ((rd_T40 l0 x7_1).f0), .int .i64 ((rd_T40 l0 x7_1).f1), .slice A466_2 ((rd_T40 l0 x7_1).f2.f0).length c466_2, .int .i64 ((rd_T40 l0 x7_1).f2.f1.f0), .int .i64 ((rd_T40 l0 x7_1).f2.f1.f1), .int .i64 ((rd_T40 l0 x7_1).f2.f2), .slice A466_6 ((rd_T40 l0 x7_1).f3).length c466_6, .int .i64 ((rd_T40 l0 x7_1).f4), .slice A466_8 ((rd_T40 l0 x7_1).f5).length c466_8] 40 (0, 0)) bk hb); have n1_ := Aside0.mk (blk_below (g := gb469) (o := .cells #[.int .i64 ((rd_T40 l1 x7_1).f0), .int .i64 ((rd_T40 l1 x7_1).f1), .slice A467_2 ((rd_T40 l1 x7_1).f2.f0).length c467_2, .int .i64 ((rd_T40 l1 x7_1).f2.f1.f0), .int .i64 ((rd_T40 l1 x7_1).f2.f1.f1), .int .i64 ((rd_T40 l1 x7_1).f2.f2), .slice A467_6 ((rd_T40 l1 x7_1).f3).length c467_6, .int .i64 ((rd_T40 l1 x7_1).f4), .slice A467_8 ((rd_T40 l1 x7_1).f5).length c467_8] 40 (0, 0)) bk hb); have n2_ := Aside0.mk (below_step bl hb); clear BK468; clear BK469; clear HB; have BK468 := n0_; have BK469 := n1_; have HB := n2_; clear n0_ n1_ n2_; (try clear hb); (try clear hb2); (try clear hk); (try clear hi); obtain ⟨hcz136_0, hcz136_1, hcz136_2, hcz136_3, hcz136_4, hcz136_5, hcz136_6, hcz136_7, hcz136_8⟩ := cells9 BK468.out; obtain ⟨hfz136_0, hfz136_1, hfz136_2, hfz136_3, hfz136_4, hfz136_5, hfz136_6, hfz136_7, hfz136_8⟩ := frz9 BK468.out; obtain ⟨hcz137_0, hcz137_1, hcz137_2, hcz137_3, hcz137_4, hcz137_5, hcz137_6, hcz137_7, hcz137_8⟩ := cells9 BK469.out; obtain ⟨hfz137_0, hfz137_1, hfz137_2, hfz137_3, hfz137_4, hfz137_5, hfz137_6, hfz137_7, hfz137_8⟩ := frz9 BK469.out))
              go_ret
              exact ⟨erq, by repeat (first | (with_reducible first | exact HB.out | apply below_alloc | apply pw_below_drewN | apply below_drew1 | refine below_set ?_ GE468.out | refine below_set ?_ GE469.out) | exact HB.out)⟩
           ·
            replace c13 := Bool.eq_false_iff.mpr c13
            subst c13
            have H1 : (some false) = some r := by rw [if_neg (show ¬ (false = true) by decide)] at H; exact H
            clear H
            have H := H1
            clear H1
            obtain rfl := Option.some.inj H
            have hcv163 := Kd.C_string (P := Try.prog) (A := A466_8) (c := c466_8) Try.underlying22 Try.underlying5 Try.underlying9 (Kd.C_below HR466_8.out HB.out)
            have hcv163d := fun n_ : Nat => Kd.C_string (P := Try.prog) (A := A466_8) (c := c466_8) Try.underlying22 Try.underlying5 Try.underlying9 (Kd.C_drewN ((Kd.C_below HR466_8.out HB.out)) n_)
            have hcv164 := Kd.C_string (P := Try.prog) (A := A467_8) (c := c467_8) Try.underlying22 Try.underlying5 Try.underlying9 (Kd.C_below HR467_8.out HB.out)
            have hcv164d := fun n_ : Nat => Kd.C_string (P := Try.prog) (A := A467_8) (c := c467_8) Try.underlying22 Try.underlying5 Try.underlying9 (Kd.C_drewN ((Kd.C_below HR467_8.out HB.out)) n_)
            try go_wp2_with (first | (go_at_call 45; (with_reducible refine (runnelref03_Same.calls k1 _ _ ((rd_T40 l0 x7_1).f2.f0) _ _ ((rd_T40 l1 x7_1).f2.f0) false _ ?side1 ?side2 ?side3 ?side4 A12.out).mono ?_); (case side1 => exact Kd.C_below HR466_2.out bl); (case side2 => exact HC466_2.out); (case side3 => exact Kd.C_below HR467_2.out bl); (case side4 => exact HC467_2.out); rintro e w165 ⟨rfl, hb⟩; have n0_ := Aside0.mk (blk_below (g := gb468) (o := .cells #[.int .i64 ((rd_T40 l0 x7_1).f0), .int .i64 ((rd_T40 l0 x7_1).f1), .slice A466_2 ((rd_T40 l0 x7_1).f2.f0).length c466_2, .int .i64 ((rd_T40 l0 x7_1).f2.f1.f0), .int .i64 ((rd_T40 l0 x7_1).f2.f1.f1), .int .i64 ((rd_T40 l0 x7_1).f2.f2), .slice A466_6 ((rd_T40 l0 x7_1).f3).length c466_6, .int .i64 ((rd_T40 l0 x7_1).f4), .slice A466_8 ((rd_T40 l0 x7_1).f5).length c466_8] 40 (0, 0)) bk hb); have n1_ := Aside0.mk (blk_below (g := gb469) (o := .cells #[.int .i64 ((rd_T40 l1 x7_1).f0), .int .i64 ((rd_T40 l1 x7_1).f1), .slice A467_2 ((rd_T40 l1 x7_1).f2.f0).length c467_2, .int .i64 ((rd_T40 l1 x7_1).f2.f1.f0), .int .i64 ((rd_T40 l1 x7_1).f2.f1.f1), .int .i64 ((rd_T40 l1 x7_1).f2.f2), .slice A467_6 ((rd_T40 l1 x7_1).f3).length c467_6, .int .i64 ((rd_T40 l1 x7_1).f4), .slice A467_8 ((rd_T40 l1 x7_1).f5).length c467_8] 40 (0, 0)) bk hb); have n2_ := Aside0.mk (below_step bl hb); clear BK468; clear BK469; clear HB; have BK468 := n0_; have BK469 := n1_; have HB := n2_; clear n0_ n1_ n2_; (try clear hb); (try clear hb2); (try clear hk); (try clear hi)))
            go_ret
            exact ⟨erq, by repeat (first | (with_reducible first | exact HB.out | apply below_alloc | apply pw_below_drewN | apply below_drew1 | refine below_set ?_ GE468.out | refine below_set ?_ GE469.out) | exact HB.out)⟩
          ·
           rw [if_neg c11] at H
           have c11b0 : ((strOfNums ((rd_T40 l0 x7_1).f5)).toList == (strOfNums ((rd_T40 l1 x7_1).f5)).toList) = false := beq_eq_false_iff_ne.mpr c11
           have c11b1 : ((strOfNums ((rd_T40 l0 x7_1).f5)).toList != (strOfNums ((rd_T40 l1 x7_1).f5)).toList) = true := bne_iff_ne.mpr c11
           obtain rfl := Option.some.inj H
           have hcv191 := Kd.C_string (P := Try.prog) (A := A466_8) (c := c466_8) Try.underlying22 Try.underlying5 Try.underlying9 (Kd.C_below HR466_8.out HB.out)
           have hcv191d := fun n_ : Nat => Kd.C_string (P := Try.prog) (A := A466_8) (c := c466_8) Try.underlying22 Try.underlying5 Try.underlying9 (Kd.C_drewN ((Kd.C_below HR466_8.out HB.out)) n_)
           have hcv192 := Kd.C_string (P := Try.prog) (A := A467_8) (c := c467_8) Try.underlying22 Try.underlying5 Try.underlying9 (Kd.C_below HR467_8.out HB.out)
           have hcv192d := fun n_ : Nat => Kd.C_string (P := Try.prog) (A := A467_8) (c := c467_8) Try.underlying22 Try.underlying5 Try.underlying9 (Kd.C_drewN ((Kd.C_below HR467_8.out HB.out)) n_)
           try go_wp2
           go_ret
           exact ⟨erq, by repeat (first | (with_reducible first | exact HB.out | apply below_alloc | apply pw_below_drewN | apply below_drew1 | refine below_set ?_ GE468.out | refine below_set ?_ GE469.out) | exact HB.out)⟩
         ·
          rw [if_neg c10] at H
          have c10b0 : (((rd_T40 l0 x7_1).f4) == ((rd_T40 l1 x7_1).f4)) = false := beq_eq_false_iff_ne.mpr c10
          have c10b1 : (((rd_T40 l0 x7_1).f4) != ((rd_T40 l1 x7_1).f4)) = true := bne_iff_ne.mpr c10
          obtain rfl := Option.some.inj H
          try go_wp2
          go_ret
          exact ⟨erq, by repeat (first | (with_reducible first | exact HB.out | apply below_alloc | apply pw_below_drewN | apply below_drew1 | refine below_set ?_ GE468.out | refine below_set ?_ GE469.out) | exact HB.out)⟩
        ·
         rw [if_neg c9] at H
         have c9b0 : (((rd_T40 l0 x7_1).f1) == ((rd_T40 l1 x7_1).f1)) = false := beq_eq_false_iff_ne.mpr c9
         have c9b1 : (((rd_T40 l0 x7_1).f1) != ((rd_T40 l1 x7_1).f1)) = true := bne_iff_ne.mpr c9
         obtain rfl := Option.some.inj H
         try go_wp2
         go_ret
         exact ⟨erq, by repeat (first | (with_reducible first | exact HB.out | apply below_alloc | apply pw_below_drewN | apply below_drew1 | refine below_set ?_ GE468.out | refine below_set ?_ GE469.out) | exact HB.out)⟩
       ·
        rw [if_neg c8] at H
        have c8b0 : (((rd_T40 l0 x7_1).f0) == ((rd_T40 l1 x7_1).f0)) = false := beq_eq_false_iff_ne.mpr c8
        have c8b1 : (((rd_T40 l0 x7_1).f0) != ((rd_T40 l1 x7_1).f0)) = true := bne_iff_ne.mpr c8
        obtain rfl := Option.some.inj H
        try go_wp2
        go_ret
        exact ⟨erq, by repeat (first | (with_reducible first | exact HB.out | apply below_alloc | apply pw_below_drewN | apply below_drew1 | refine below_set ?_ GE468.out | refine below_set ?_ GE469.out) | exact HB.out)⟩
      ·
       rw [if_neg c7] at H
       exact absurd H (by simp)
     ·
      rw [if_neg c6] at H
      exact absurd H (by simp)
    ·
     rw [if_neg c5] at H
     have c5b0 : decide (x7_1 < (l0.length : Int)) = false := decide_eq_false c5
     clear c5
     obtain rfl := Option.some.inj H
     go_wp2
     go_ret
     exact ⟨erq, by repeat (first | (with_reducible first | exact HB.out | apply below_alloc | apply pw_below_drewN | apply below_drew1) | exact HB.out)⟩
 ·
  rw [if_neg c4] at H
  have c4b0 : ((l0.length : Int) == (l1.length : Int)) = false := beq_eq_false_iff_ne.mpr c4
  have c4b1 : ((l0.length : Int) != (l1.length : Int)) = true := bne_iff_ne.mpr c4
  have c4b2 : (l0.length == l1.length) = false := by first | simpa using c4 | (simp at c4 ⊢; omega)
  obtain rfl := Option.some.inj H
  go_enter Try.func17, Try.ntmps17
  go_wp2
  go_ret
  exact ⟨erq, by repeat (first | (with_reducible first | exact HB.out | apply below_alloc | apply pw_below_drewN | apply below_drew1) | exact HB.out)⟩

end Go.Proofs.Ytpplklickfioiaa.PWireGets
