/- One piece of the machine's side of the law, written by a program over the translation; Lean checks it. -/
import Derived.Test.YtpplklickfioiaaOWireDecodesx0
import Derived.Test.YtpplklickfioiaaOWireDecodesx1
import Derived.Test.YtpplklickfioiaaOWireDecodesx5
import Derived.Test.YtpplklickfioiaaOWireDecodesx6
import Derived.Test.YtpplklickfioiaaShort
namespace Go.Proofs.Ytpplklickfioiaa.PWireDecodes
open Go.RowKit Go.Proofs.YtpplklickfioiaaW.PrintWords Go.Proofs.YtpplklickfioiaaW.PrintLast Go.Proofs.YtpplklickfioiaaW.PrintMore
attribute [local go_sem] max2_int min2_int max_two min_two max_three min_three max_four min_four   -- for this text's walks alone
set_option linter.unusedVariables false
set_option linter.unusedSimpArgs false

attribute [local go_sem high] eqA36
/-! ### runnelref26_Same: function 17 -/
def runnelref26_Same.l0 : Nat → List (S40) → List (S40) → Int → Option (Bool)
 | 0, _, _, _ => none
 | k + 1, x0, x1, x7 => if x7 < (x0.length : Int) then (if 0 ≤ x7 then (if x7 < (x1.length : Int) then (if ((rd_T40 x0 x7).f0) = ((rd_T40 x1 x7).f0) then (if ((rd_T40 x0 x7).f1) = ((rd_T40 x1 x7).f1) then (if ((rd_T40 x0 x7).f4) = ((rd_T40 x1 x7).f4) then (if (strOfNums ((rd_T40 x0 x7).f5)).toList = (strOfNums ((rd_T40 x1 x7).f5)).toList then ((runnelref03_Same.f k ((rd_T40 x0 x7).f2.f0) ((rd_T40 x1 x7).f2.f0)).bind fun t234 => (if t234 = true then (if (!(((rd_T40 x0 x7).f2.f1.f0) == ((rd_T40 x1 x7).f2.f1.f0)) || (!(((rd_T40 x0 x7).f2.f1.f1) == ((rd_T40 x1 x7).f2.f1.f1)))) = true then (some false) else (if ((rd_T40 x0 x7).f2.f2) = ((rd_T40 x1 x7).f2.f2) then ((runnelref04_Same.f k ((rd_T40 x0 x7).f3) ((rd_T40 x1 x7).f3)).bind fun t235 => (if t235 = true then (runnelref26_Same.l0 k x0 x1 (wrap64 (x7 + 1))) else (some false))) else (some false))) else (some false))) else (some false)) else (some false)) else (some false)) else (some false)) else (none)) else (none)) else (some true)
def runnelref26_Same.f (k : Nat) (l0 : List (S40)) (l1 : List (S40)) (a2 : Bool) : Option (Bool) := if (l0.length : Int) = (l1.length : Int) then (runnelref26_Same.l0 k l0 l1 0) else (some false)
theorem runnelref26_Same.mono_l : ∀ k, (∀ y0 y1 y2, LeO (runnelref26_Same.l0 k y0 y1 y2) (runnelref26_Same.l0 (k + 1) y0 y1 y2))
 | 0 => fun _ _ _ r h => by simp [runnelref26_Same.l0] at h
 | k + 1 => by
  have ih0 := runnelref26_Same.mono_l k
  ·
   intro y0 y1 y2
   unfold runnelref26_Same.l0
   repeat' first
   | (with_reducible exact ih0 _ _ _)
   | (with_reducible exact runnelref03_Same.mono _ _ _)
   | (with_reducible exact runnelref04_Same.mono _ _ _)
   | (with_reducible exact LeO.refl _)
   | (with_reducible exact LeO.none _)
   | (with_reducible refine LeO.ite ?_ ?_)
   | (with_reducible refine LeO.bind ?_ (fun _ => ?_))
   | exact ih0 _ _ _
   | exact runnelref03_Same.mono _ _ _
   | exact runnelref04_Same.mono _ _ _
   | exact LeO.none _
   | refine LeO.ite ?_ ?_
   | refine LeO.bind ?_ (fun _ => ?_)
theorem runnelref26_Same.mono : ∀ a0 a1 a2 k, LeO (runnelref26_Same.f k a0 a1 a2) (runnelref26_Same.f (k + 1) a0 a1 a2) := by
 intro a0 a1 a2 k
 have ih0 := runnelref26_Same.mono_l k
 unfold runnelref26_Same.f
 repeat' first
   | (with_reducible exact ih0 _ _ _)
   | (with_reducible exact runnelref03_Same.mono _ _ _)
   | (with_reducible exact runnelref04_Same.mono _ _ _)
   | (with_reducible exact LeO.refl _)
   | (with_reducible exact LeO.none _)
   | (with_reducible refine LeO.ite ?_ ?_)
   | (with_reducible refine LeO.bind ?_ (fun _ => ?_))
   | exact ih0 _ _ _
   | exact runnelref03_Same.mono _ _ _
   | exact runnelref04_Same.mono _ _ _
   | exact LeO.none _
   | refine LeO.ite ?_ ?_
   | refine LeO.bind ?_ (fun _ => ?_)
def runnelref26_Same.T6 : Bool × List (List Nat × List Nat) := (true, [([], []), ([], []), ([0, 1], [0, 1]), ([2], [2]), ([], []), ([], []), ([4, 5], [4, 5]), ([6], [6]), ([], []), ([], []), ([8, 3, 0, 1, 2, 3, 8, 9], [3, 8]), ([9, 7, 10, 0, 1, 2, 3, 4, 5, 6, 7, 8, 9, 10], [7, 9])])
def runnelref26_Same.B6 : List Nat := [0, 0, 3, 7, 0, 0, 48, 112, 0, 0, 783, 2047]
theorem runnelref26_Same.tab6 : rtab .any (opsOf Try.f17 6) = runnelref26_Same.T6 := by kernel_rfl
theorem runnelref26_Same.bits6 : waitsOk runnelref26_Same.T6.2 runnelref26_Same.B6 = true := by kernel_rfl
set_option maxHeartbeats 8000000 in
set_option maxRecDepth 100000 in
theorem runnelref26_Same.calls (k : Nat) (A0 : Option Addr) (c0 : Nat) (l0 : List (S40)) (A1 : Option Addr) (c1 : Nat) (l1 : List (S40)) (a2 : Bool) (r : Bool) (w : World) (hr0 : Kd.C k40 w A0 l0.length l0) (hc0 : l0.length ≤ c0) (hr1 : Kd.C k40 w A1 l1.length l1) (hc1 : l1.length ≤ c1) (h : runnelref26_Same.f k l0 l1 a2 = some r) :
  Calls Try.prog 17 #[.slice A0 l0.length c0, .slice A1 l1.length c1, .bool false] w fun e w' => e = .returned (.bool r) ∧ Below w.heap.size w w' := by
 have hu40 := Try.underlying40
 have hu36 := Try.underlying36
 have HR0 := Aside0.mk hr0
 have HC0 := Aside0.mk hc0
 clear hr0 hc0
 have HR1 := Aside0.mk hr1
 have HC1 := Aside0.mk hc1
 clear hr1 hc1
 have HB := Aside0.mk (Below.refl w.heap.size w)
 have H : (if (l0.length : Int) = (l1.length : Int) then (runnelref26_Same.l0 k l0 l1 0) else (some false)) = some r := h
 clear h
 by_cases c4 : (l0.length : Int) = (l1.length : Int)
 ·
  rw [if_pos c4] at H
  have c4b0 : ((l0.length : Int) == (l1.length : Int)) = true := beq_iff_eq.mpr c4
  have c4b1 : ((l0.length : Int) != (l1.length : Int)) = false := bne_eq_false_iff_eq.mpr c4
  have c4b2 : (l0.length == l1.length) = true := by first | simpa using c4 | (simp at c4 ⊢; omega)
  clear c4
  have H' := Aside0.mk H
  clear H
  go_enter Try.func17, Try.ntmps17
  go_wp2
  go_loopg [7] k (fun kq v7 w' => ∃ (x7_1 : Int), v7 = .int .i64 x7_1 ∧ Aside0 (runnelref26_Same.l0 kq l0 l1 x7_1 = some r) ∧ Aside0 (kq ≤ k) ∧ Aside0 (Below w.heap.size w w'))
  case atStart => exact ⟨(0), (by first | rfl | (simp; done) | (simp [*]; done)), H', ⟨Nat.le_refl _⟩, ⟨bl⟩⟩
  case round =>
   clear H'
   (try clear c1); (try clear c4); (try clear c4b0); (try clear c4b1); (try clear c4b2)
   obtain ⟨x7_1, rfl, HA, HK1, HB⟩ := hrel
   cases gk with
   | zero => exact absurd HA.out (by simp [runnelref26_Same.l0])
   | succ k1 =>
    have H := HA.out
    clear HA
    simp only [runnelref26_Same.l0] at H
    by_cases c5 : x7_1 < (l0.length : Int)
    ·
     rw [if_pos c5] at H
     have c5b0 : decide (x7_1 < (l0.length : Int)) = true := decide_eq_true c5
     clear c5
     by_cases c6 : 0 ≤ x7_1
     ·
      rw [if_pos c6] at H
      have c6b0 : decide (0 ≤ x7_1) = true := decide_eq_true c6
      clear c6
      by_cases c7 : x7_1 < (l1.length : Int)
      ·
       rw [if_pos c7] at H
       have c7b0 : decide (x7_1 < (l1.length : Int)) = true := decide_eq_true c7
       clear c7
       have HQ_ := Aside0.mk H
       clear H
       try go_wp2
       have n0_ := Aside0.mk (below_drew1 HB.out)
       clear HB
       have HB := n0_
       clear n0_
       have p230 : 0 ≤ (x7_1 : Int) := of_decide_eq_true (by first | (with_reducible assumption) | assumption)
       have q230 : x7_1 < (l0.length : Int) := of_decide_eq_true (by first | (with_reducible assumption) | assumption)
       obtain ⟨ad230, A230_2, c230_2, A230_6, c230_6, A230_8, c230_8, e230, hx230_0, hx230_1, hx230_2, hx230_3, hx230_4, hx230_5, hx230_6, hx230_7, hx230_8, hl230_2, hi230_2, hl230_6, hi230_6, hl230_8, hi230_8⟩ := at_T40 HR0.out x7_1 p230 q230
       have hw230_8 := hx230_8
       have hw230_7 := hx230_7
       have hw230_6 := hx230_6
       have hw230_5 := hx230_5
       have hw230_4 := hx230_4
       have hw230_3 := hx230_3
       have hw230_2 := hx230_2
       have hw230_1 := hx230_1
       have hw230_0 := hx230_0
       cases e230
       replace hx230_0 := bc HB.out hx230_0
       replace hx230_1 := bc HB.out hx230_1
       replace hx230_2 := bc HB.out hx230_2
       replace hx230_3 := bc HB.out hx230_3
       replace hx230_4 := bc HB.out hx230_4
       replace hx230_5 := bc HB.out hx230_5
       replace hx230_6 := bc HB.out hx230_6
       replace hx230_7 := bc HB.out hx230_7
       replace hx230_8 := bc HB.out hx230_8
       have HR230_2 := Aside0.mk hi230_2
       have HC230_2 := Aside0.mk hl230_2
       clear hi230_2 hl230_2
       have HR230_6 := Aside0.mk hi230_6
       have HC230_6 := Aside0.mk hl230_6
       clear hi230_6 hl230_6
       have HR230_8 := Aside0.mk hi230_8
       have HC230_8 := Aside0.mk hl230_8
       clear hi230_8 hl230_8
       replace p230 := eq_true p230
       replace q230 := eq_true q230
       have p231 : 0 ≤ (x7_1 : Int) := of_decide_eq_true (by first | (with_reducible assumption) | assumption)
       have q231 : x7_1 < (l1.length : Int) := of_decide_eq_true (by first | (with_reducible assumption) | assumption)
       obtain ⟨ad231, A231_2, c231_2, A231_6, c231_6, A231_8, c231_8, e231, hx231_0, hx231_1, hx231_2, hx231_3, hx231_4, hx231_5, hx231_6, hx231_7, hx231_8, hl231_2, hi231_2, hl231_6, hi231_6, hl231_8, hi231_8⟩ := at_T40 HR1.out x7_1 p231 q231
       have hw231_8 := hx231_8
       have hw231_7 := hx231_7
       have hw231_6 := hx231_6
       have hw231_5 := hx231_5
       have hw231_4 := hx231_4
       have hw231_3 := hx231_3
       have hw231_2 := hx231_2
       have hw231_1 := hx231_1
       have hw231_0 := hx231_0
       cases e231
       replace hx231_0 := bc HB.out hx231_0
       replace hx231_1 := bc HB.out hx231_1
       replace hx231_2 := bc HB.out hx231_2
       replace hx231_3 := bc HB.out hx231_3
       replace hx231_4 := bc HB.out hx231_4
       replace hx231_5 := bc HB.out hx231_5
       replace hx231_6 := bc HB.out hx231_6
       replace hx231_7 := bc HB.out hx231_7
       replace hx231_8 := bc HB.out hx231_8
       have HR231_2 := Aside0.mk hi231_2
       have HC231_2 := Aside0.mk hl231_2
       clear hi231_2 hl231_2
       have HR231_6 := Aside0.mk hi231_6
       have HC231_6 := Aside0.mk hl231_6
       clear hi231_6 hl231_6
       have HR231_8 := Aside0.mk hi231_8
       have HC231_8 := Aside0.mk hl231_8
       clear hi231_8 hl231_8
       replace p231 := eq_true p231
       replace q231 := eq_true q231
       refine start_ (n := 12) (S := fun w' => w'.cell? (ad230.add ((x7_1).toNat * 9)) = some (.int .i64 ((rd_T40 l0 x7_1).f0)) ∧ w'.cell? ⟨(ad230.add ((x7_1).toNat * 9)).block, (ad230.add ((x7_1).toNat * 9)).off + 1, none⟩ = some (.int .i64 ((rd_T40 l0 x7_1).f1)) ∧ w'.cell? ⟨(ad230.add ((x7_1).toNat * 9)).block, (ad230.add ((x7_1).toNat * 9)).off + 2, none⟩ = some (.slice A230_2 ((rd_T40 l0 x7_1).f2.f0).length c230_2) ∧ w'.cell? ⟨(ad230.add ((x7_1).toNat * 9)).block, (ad230.add ((x7_1).toNat * 9)).off + 3, none⟩ = some (.int .i64 ((rd_T40 l0 x7_1).f2.f1.f0)) ∧ w'.cell? ⟨(ad230.add ((x7_1).toNat * 9)).block, (ad230.add ((x7_1).toNat * 9)).off + 4, none⟩ = some (.int .i64 ((rd_T40 l0 x7_1).f2.f1.f1)) ∧ w'.cell? ⟨(ad230.add ((x7_1).toNat * 9)).block, (ad230.add ((x7_1).toNat * 9)).off + 5, none⟩ = some (.int .i64 ((rd_T40 l0 x7_1).f2.f2)) ∧ w'.cell? ⟨(ad230.add ((x7_1).toNat * 9)).block, (ad230.add ((x7_1).toNat * 9)).off + 6, none⟩ = some (.slice A230_6 ((rd_T40 l0 x7_1).f3).length c230_6) ∧ w'.cell? ⟨(ad230.add ((x7_1).toNat * 9)).block, (ad230.add ((x7_1).toNat * 9)).off + 7, none⟩ = some (.int .i64 ((rd_T40 l0 x7_1).f4)) ∧ w'.cell? ⟨(ad230.add ((x7_1).toNat * 9)).block, (ad230.add ((x7_1).toNat * 9)).off + 8, none⟩ = some (.slice A230_8 ((rd_T40 l0 x7_1).f5).length c230_8) ∧ w'.cell? (ad231.add ((x7_1).toNat * 9)) = some (.int .i64 ((rd_T40 l1 x7_1).f0)) ∧ w'.cell? ⟨(ad231.add ((x7_1).toNat * 9)).block, (ad231.add ((x7_1).toNat * 9)).off + 1, none⟩ = some (.int .i64 ((rd_T40 l1 x7_1).f1)) ∧ w'.cell? ⟨(ad231.add ((x7_1).toNat * 9)).block, (ad231.add ((x7_1).toNat * 9)).off + 2, none⟩ = some (.slice A231_2 ((rd_T40 l1 x7_1).f2.f0).length c231_2) ∧ w'.cell? ⟨(ad231.add ((x7_1).toNat * 9)).block, (ad231.add ((x7_1).toNat * 9)).off + 3, none⟩ = some (.int .i64 ((rd_T40 l1 x7_1).f2.f1.f0)) ∧ w'.cell? ⟨(ad231.add ((x7_1).toNat * 9)).block, (ad231.add ((x7_1).toNat * 9)).off + 4, none⟩ = some (.int .i64 ((rd_T40 l1 x7_1).f2.f1.f1)) ∧ w'.cell? ⟨(ad231.add ((x7_1).toNat * 9)).block, (ad231.add ((x7_1).toNat * 9)).off + 5, none⟩ = some (.int .i64 ((rd_T40 l1 x7_1).f2.f2)) ∧ w'.cell? ⟨(ad231.add ((x7_1).toNat * 9)).block, (ad231.add ((x7_1).toNat * 9)).off + 6, none⟩ = some (.slice A231_6 ((rd_T40 l1 x7_1).f3).length c231_6) ∧ w'.cell? ⟨(ad231.add ((x7_1).toNat * 9)).block, (ad231.add ((x7_1).toNat * 9)).off + 7, none⟩ = some (.int .i64 ((rd_T40 l1 x7_1).f4)) ∧ w'.cell? ⟨(ad231.add ((x7_1).toNat * 9)).block, (ad231.add ((x7_1).toNat * 9)).off + 8, none⟩ = some (.slice A231_8 ((rd_T40 l1 x7_1).f5).length c231_8)) (ds := []) #[false, false, false, false, false, false, false, false, false, false, false, false] (by kernel_rfl) rfl rfl ⟨(bc HB.out hw230_0), (bc HB.out hw230_1), (bc HB.out hw230_2), (bc HB.out hw230_3), (bc HB.out hw230_4), (bc HB.out hw230_5), (bc HB.out hw230_6), (bc HB.out hw230_7), (bc HB.out hw230_8), (bc HB.out hw231_0), (bc HB.out hw231_1), (bc HB.out hw231_2), (bc HB.out hw231_3), (bc HB.out hw231_4), (bc HB.out hw231_5), (bc HB.out hw231_6), (bc HB.out hw231_7), (bc HB.out hw231_8)⟩ (fun hHeld => ?_); refine with_tabW runnelref26_Same.tab6 runnelref26_Same.bits6 (fun HT_ HW_ => ?_)
       generalize wr.drew = w15 at HB HR230_2 HR230_6 HR230_8 HR231_2 HR231_6 HR231_8 hx230_0 hx230_1 hx230_2 hx230_3 hx230_4 hx230_5 hx230_6 hx230_7 hx230_8 hx231_0 hx231_1 hx231_2 hx231_3 hx231_4 hx231_5 hx231_6 hx231_7 hx231_8 hHeld ⊢
       refine pure_ (i := 0) (N := some 21) (v := ?_) (a' := ?_) #[true, false, false, false, false, false, false, false, false, false, false, false] rfl rfl (any_of HT_.out (by kernel_rfl)) (fun _ _ _ h => h) (Or.inl ⟨by rfl, ?_⟩) ?_ ?_
       rotate_left
       ·
        intro w'
        go_simp
        with_reducible rfl
       rotate_left
       ·
        simp only [Act.put, List.setIfInBounds_toArray, List.set_cons_zero, List.set_cons_succ, i64_w, i32_w]
        rfl
       refine pure_ (i := 1) (N := some 22) (v := ?_) (a' := ?_) #[true, true, false, false, false, false, false, false, false, false, false, false] rfl rfl (any_of HT_.out (by kernel_rfl)) (fun _ _ _ h => h) (Or.inl ⟨by rfl, ?_⟩) ?_ ?_
       rotate_left
       ·
        intro w'
        go_simp
        with_reducible rfl
       rotate_left
       ·
        simp only [Act.put, List.setIfInBounds_toArray, List.set_cons_zero, List.set_cons_succ, i64_w, i32_w]
        rfl
       refine pure_ (i := 2) (N := some 23) (v := ?_) (a' := ?_) #[true, true, true, false, false, false, false, false, false, false, false, false] rfl rfl (any_of HT_.out (by kernel_rfl)) (fun _ _ _ h => h) (Or.inl ⟨by rfl, ?_⟩) ?_ ?_
       rotate_left
       ·
        intro w'
        go_simp
        with_reducible rfl
       rotate_left
       ·
        simp only [Act.put, List.setIfInBounds_toArray, List.set_cons_zero, List.set_cons_succ, i64_w, i32_w]
        rfl
       refine pure_ (i := 4) (N := some 25) (v := ?_) (a' := ?_) #[true, true, true, false, true, false, false, false, false, false, false, false] rfl rfl (any_of HT_.out (by kernel_rfl)) (fun _ _ _ h => h) (Or.inl ⟨by rfl, ?_⟩) ?_ ?_
       rotate_left
       ·
        intro w'
        go_simp
        with_reducible rfl
       rotate_left
       ·
        simp only [Act.put, List.setIfInBounds_toArray, List.set_cons_zero, List.set_cons_succ, i64_w, i32_w]
        rfl
       refine pure_ (i := 5) (N := some 26) (v := ?_) (a' := ?_) #[true, true, true, false, true, true, false, false, false, false, false, false] rfl rfl (any_of HT_.out (by kernel_rfl)) (fun _ _ _ h => h) (Or.inl ⟨by rfl, ?_⟩) ?_ ?_
       rotate_left
       ·
        intro w'
        go_simp
        with_reducible rfl
       rotate_left
       ·
        simp only [Act.put, List.setIfInBounds_toArray, List.set_cons_zero, List.set_cons_succ, i64_w, i32_w]
        rfl
       refine pure_ (i := 6) (N := some 27) (v := ?_) (a' := ?_) #[true, true, true, false, true, true, true, false, false, false, false, false] rfl rfl (any_of HT_.out (by kernel_rfl)) (fun _ _ _ h => h) (Or.inl ⟨by rfl, ?_⟩) ?_ ?_
       rotate_left
       ·
        intro w'
        go_simp
        with_reducible rfl
       rotate_left
       ·
        simp only [Act.put, List.setIfInBounds_toArray, List.set_cons_zero, List.set_cons_succ, i64_w, i32_w]
        rfl
       refine take_ (i := 3) (N := some 24) (v := ?_) (a' := ?_) #[true, true, true, true, true, true, true, false, false, false, false, false] rfl rfl (take_ofW HT_.out HW_.out (by kernel_rfl)) (fun _ _ _ h => h) (Or.inl ⟨by rfl, ?_⟩) hHeld ?_ ?_
       rotate_left
       ·
        rintro w' ⟨s0, s1, s2, s3, s4, s5, s6, s7, s8, s9, s10, s11, s12, s13, s14, s15, s16, s17⟩
        go_simp
        with_reducible rfl
       rotate_left
       ·
        simp only [Act.put, List.setIfInBounds_toArray, List.set_cons_zero, List.set_cons_succ, i64_w, i32_w]
        rfl
       refine take_ (i := 7) (N := some 28) (v := ?_) (a' := ?_) #[true, true, true, true, true, true, true, true, false, false, false, false] rfl rfl (take_ofW HT_.out HW_.out (by kernel_rfl)) (fun _ _ _ h => h) (Or.inl ⟨by rfl, ?_⟩) hHeld ?_ ?_
       rotate_left
       ·
        rintro w' ⟨s0, s1, s2, s3, s4, s5, s6, s7, s8, s9, s10, s11, s12, s13, s14, s15, s16, s17⟩
        go_simp
        with_reducible rfl
       rotate_left
       ·
        simp only [Act.put, List.setIfInBounds_toArray, List.set_cons_zero, List.set_cons_succ, i64_w, i32_w]
        rfl
       refine join_ (σ := Nat × Nat) 2 #[true, true, true, true, true, true, true, true, true, true, false, false] (fun s_ => [(8, .pointer (some ⟨s_.1, 0, none⟩)), (9, .pointer (some ⟨s_.2, 0, none⟩))]) (fun s_ w' => (w'.cell? (ad230.add ((x7_1).toNat * 9)) = some (.int .i64 ((rd_T40 l0 x7_1).f0)) ∧ w'.cell? ⟨(ad230.add ((x7_1).toNat * 9)).block, (ad230.add ((x7_1).toNat * 9)).off + 1, none⟩ = some (.int .i64 ((rd_T40 l0 x7_1).f1)) ∧ w'.cell? ⟨(ad230.add ((x7_1).toNat * 9)).block, (ad230.add ((x7_1).toNat * 9)).off + 2, none⟩ = some (.slice A230_2 ((rd_T40 l0 x7_1).f2.f0).length c230_2) ∧ w'.cell? ⟨(ad230.add ((x7_1).toNat * 9)).block, (ad230.add ((x7_1).toNat * 9)).off + 3, none⟩ = some (.int .i64 ((rd_T40 l0 x7_1).f2.f1.f0)) ∧ w'.cell? ⟨(ad230.add ((x7_1).toNat * 9)).block, (ad230.add ((x7_1).toNat * 9)).off + 4, none⟩ = some (.int .i64 ((rd_T40 l0 x7_1).f2.f1.f1)) ∧ w'.cell? ⟨(ad230.add ((x7_1).toNat * 9)).block, (ad230.add ((x7_1).toNat * 9)).off + 5, none⟩ = some (.int .i64 ((rd_T40 l0 x7_1).f2.f2)) ∧ w'.cell? ⟨(ad230.add ((x7_1).toNat * 9)).block, (ad230.add ((x7_1).toNat * 9)).off + 6, none⟩ = some (.slice A230_6 ((rd_T40 l0 x7_1).f3).length c230_6) ∧ w'.cell? ⟨(ad230.add ((x7_1).toNat * 9)).block, (ad230.add ((x7_1).toNat * 9)).off + 7, none⟩ = some (.int .i64 ((rd_T40 l0 x7_1).f4)) ∧ w'.cell? ⟨(ad230.add ((x7_1).toNat * 9)).block, (ad230.add ((x7_1).toNat * 9)).off + 8, none⟩ = some (.slice A230_8 ((rd_T40 l0 x7_1).f5).length c230_8) ∧ w'.cell? (ad231.add ((x7_1).toNat * 9)) = some (.int .i64 ((rd_T40 l1 x7_1).f0)) ∧ w'.cell? ⟨(ad231.add ((x7_1).toNat * 9)).block, (ad231.add ((x7_1).toNat * 9)).off + 1, none⟩ = some (.int .i64 ((rd_T40 l1 x7_1).f1)) ∧ w'.cell? ⟨(ad231.add ((x7_1).toNat * 9)).block, (ad231.add ((x7_1).toNat * 9)).off + 2, none⟩ = some (.slice A231_2 ((rd_T40 l1 x7_1).f2.f0).length c231_2) ∧ w'.cell? ⟨(ad231.add ((x7_1).toNat * 9)).block, (ad231.add ((x7_1).toNat * 9)).off + 3, none⟩ = some (.int .i64 ((rd_T40 l1 x7_1).f2.f1.f0)) ∧ w'.cell? ⟨(ad231.add ((x7_1).toNat * 9)).block, (ad231.add ((x7_1).toNat * 9)).off + 4, none⟩ = some (.int .i64 ((rd_T40 l1 x7_1).f2.f1.f1)) ∧ w'.cell? ⟨(ad231.add ((x7_1).toNat * 9)).block, (ad231.add ((x7_1).toNat * 9)).off + 5, none⟩ = some (.int .i64 ((rd_T40 l1 x7_1).f2.f2)) ∧ w'.cell? ⟨(ad231.add ((x7_1).toNat * 9)).block, (ad231.add ((x7_1).toNat * 9)).off + 6, none⟩ = some (.slice A231_6 ((rd_T40 l1 x7_1).f3).length c231_6) ∧ w'.cell? ⟨(ad231.add ((x7_1).toNat * 9)).block, (ad231.add ((x7_1).toNat * 9)).off + 7, none⟩ = some (.int .i64 ((rd_T40 l1 x7_1).f4)) ∧ w'.cell? ⟨(ad231.add ((x7_1).toNat * 9)).block, (ad231.add ((x7_1).toNat * 9)).off + 8, none⟩ = some (.slice A231_8 ((rd_T40 l1 x7_1).f5).length c231_8)) ∧ (w'.heap[s_.1]? = some (.cells #[.int .i64 0, .int .i64 0, .slice none 0 0, .int .i64 0, .int .i64 0, .int .i64 0, .slice none 0 0, .int .i64 0, .slice none 0 0] 40 (0, 0))) ∧ (w'.heap[s_.2]? = some (.cells #[.int .i64 0, .int .i64 0, .slice none 0 0, .int .i64 0, .int .i64 0, .int .i64 0, .slice none 0 0, .int .i64 0, .slice none 0 0] 40 (0, 0))) ∧ (w.heap.size ≤ s_.1) ∧ (w.heap.size ≤ s_.1) ∧ (s_.2 ≠ s_.1) ∧ (s_.1 ≠ s_.2) ∧ (w.heap.size ≤ s_.2) ∧ (w.heap.size ≤ s_.2) ∧ (Below w.heap.size w w')) ?_ ?_
       rotate_left
       ·
        intro hCont
        refine two_ (i := 8) (j := 9) (Ni := some 8) (Nj := some 9) #[true, true, true, true, true, true, true, true, true, false, false, false] #[true, true, true, true, true, true, true, true, false, true, false, false] rfl rfl rfl rfl (two_of HT_.out (by kernel_rfl)) (by decide) (by decide) (fun K hK => ?_) (fun K hK => ?_)
        ·
         skip
         refine box_step ?hg (N := 8) ?hd (cs := #[.int .i64 0, .int .i64 0, .slice none 0 0, .int .i64 0, .int .i64 0, .int .i64 0, .slice none 0 0, .int .i64 0, .slice none 0 0]) (t := 40) ?hr ?_; (case hd => rfl); (case hg => rfl); (case hr => first | (go_simp; done) | (go_simp; rfl))
         intro gb232 hg w16 hbox hb
         have n0_ := Aside0.mk (below_step bl hb)
         have n1_ := Aside0.mk (hbox)
         have n2_ := Aside0.mk ((by rw [hg]; exact (below_size bl) : w.heap.size ≤ gb232))
         have n3_ := Aside0.mk ((by rw [hg]; exact (below_size bl) : w.heap.size ≤ gb232))
         clear HB
         have HB := n0_
         have BK232 := n1_
         have GW232 := n2_
         have GE232 := n3_
         clear n0_ n1_ n2_ n3_
         clear hb hbox hg
         refine hK.out _ _ ⟨(bc HB.out hw230_0), (bc HB.out hw230_1), (bc HB.out hw230_2), (bc HB.out hw230_3), (bc HB.out hw230_4), (bc HB.out hw230_5), (bc HB.out hw230_6), (bc HB.out hw230_7), (bc HB.out hw230_8), (bc HB.out hw231_0), (bc HB.out hw231_1), (bc HB.out hw231_2), (bc HB.out hw231_3), (bc HB.out hw231_4), (bc HB.out hw231_5), (bc HB.out hw231_6), (bc HB.out hw231_7), (bc HB.out hw231_8)⟩ (fun hHeld => ?_)
         clear hK K
         refine norm_ (a' := ?_) ?_ ?_
         rotate_left
         ·
          show Act.put _ (some 8) _ = _
          simp only [Act.put, List.setIfInBounds_toArray, List.set_cons_zero, List.set_cons_succ, i64_w, i32_w]
          rfl
         refine one_ (i := 9) (N := some 9) #[true, true, true, true, true, true, true, true, true, true, false, false] rfl rfl (one_of HT_.out (by kernel_rfl)) (by decide) (fun K hK => ?_)
         refine box_step ?hg (N := 9) ?hd (cs := #[.int .i64 0, .int .i64 0, .slice none 0 0, .int .i64 0, .int .i64 0, .int .i64 0, .slice none 0 0, .int .i64 0, .slice none 0 0]) (t := 40) ?hr ?_; (case hd => rfl); (case hg => rfl); (case hr => first | (go_simp; done) | (go_simp; rfl))
         intro gb233 hg w17 hbox hb
         have n0_ := Aside0.mk (blk_below (g := gb232) (o := .cells #[.int .i64 0, .int .i64 0, .slice none 0 0, .int .i64 0, .int .i64 0, .int .i64 0, .slice none 0 0, .int .i64 0, .slice none 0 0] 40 (0, 0)) bk hb)
         have n1_ := Aside0.mk (below_step bl hb)
         have n2_ := Aside0.mk (hbox)
         have n3_ := Aside0.mk ((by rw [hg]; exact (below_size bl) : w.heap.size ≤ gb233))
         have n4_ := Aside0.mk ((by rw [hg]; exact (below_size bl) : w.heap.size ≤ gb233))
         have n5_ := Aside0.mk ((by rw [hg]; exact Nat.ne_of_lt blt : gb232 ≠ gb233))
         have n6_ := Aside0.mk ((by rw [hg]; exact Nat.ne_of_gt blt : gb233 ≠ gb232))
         clear BK232
         clear HB
         have BK232 := n0_
         have HB := n1_
         have BK233 := n2_
         have GW233 := n3_
         have GE233 := n4_
         have NB232_233 := n5_
         have NB233_232 := n6_
         clear n0_ n1_ n2_ n3_ n4_ n5_ n6_
         clear hb hbox hg
         refine hK.out _ _ ⟨(bc HB.out hw230_0), (bc HB.out hw230_1), (bc HB.out hw230_2), (bc HB.out hw230_3), (bc HB.out hw230_4), (bc HB.out hw230_5), (bc HB.out hw230_6), (bc HB.out hw230_7), (bc HB.out hw230_8), (bc HB.out hw231_0), (bc HB.out hw231_1), (bc HB.out hw231_2), (bc HB.out hw231_3), (bc HB.out hw231_4), (bc HB.out hw231_5), (bc HB.out hw231_6), (bc HB.out hw231_7), (bc HB.out hw231_8)⟩ (fun hHeld => ?_)
         clear hK K
         refine norm_ (a' := ?_) ?_ ?_
         rotate_left
         ·
          show Act.put _ (some 9) _ = _
          simp only [Act.put, List.setIfInBounds_toArray, List.set_cons_zero, List.set_cons_succ, i64_w, i32_w]
          rfl
         exact norm_ (by simp only [putAll, Act.put, List.setIfInBounds_toArray, List.set_cons_zero, List.set_cons_succ]) (hCont (gb232, gb233) _ ⟨hHeld, bk, bk, GW232.out, GE232.out, NB233_232.out, NB232_233.out, GW233.out, GE233.out, bl⟩)
        ·
         skip
         refine box_step ?hg (N := 9) ?hd (cs := #[.int .i64 0, .int .i64 0, .slice none 0 0, .int .i64 0, .int .i64 0, .int .i64 0, .slice none 0 0, .int .i64 0, .slice none 0 0]) (t := 40) ?hr ?_; (case hd => rfl); (case hg => rfl); (case hr => first | (go_simp; done) | (go_simp; rfl))
         intro gb233 hg w16 hbox hb
         have n0_ := Aside0.mk (below_step bl hb)
         have n1_ := Aside0.mk (hbox)
         have n2_ := Aside0.mk ((by rw [hg]; exact (below_size bl) : w.heap.size ≤ gb233))
         have n3_ := Aside0.mk ((by rw [hg]; exact (below_size bl) : w.heap.size ≤ gb233))
         clear HB
         have HB := n0_
         have BK233 := n1_
         have GW233 := n2_
         have GE233 := n3_
         clear n0_ n1_ n2_ n3_
         clear hb hbox hg
         refine hK.out _ _ ⟨(bc HB.out hw230_0), (bc HB.out hw230_1), (bc HB.out hw230_2), (bc HB.out hw230_3), (bc HB.out hw230_4), (bc HB.out hw230_5), (bc HB.out hw230_6), (bc HB.out hw230_7), (bc HB.out hw230_8), (bc HB.out hw231_0), (bc HB.out hw231_1), (bc HB.out hw231_2), (bc HB.out hw231_3), (bc HB.out hw231_4), (bc HB.out hw231_5), (bc HB.out hw231_6), (bc HB.out hw231_7), (bc HB.out hw231_8)⟩ (fun hHeld => ?_)
         clear hK K
         refine norm_ (a' := ?_) ?_ ?_
         rotate_left
         ·
          show Act.put _ (some 9) _ = _
          simp only [Act.put, List.setIfInBounds_toArray, List.set_cons_zero, List.set_cons_succ, i64_w, i32_w]
          rfl
         refine one_ (i := 8) (N := some 8) #[true, true, true, true, true, true, true, true, true, true, false, false] rfl rfl (one_of HT_.out (by kernel_rfl)) (by decide) (fun K hK => ?_)
         refine box_step ?hg (N := 8) ?hd (cs := #[.int .i64 0, .int .i64 0, .slice none 0 0, .int .i64 0, .int .i64 0, .int .i64 0, .slice none 0 0, .int .i64 0, .slice none 0 0]) (t := 40) ?hr ?_; (case hd => rfl); (case hg => rfl); (case hr => first | (go_simp; done) | (go_simp; rfl))
         intro gb232 hg w17 hbox hb
         have n0_ := Aside0.mk (blk_below (g := gb233) (o := .cells #[.int .i64 0, .int .i64 0, .slice none 0 0, .int .i64 0, .int .i64 0, .int .i64 0, .slice none 0 0, .int .i64 0, .slice none 0 0] 40 (0, 0)) bk hb)
         have n1_ := Aside0.mk (below_step bl hb)
         have n2_ := Aside0.mk (hbox)
         have n3_ := Aside0.mk ((by rw [hg]; exact (below_size bl) : w.heap.size ≤ gb232))
         have n4_ := Aside0.mk ((by rw [hg]; exact (below_size bl) : w.heap.size ≤ gb232))
         have n5_ := Aside0.mk ((by rw [hg]; exact Nat.ne_of_lt blt : gb233 ≠ gb232))
         have n6_ := Aside0.mk ((by rw [hg]; exact Nat.ne_of_gt blt : gb232 ≠ gb233))
         clear BK233
         clear HB
         have BK233 := n0_
         have HB := n1_
         have BK232 := n2_
         have GW232 := n3_
         have GE232 := n4_
         have NB233_232 := n5_
         have NB232_233 := n6_
         clear n0_ n1_ n2_ n3_ n4_ n5_ n6_
         clear hb hbox hg
         refine hK.out _ _ ⟨(bc HB.out hw230_0), (bc HB.out hw230_1), (bc HB.out hw230_2), (bc HB.out hw230_3), (bc HB.out hw230_4), (bc HB.out hw230_5), (bc HB.out hw230_6), (bc HB.out hw230_7), (bc HB.out hw230_8), (bc HB.out hw231_0), (bc HB.out hw231_1), (bc HB.out hw231_2), (bc HB.out hw231_3), (bc HB.out hw231_4), (bc HB.out hw231_5), (bc HB.out hw231_6), (bc HB.out hw231_7), (bc HB.out hw231_8)⟩ (fun hHeld => ?_)
         clear hK K
         refine norm_ (a' := ?_) ?_ ?_
         rotate_left
         ·
          show Act.put _ (some 8) _ = _
          simp only [Act.put, List.setIfInBounds_toArray, List.set_cons_zero, List.set_cons_succ, i64_w, i32_w]
          rfl
         exact norm_ (by simp only [putAll, Act.put, List.setIfInBounds_toArray, List.set_cons_zero, List.set_cons_succ]) (hCont (gb232, gb233) _ ⟨hHeld, bk, bk, GW232.out, GE232.out, NB233_232.out, NB232_233.out, GW233.out, GE233.out, bl⟩)
       rintro ⟨gb232, gb233⟩ w18 ⟨hS_, h0_, h1_, h2_, h3_, h4_, h5_, h6_, h7_, h8_⟩
       have n0_ : Aside0 (w18.heap[gb232]? = some (.cells #[.int .i64 0, .int .i64 0, .slice none 0 0, .int .i64 0, .int .i64 0, .int .i64 0, .slice none 0 0, .int .i64 0, .slice none 0 0] 40 (0, 0))) := ⟨h0_⟩
       have n1_ : Aside0 (w18.heap[gb233]? = some (.cells #[.int .i64 0, .int .i64 0, .slice none 0 0, .int .i64 0, .int .i64 0, .int .i64 0, .slice none 0 0, .int .i64 0, .slice none 0 0] 40 (0, 0))) := ⟨h1_⟩
       have n2_ : Aside0 (w.heap.size ≤ gb232) := ⟨h2_⟩
       have n3_ : Aside0 (w.heap.size ≤ gb232) := ⟨h3_⟩
       have n4_ : Aside0 (gb233 ≠ gb232) := ⟨h4_⟩
       have n5_ : Aside0 (gb232 ≠ gb233) := ⟨h5_⟩
       have n6_ : Aside0 (w.heap.size ≤ gb233) := ⟨h6_⟩
       have n7_ : Aside0 (w.heap.size ≤ gb233) := ⟨h7_⟩
       have n8_ : Aside0 (Below w.heap.size w w18) := ⟨h8_⟩
       clear HB
       clear h0_ h1_ h2_ h3_ h4_ h5_ h6_ h7_ h8_
       have BK232 := n0_
       have BK233 := n1_
       have GW232 := n2_
       have GE232 := n3_
       have NB233_232 := n4_
       have NB232_233 := n5_
       have GW233 := n6_
       have GE233 := n7_
       have HB := n8_
       clear n0_ n1_ n2_ n3_ n4_ n5_ n6_ n7_ n8_
       have hHeld : w18.cell? (ad230.add ((x7_1).toNat * 9)) = some (.int .i64 ((rd_T40 l0 x7_1).f0)) ∧ w18.cell? ⟨(ad230.add ((x7_1).toNat * 9)).block, (ad230.add ((x7_1).toNat * 9)).off + 1, none⟩ = some (.int .i64 ((rd_T40 l0 x7_1).f1)) ∧ w18.cell? ⟨(ad230.add ((x7_1).toNat * 9)).block, (ad230.add ((x7_1).toNat * 9)).off + 2, none⟩ = some (.slice A230_2 ((rd_T40 l0 x7_1).f2.f0).length c230_2) ∧ w18.cell? ⟨(ad230.add ((x7_1).toNat * 9)).block, (ad230.add ((x7_1).toNat * 9)).off + 3, none⟩ = some (.int .i64 ((rd_T40 l0 x7_1).f2.f1.f0)) ∧ w18.cell? ⟨(ad230.add ((x7_1).toNat * 9)).block, (ad230.add ((x7_1).toNat * 9)).off + 4, none⟩ = some (.int .i64 ((rd_T40 l0 x7_1).f2.f1.f1)) ∧ w18.cell? ⟨(ad230.add ((x7_1).toNat * 9)).block, (ad230.add ((x7_1).toNat * 9)).off + 5, none⟩ = some (.int .i64 ((rd_T40 l0 x7_1).f2.f2)) ∧ w18.cell? ⟨(ad230.add ((x7_1).toNat * 9)).block, (ad230.add ((x7_1).toNat * 9)).off + 6, none⟩ = some (.slice A230_6 ((rd_T40 l0 x7_1).f3).length c230_6) ∧ w18.cell? ⟨(ad230.add ((x7_1).toNat * 9)).block, (ad230.add ((x7_1).toNat * 9)).off + 7, none⟩ = some (.int .i64 ((rd_T40 l0 x7_1).f4)) ∧ w18.cell? ⟨(ad230.add ((x7_1).toNat * 9)).block, (ad230.add ((x7_1).toNat * 9)).off + 8, none⟩ = some (.slice A230_8 ((rd_T40 l0 x7_1).f5).length c230_8) ∧ w18.cell? (ad231.add ((x7_1).toNat * 9)) = some (.int .i64 ((rd_T40 l1 x7_1).f0)) ∧ w18.cell? ⟨(ad231.add ((x7_1).toNat * 9)).block, (ad231.add ((x7_1).toNat * 9)).off + 1, none⟩ = some (.int .i64 ((rd_T40 l1 x7_1).f1)) ∧ w18.cell? ⟨(ad231.add ((x7_1).toNat * 9)).block, (ad231.add ((x7_1).toNat * 9)).off + 2, none⟩ = some (.slice A231_2 ((rd_T40 l1 x7_1).f2.f0).length c231_2) ∧ w18.cell? ⟨(ad231.add ((x7_1).toNat * 9)).block, (ad231.add ((x7_1).toNat * 9)).off + 3, none⟩ = some (.int .i64 ((rd_T40 l1 x7_1).f2.f1.f0)) ∧ w18.cell? ⟨(ad231.add ((x7_1).toNat * 9)).block, (ad231.add ((x7_1).toNat * 9)).off + 4, none⟩ = some (.int .i64 ((rd_T40 l1 x7_1).f2.f1.f1)) ∧ w18.cell? ⟨(ad231.add ((x7_1).toNat * 9)).block, (ad231.add ((x7_1).toNat * 9)).off + 5, none⟩ = some (.int .i64 ((rd_T40 l1 x7_1).f2.f2)) ∧ w18.cell? ⟨(ad231.add ((x7_1).toNat * 9)).block, (ad231.add ((x7_1).toNat * 9)).off + 6, none⟩ = some (.slice A231_6 ((rd_T40 l1 x7_1).f3).length c231_6) ∧ w18.cell? ⟨(ad231.add ((x7_1).toNat * 9)).block, (ad231.add ((x7_1).toNat * 9)).off + 7, none⟩ = some (.int .i64 ((rd_T40 l1 x7_1).f4)) ∧ w18.cell? ⟨(ad231.add ((x7_1).toNat * 9)).block, (ad231.add ((x7_1).toNat * 9)).off + 8, none⟩ = some (.slice A231_8 ((rd_T40 l1 x7_1).f5).length c231_8) := hS_
       refine norm_ (a' := ?_) ?_ ?_
       rotate_left
       ·
        simp only [putAll, Act.put, List.setIfInBounds_toArray, List.set_cons_zero, List.set_cons_succ]
        rfl
       refine one_ (i := 10) (N := none) #[true, true, true, true, true, true, true, true, true, true, true, false] rfl rfl (one_of HT_.out (by kernel_rfl)) (by decide) (fun K hK => ?_)
       have hs19 : w18.cell? ⟨gb232, 0, none⟩ = some (.int .i64 0) := (blk_cell BK232.out 0).trans rfl
       have hfs19 := blk_frozen BK232.out 0
       have hns19_1 := NB233_232.out
       have hms19_1 := NB232_233.out
       have hs20 : w18.cell? ⟨gb232, 1, none⟩ = some (.int .i64 0) := (blk_cell BK232.out 1).trans rfl
       have hfs20 := blk_frozen BK232.out 1
       have hns20_1 := NB233_232.out
       have hms20_1 := NB232_233.out
       have hs21 : w18.cell? ⟨gb232, 2, none⟩ = some (.slice none 0 0) := (blk_cell BK232.out 2).trans rfl
       have hfs21 := blk_frozen BK232.out 2
       have hns21_1 := NB233_232.out
       have hms21_1 := NB232_233.out
       have hs22 : w18.cell? ⟨gb232, 3, none⟩ = some (.int .i64 0) := (blk_cell BK232.out 3).trans rfl
       have hfs22 := blk_frozen BK232.out 3
       have hns22_1 := NB233_232.out
       have hms22_1 := NB232_233.out
       have hs23 : w18.cell? ⟨gb232, 4, none⟩ = some (.int .i64 0) := (blk_cell BK232.out 4).trans rfl
       have hfs23 := blk_frozen BK232.out 4
       have hns23_1 := NB233_232.out
       have hms23_1 := NB232_233.out
       have hs24 : w18.cell? ⟨gb232, 5, none⟩ = some (.int .i64 0) := (blk_cell BK232.out 5).trans rfl
       have hfs24 := blk_frozen BK232.out 5
       have hns24_1 := NB233_232.out
       have hms24_1 := NB232_233.out
       have hs25 : w18.cell? ⟨gb232, 6, none⟩ = some (.slice none 0 0) := (blk_cell BK232.out 6).trans rfl
       have hfs25 := blk_frozen BK232.out 6
       have hns25_1 := NB233_232.out
       have hms25_1 := NB232_233.out
       have hs26 : w18.cell? ⟨gb232, 7, none⟩ = some (.int .i64 0) := (blk_cell BK232.out 7).trans rfl
       have hfs26 := blk_frozen BK232.out 7
       have hns26_1 := NB233_232.out
       have hms26_1 := NB232_233.out
       have hs27 : w18.cell? ⟨gb232, 8, none⟩ = some (.slice none 0 0) := (blk_cell BK232.out 8).trans rfl
       have hfs27 := blk_frozen BK232.out 8
       have hns27_1 := NB233_232.out
       have hms27_1 := NB232_233.out
       obtain ⟨w18y, hw_⟩ : ∃ x, x = (((((((((w18.setCell ⟨gb232, 0, none⟩ (.int .i64 ((rd_T40 l0 x7_1).f0))).setCell ⟨gb232, 1, none⟩ (.int .i64 ((rd_T40 l0 x7_1).f1))).setCell ⟨gb232, 2, none⟩ (.slice A230_2 ((rd_T40 l0 x7_1).f2.f0).length c230_2)).setCell ⟨gb232, 3, none⟩ (.int .i64 ((rd_T40 l0 x7_1).f2.f1.f0))).setCell ⟨gb232, 4, none⟩ (.int .i64 ((rd_T40 l0 x7_1).f2.f1.f1))).setCell ⟨gb232, 5, none⟩ (.int .i64 ((rd_T40 l0 x7_1).f2.f2))).setCell ⟨gb232, 6, none⟩ (.slice A230_6 ((rd_T40 l0 x7_1).f3).length c230_6)).setCell ⟨gb232, 7, none⟩ (.int .i64 ((rd_T40 l0 x7_1).f4))).setCell ⟨gb232, 8, none⟩ (.slice A230_8 ((rd_T40 l0 x7_1).f5).length c230_8)) := ⟨_, rfl⟩
       have keep_ : ∀ (a : Addr) (v : Value), a.block ≠ gb232 → w18.cell? a = some v → w18y.cell? a = some v := by
        intro a v ha h
        rw [hw_]
        iterate 9 refine cf ha ?_
        exact h
       have kb_ : ∀ (b : Nat) (cs : Array Value) (t : TypeId), b ≠ gb232 → w18.heap[b]? = some (.cells cs t (0, 0)) → w18y.heap[b]? = some (.cells cs t (0, 0)) := by
        intro b cs t ha h
        rw [hw_]
        iterate 9 refine blk_far ?_ ha _
        exact h
       have kg_ : w18y.heap[gb232]? = some (.cells #[.int .i64 ((rd_T40 l0 x7_1).f0), .int .i64 ((rd_T40 l0 x7_1).f1), .slice A230_2 ((rd_T40 l0 x7_1).f2.f0).length c230_2, .int .i64 ((rd_T40 l0 x7_1).f2.f1.f0), .int .i64 ((rd_T40 l0 x7_1).f2.f1.f1), .int .i64 ((rd_T40 l0 x7_1).f2.f2), .slice A230_6 ((rd_T40 l0 x7_1).f3).length c230_6, .int .i64 ((rd_T40 l0 x7_1).f4), .slice A230_8 ((rd_T40 l0 x7_1).f5).length c230_8] 40 (0, 0)) := by
        rw [hw_]
        refine E_in ?_
        iterate 9 refine E_set ?_
        exact ⟨_, BK232.out, by (try dsimp only); simp only [List.setIfInBounds_toArray, List.set_cons_zero, List.set_cons_succ]⟩
       have kl_ : Below w.heap.size w w18y := by
        rw [hw_]
        iterate 9 refine below_set ?_ GE232.out
        exact HB.out
       refine skip_ (w1 := w18y) (by rfl) rfl ?_ ?_
       ·
        go_simp
        try (first | rfl | exact hw_.symm | (rw [hw_]) | (simp only [hw_]))
       refine hK.out _ _ ⟨(keep_ _ _ (by first | exact ne_rd hw230_0 GW232.out | exact ne_rd' hw230_0 GW232.out) (hHeld.1)), (keep_ _ _ (by first | exact ne_rd hw230_1 GW232.out | exact ne_rd' hw230_1 GW232.out) (hHeld.2.1)), (keep_ _ _ (by first | exact ne_rd hw230_2 GW232.out | exact ne_rd' hw230_2 GW232.out) (hHeld.2.2.1)), (keep_ _ _ (by first | exact ne_rd hw230_3 GW232.out | exact ne_rd' hw230_3 GW232.out) (hHeld.2.2.2.1)), (keep_ _ _ (by first | exact ne_rd hw230_4 GW232.out | exact ne_rd' hw230_4 GW232.out) (hHeld.2.2.2.2.1)), (keep_ _ _ (by first | exact ne_rd hw230_5 GW232.out | exact ne_rd' hw230_5 GW232.out) (hHeld.2.2.2.2.2.1)), (keep_ _ _ (by first | exact ne_rd hw230_6 GW232.out | exact ne_rd' hw230_6 GW232.out) (hHeld.2.2.2.2.2.2.1)), (keep_ _ _ (by first | exact ne_rd hw230_7 GW232.out | exact ne_rd' hw230_7 GW232.out) (hHeld.2.2.2.2.2.2.2.1)), (keep_ _ _ (by first | exact ne_rd hw230_8 GW232.out | exact ne_rd' hw230_8 GW232.out) (hHeld.2.2.2.2.2.2.2.2.1)), (keep_ _ _ (by first | exact ne_rd hw231_0 GW232.out | exact ne_rd' hw231_0 GW232.out) (hHeld.2.2.2.2.2.2.2.2.2.1)), (keep_ _ _ (by first | exact ne_rd hw231_1 GW232.out | exact ne_rd' hw231_1 GW232.out) (hHeld.2.2.2.2.2.2.2.2.2.2.1)), (keep_ _ _ (by first | exact ne_rd hw231_2 GW232.out | exact ne_rd' hw231_2 GW232.out) (hHeld.2.2.2.2.2.2.2.2.2.2.2.1)), (keep_ _ _ (by first | exact ne_rd hw231_3 GW232.out | exact ne_rd' hw231_3 GW232.out) (hHeld.2.2.2.2.2.2.2.2.2.2.2.2.1)), (keep_ _ _ (by first | exact ne_rd hw231_4 GW232.out | exact ne_rd' hw231_4 GW232.out) (hHeld.2.2.2.2.2.2.2.2.2.2.2.2.2.1)), (keep_ _ _ (by first | exact ne_rd hw231_5 GW232.out | exact ne_rd' hw231_5 GW232.out) (hHeld.2.2.2.2.2.2.2.2.2.2.2.2.2.2.1)), (keep_ _ _ (by first | exact ne_rd hw231_6 GW232.out | exact ne_rd' hw231_6 GW232.out) (hHeld.2.2.2.2.2.2.2.2.2.2.2.2.2.2.2.1)), (keep_ _ _ (by first | exact ne_rd hw231_7 GW232.out | exact ne_rd' hw231_7 GW232.out) (hHeld.2.2.2.2.2.2.2.2.2.2.2.2.2.2.2.2.1)), (keep_ _ _ (by first | exact ne_rd hw231_8 GW232.out | exact ne_rd' hw231_8 GW232.out) (hHeld.2.2.2.2.2.2.2.2.2.2.2.2.2.2.2.2.2))⟩ (fun hHeld => ?_)
       clear hK K
       have n0_ := Aside0.mk (kb_ _ _ _ NB233_232.out BK233.out)
       have n1_ := Aside0.mk kg_
       have n2_ := Aside0.mk kl_
       clear keep_ kb_ kg_ kl_ hw_ BK233 BK232 HB
       have BK233 := n0_
       have BK232 := n1_
       have HB := n2_
       clear n0_ n1_ n2_
       refine one_ (i := 11) (N := none) #[true, true, true, true, true, true, true, true, true, true, true, true] rfl rfl (one_of HT_.out (by kernel_rfl)) (by decide) (fun K hK => ?_)
       have hs28 : w18y.cell? ⟨gb233, 0, none⟩ = some (.int .i64 0) := (blk_cell BK233.out 0).trans rfl
       have hfs28 := blk_frozen BK233.out 0
       have hns28_0 := NB232_233.out
       have hms28_0 := NB233_232.out
       have hs29 : w18y.cell? ⟨gb233, 1, none⟩ = some (.int .i64 0) := (blk_cell BK233.out 1).trans rfl
       have hfs29 := blk_frozen BK233.out 1
       have hns29_0 := NB232_233.out
       have hms29_0 := NB233_232.out
       have hs30 : w18y.cell? ⟨gb233, 2, none⟩ = some (.slice none 0 0) := (blk_cell BK233.out 2).trans rfl
       have hfs30 := blk_frozen BK233.out 2
       have hns30_0 := NB232_233.out
       have hms30_0 := NB233_232.out
       have hs31 : w18y.cell? ⟨gb233, 3, none⟩ = some (.int .i64 0) := (blk_cell BK233.out 3).trans rfl
       have hfs31 := blk_frozen BK233.out 3
       have hns31_0 := NB232_233.out
       have hms31_0 := NB233_232.out
       have hs32 : w18y.cell? ⟨gb233, 4, none⟩ = some (.int .i64 0) := (blk_cell BK233.out 4).trans rfl
       have hfs32 := blk_frozen BK233.out 4
       have hns32_0 := NB232_233.out
       have hms32_0 := NB233_232.out
       have hs33 : w18y.cell? ⟨gb233, 5, none⟩ = some (.int .i64 0) := (blk_cell BK233.out 5).trans rfl
       have hfs33 := blk_frozen BK233.out 5
       have hns33_0 := NB232_233.out
       have hms33_0 := NB233_232.out
       have hs34 : w18y.cell? ⟨gb233, 6, none⟩ = some (.slice none 0 0) := (blk_cell BK233.out 6).trans rfl
       have hfs34 := blk_frozen BK233.out 6
       have hns34_0 := NB232_233.out
       have hms34_0 := NB233_232.out
       have hs35 : w18y.cell? ⟨gb233, 7, none⟩ = some (.int .i64 0) := (blk_cell BK233.out 7).trans rfl
       have hfs35 := blk_frozen BK233.out 7
       have hns35_0 := NB232_233.out
       have hms35_0 := NB233_232.out
       have hs36 : w18y.cell? ⟨gb233, 8, none⟩ = some (.slice none 0 0) := (blk_cell BK233.out 8).trans rfl
       have hfs36 := blk_frozen BK233.out 8
       have hns36_0 := NB232_233.out
       have hms36_0 := NB233_232.out
       obtain ⟨w18z, hw_⟩ : ∃ x, x = (((((((((w18y.setCell ⟨gb233, 0, none⟩ (.int .i64 ((rd_T40 l1 x7_1).f0))).setCell ⟨gb233, 1, none⟩ (.int .i64 ((rd_T40 l1 x7_1).f1))).setCell ⟨gb233, 2, none⟩ (.slice A231_2 ((rd_T40 l1 x7_1).f2.f0).length c231_2)).setCell ⟨gb233, 3, none⟩ (.int .i64 ((rd_T40 l1 x7_1).f2.f1.f0))).setCell ⟨gb233, 4, none⟩ (.int .i64 ((rd_T40 l1 x7_1).f2.f1.f1))).setCell ⟨gb233, 5, none⟩ (.int .i64 ((rd_T40 l1 x7_1).f2.f2))).setCell ⟨gb233, 6, none⟩ (.slice A231_6 ((rd_T40 l1 x7_1).f3).length c231_6)).setCell ⟨gb233, 7, none⟩ (.int .i64 ((rd_T40 l1 x7_1).f4))).setCell ⟨gb233, 8, none⟩ (.slice A231_8 ((rd_T40 l1 x7_1).f5).length c231_8)) := ⟨_, rfl⟩
       have keep_ : ∀ (a : Addr) (v : Value), a.block ≠ gb233 → w18y.cell? a = some v → w18z.cell? a = some v := by
        intro a v ha h
        rw [hw_]
        iterate 9 refine cf ha ?_
        exact h
       have kb_ : ∀ (b : Nat) (cs : Array Value) (t : TypeId), b ≠ gb233 → w18y.heap[b]? = some (.cells cs t (0, 0)) → w18z.heap[b]? = some (.cells cs t (0, 0)) := by
        intro b cs t ha h
        rw [hw_]
        iterate 9 refine blk_far ?_ ha _
        exact h
       have kg_ : w18z.heap[gb233]? = some (.cells #[.int .i64 ((rd_T40 l1 x7_1).f0), .int .i64 ((rd_T40 l1 x7_1).f1), .slice A231_2 ((rd_T40 l1 x7_1).f2.f0).length c231_2, .int .i64 ((rd_T40 l1 x7_1).f2.f1.f0), .int .i64 ((rd_T40 l1 x7_1).f2.f1.f1), .int .i64 ((rd_T40 l1 x7_1).f2.f2), .slice A231_6 ((rd_T40 l1 x7_1).f3).length c231_6, .int .i64 ((rd_T40 l1 x7_1).f4), .slice A231_8 ((rd_T40 l1 x7_1).f5).length c231_8] 40 (0, 0)) := by
        rw [hw_]
        refine E_in ?_
        iterate 9 refine E_set ?_
        exact ⟨_, BK233.out, by (try dsimp only); simp only [List.setIfInBounds_toArray, List.set_cons_zero, List.set_cons_succ]⟩
       have kl_ : Below w.heap.size w w18z := by
        rw [hw_]
        iterate 9 refine below_set ?_ GE233.out
        exact HB.out
       refine skip_ (w1 := w18z) (by rfl) rfl ?_ ?_
       ·
        go_simp
        try (first | rfl | exact hw_.symm | (rw [hw_]) | (simp only [hw_]))
       refine hK.out _ _ ⟨(keep_ _ _ (by first | exact ne_rd hw230_0 GW233.out | exact ne_rd' hw230_0 GW233.out) (hHeld.1)), (keep_ _ _ (by first | exact ne_rd hw230_1 GW233.out | exact ne_rd' hw230_1 GW233.out) (hHeld.2.1)), (keep_ _ _ (by first | exact ne_rd hw230_2 GW233.out | exact ne_rd' hw230_2 GW233.out) (hHeld.2.2.1)), (keep_ _ _ (by first | exact ne_rd hw230_3 GW233.out | exact ne_rd' hw230_3 GW233.out) (hHeld.2.2.2.1)), (keep_ _ _ (by first | exact ne_rd hw230_4 GW233.out | exact ne_rd' hw230_4 GW233.out) (hHeld.2.2.2.2.1)), (keep_ _ _ (by first | exact ne_rd hw230_5 GW233.out | exact ne_rd' hw230_5 GW233.out) (hHeld.2.2.2.2.2.1)), (keep_ _ _ (by first | exact ne_rd hw230_6 GW233.out | exact ne_rd' hw230_6 GW233.out) (hHeld.2.2.2.2.2.2.1)), (keep_ _ _ (by first | exact ne_rd hw230_7 GW233.out | exact ne_rd' hw230_7 GW233.out) (hHeld.2.2.2.2.2.2.2.1)), (keep_ _ _ (by first | exact ne_rd hw230_8 GW233.out | exact ne_rd' hw230_8 GW233.out) (hHeld.2.2.2.2.2.2.2.2.1)), (keep_ _ _ (by first | exact ne_rd hw231_0 GW233.out | exact ne_rd' hw231_0 GW233.out) (hHeld.2.2.2.2.2.2.2.2.2.1)), (keep_ _ _ (by first | exact ne_rd hw231_1 GW233.out | exact ne_rd' hw231_1 GW233.out) (hHeld.2.2.2.2.2.2.2.2.2.2.1)), (keep_ _ _ (by first | exact ne_rd hw231_2 GW233.out | exact ne_rd' hw231_2 GW233.out) (hHeld.2.2.2.2.2.2.2.2.2.2.2.1)), (keep_ _ _ (by first | exact ne_rd hw231_3 GW233.out | exact ne_rd' hw231_3 GW233.out) (hHeld.2.2.2.2.2.2.2.2.2.2.2.2.1)), (keep_ _ _ (by first | exact ne_rd hw231_4 GW233.out | exact ne_rd' hw231_4 GW233.out) (hHeld.2.2.2.2.2.2.2.2.2.2.2.2.2.1)), (keep_ _ _ (by first | exact ne_rd hw231_5 GW233.out | exact ne_rd' hw231_5 GW233.out) (hHeld.2.2.2.2.2.2.2.2.2.2.2.2.2.2.1)), (keep_ _ _ (by first | exact ne_rd hw231_6 GW233.out | exact ne_rd' hw231_6 GW233.out) (hHeld.2.2.2.2.2.2.2.2.2.2.2.2.2.2.2.1)), (keep_ _ _ (by first | exact ne_rd hw231_7 GW233.out | exact ne_rd' hw231_7 GW233.out) (hHeld.2.2.2.2.2.2.2.2.2.2.2.2.2.2.2.2.1)), (keep_ _ _ (by first | exact ne_rd hw231_8 GW233.out | exact ne_rd' hw231_8 GW233.out) (hHeld.2.2.2.2.2.2.2.2.2.2.2.2.2.2.2.2.2))⟩ (fun hHeld => ?_)
       clear hK K
       have n0_ := Aside0.mk (kb_ _ _ _ NB232_233.out BK232.out)
       have n1_ := Aside0.mk kg_
       have n2_ := Aside0.mk kl_
       clear keep_ kb_ kg_ kl_ hw_ BK232 BK233 HB
       have BK232 := n0_
       have BK233 := n1_
       have HB := n2_
       clear n0_ n1_ n2_
       refine done_ (done_of HT_.out (by kernel_rfl)) ?_
       have hnb37 := NB232_233.out
       have hnc37 := NB233_232.out
       obtain ⟨hcz38_0, hcz38_1, hcz38_2, hcz38_3, hcz38_4, hcz38_5, hcz38_6, hcz38_7, hcz38_8⟩ := cells9 BK232.out
       obtain ⟨hfz38_0, hfz38_1, hfz38_2, hfz38_3, hfz38_4, hfz38_5, hfz38_6, hfz38_7, hfz38_8⟩ := frz9 BK232.out
       obtain ⟨hcz39_0, hcz39_1, hcz39_2, hcz39_3, hcz39_4, hcz39_5, hcz39_6, hcz39_7, hcz39_8⟩ := cells9 BK233.out
       obtain ⟨hfz39_0, hfz39_1, hfz39_2, hfz39_3, hfz39_4, hfz39_5, hfz39_6, hfz39_7, hfz39_8⟩ := frz9 BK233.out
       have H := HQ_.out
       clear HQ_
       by_cases c8 : ((rd_T40 l0 x7_1).f0) = ((rd_T40 l1 x7_1).f0)
       ·
        rw [if_pos c8] at H
        have c8b0 : (((rd_T40 l0 x7_1).f0) == ((rd_T40 l1 x7_1).f0)) = true := beq_iff_eq.mpr c8
        have c8b1 : (((rd_T40 l0 x7_1).f0) != ((rd_T40 l1 x7_1).f0)) = false := bne_eq_false_iff_eq.mpr c8
        clear c8
        by_cases c9 : ((rd_T40 l0 x7_1).f1) = ((rd_T40 l1 x7_1).f1)
        ·
         rw [if_pos c9] at H
         have c9b0 : (((rd_T40 l0 x7_1).f1) == ((rd_T40 l1 x7_1).f1)) = true := beq_iff_eq.mpr c9
         have c9b1 : (((rd_T40 l0 x7_1).f1) != ((rd_T40 l1 x7_1).f1)) = false := bne_eq_false_iff_eq.mpr c9
         clear c9
         by_cases c10 : ((rd_T40 l0 x7_1).f4) = ((rd_T40 l1 x7_1).f4)
         ·
          rw [if_pos c10] at H
          have c10b0 : (((rd_T40 l0 x7_1).f4) == ((rd_T40 l1 x7_1).f4)) = true := beq_iff_eq.mpr c10
          have c10b1 : (((rd_T40 l0 x7_1).f4) != ((rd_T40 l1 x7_1).f4)) = false := bne_eq_false_iff_eq.mpr c10
          clear c10
          by_cases c11 : (strOfNums ((rd_T40 l0 x7_1).f5)).toList = (strOfNums ((rd_T40 l1 x7_1).f5)).toList
          ·
           rw [if_pos c11] at H
           have c11b0 : ((strOfNums ((rd_T40 l0 x7_1).f5)).toList == (strOfNums ((rd_T40 l1 x7_1).f5)).toList) = true := beq_iff_eq.mpr c11
           have c11b1 : ((strOfNums ((rd_T40 l0 x7_1).f5)).toList != (strOfNums ((rd_T40 l1 x7_1).f5)).toList) = false := bne_eq_false_iff_eq.mpr c11
           clear c11
           replace H := Option.bind_eq_some_iff.mp H
           obtain ⟨t234, A120, H⟩ := H
           replace H : (if t234 = true then (if (!(((rd_T40 l0 x7_1).f2.f1.f0) == ((rd_T40 l1 x7_1).f2.f1.f0)) || (!(((rd_T40 l0 x7_1).f2.f1.f1) == ((rd_T40 l1 x7_1).f2.f1.f1)))) = true then (some false) else (if ((rd_T40 l0 x7_1).f2.f2) = ((rd_T40 l1 x7_1).f2.f2) then ((runnelref04_Same.f k1 ((rd_T40 l0 x7_1).f3) ((rd_T40 l1 x7_1).f3)).bind fun t235 => (if t235 = true then (runnelref26_Same.l0 k1 l0 l1 (wrap64 (x7_1 + 1))) else (some false))) else (some false))) else (some false)) = some r := H
           have A12 := Aside0.mk A120
           clear A120
           by_cases c13 : t234 = true
           ·
            subst c13
            have H1 : (if (!(((rd_T40 l0 x7_1).f2.f1.f0) == ((rd_T40 l1 x7_1).f2.f1.f0)) || (!(((rd_T40 l0 x7_1).f2.f1.f1) == ((rd_T40 l1 x7_1).f2.f1.f1)))) = true then (some false) else (if ((rd_T40 l0 x7_1).f2.f2) = ((rd_T40 l1 x7_1).f2.f2) then ((runnelref04_Same.f k1 ((rd_T40 l0 x7_1).f3) ((rd_T40 l1 x7_1).f3)).bind fun t235 => (if t235 = true then (runnelref26_Same.l0 k1 l0 l1 (wrap64 (x7_1 + 1))) else (some false))) else (some false))) = some r := by rw [if_pos rfl] at H; exact H
            clear H
            have H := H1
            clear H1
            by_cases c14 : (!(((rd_T40 l0 x7_1).f2.f1.f0) == ((rd_T40 l1 x7_1).f2.f1.f0)) || (!(((rd_T40 l0 x7_1).f2.f1.f1) == ((rd_T40 l1 x7_1).f2.f1.f1)))) = true
            ·
             rw [if_pos c14] at H
             have c14b0 : (!(((rd_T40 l0 x7_1).f2.f1.f0) == ((rd_T40 l1 x7_1).f2.f1.f0)) || (!(((rd_T40 l0 x7_1).f2.f1.f1) == ((rd_T40 l1 x7_1).f2.f1.f1)))) = true := c14
             clear c14
             obtain rfl := Option.some.inj H
             have hcv40 := Kd.C_string (P := Try.prog) (A := A230_8) (c := c230_8) Try.underlying22 Try.underlying5 Try.underlying9 (Kd.C_below HR230_8.out HB.out)
             have hcv40d := fun n_ : Nat => Kd.C_string (P := Try.prog) (A := A230_8) (c := c230_8) Try.underlying22 Try.underlying5 Try.underlying9 (Kd.C_drewN ((Kd.C_below HR230_8.out HB.out)) n_)
             have hcv41 := Kd.C_string (P := Try.prog) (A := A231_8) (c := c231_8) Try.underlying22 Try.underlying5 Try.underlying9 (Kd.C_below HR231_8.out HB.out)
             have hcv41d := fun n_ : Nat => Kd.C_string (P := Try.prog) (A := A231_8) (c := c231_8) Try.underlying22 Try.underlying5 Try.underlying9 (Kd.C_drewN ((Kd.C_below HR231_8.out HB.out)) n_)
             try go_wp2_with (first | (go_at_call 45; (with_reducible refine (runnelref03_Same.calls k1 _ _ ((rd_T40 l0 x7_1).f2.f0) _ _ ((rd_T40 l1 x7_1).f2.f0) true _ ?side1 ?side2 ?side3 ?side4 A12.out).mono ?_); (case side1 => exact Kd.C_below HR230_2.out bl); (case side2 => exact HC230_2.out); (case side3 => exact Kd.C_below HR231_2.out bl); (case side4 => exact HC231_2.out); rintro e w42 ⟨rfl, hb⟩; have n0_ := Aside0.mk (blk_below (g := gb232) (o := .cells #[.int .i64 ((rd_T40 l0 x7_1).f0), .int .i64 ((rd_T40 l0 x7_1).f1), .slice A230_2 ((rd_T40 l0 x7_1).f2.f0).length c230_2, .int .i64 ((rd_T40 l0 x7_1).f2.f1.f0), .int .i64 ((rd_T40 l0 x7_1).f2.f1.f1), .int .i64 ((rd_T40 l0 x7_1).f2.f2), .slice A230_6 ((rd_T40 l0 x7_1).f3).length c230_6, .int .i64 ((rd_T40 l0 x7_1).f4), .slice A230_8 ((rd_T40 l0 x7_1).f5).length c230_8] 40 (0, 0)) bk hb); have n1_ := Aside0.mk (blk_below (g := gb233) (o := .cells #[.int .i64 ((rd_T40 l1 x7_1).f0), .int .i64 ((rd_T40 l1 x7_1).f1), .slice A231_2 ((rd_T40 l1 x7_1).f2.f0).length c231_2, .int .i64 ((rd_T40 l1 x7_1).f2.f1.f0), .int .i64 ((rd_T40 l1 x7_1).f2.f1.f1), .int .i64 ((rd_T40 l1 x7_1).f2.f2), .slice A231_6 ((rd_T40 l1 x7_1).f3).length c231_6, .int .i64 ((rd_T40 l1 x7_1).f4), .slice A231_8 ((rd_T40 l1 x7_1).f5).length c231_8] 40 (0, 0)) bk hb); have n2_ := Aside0.mk (below_step bl hb); clear BK232; clear BK233; clear HB; have BK232 := n0_; have BK233 := n1_; have HB := n2_; clear n0_ n1_ n2_; (try clear hb); (try clear hb2); (try clear hk); (try clear hi); obtain ⟨hcz43_0, hcz43_1, hcz43_2, hcz43_3, hcz43_4, hcz43_5, hcz43_6, hcz43_7, hcz43_8⟩ := cells9 BK232.out; obtain ⟨hfz43_0, hfz43_1, hfz43_2, hfz43_3, hfz43_4, hfz43_5, hfz43_6, hfz43_7, hfz43_8⟩ := frz9 BK232.out; obtain ⟨hcz44_0, hcz44_1, hcz44_2, hcz44_3, hcz44_4, hcz44_5, hcz44_6, hcz44_7, hcz44_8⟩ := cells9 BK233.out; obtain ⟨hfz44_0, hfz44_1, hfz44_2, hfz44_3, hfz44_4, hfz44_5, hfz44_6, hfz44_7, hfz44_8⟩ := frz9 BK233.out))
             go_ret
             exact ⟨erq, by repeat (first | (with_reducible first | exact HB.out | apply below_alloc | apply pw_below_drewN | apply below_drew1 | refine below_set ?_ GE232.out | refine below_set ?_ GE233.out) | exact HB.out)⟩
            ·
             rw [if_neg c14] at H
             have c14b0 : (!(((rd_T40 l0 x7_1).f2.f1.f0) == ((rd_T40 l1 x7_1).f2.f1.f0)) || (!(((rd_T40 l0 x7_1).f2.f1.f1) == ((rd_T40 l1 x7_1).f2.f1.f1)))) = false := by simpa using c14
             clear c14
             by_cases c45 : ((rd_T40 l0 x7_1).f2.f2) = ((rd_T40 l1 x7_1).f2.f2)
             ·
              rw [if_pos c45] at H
              have c45b0 : (((rd_T40 l0 x7_1).f2.f2) == ((rd_T40 l1 x7_1).f2.f2)) = true := beq_iff_eq.mpr c45
              have c45b1 : (((rd_T40 l0 x7_1).f2.f2) != ((rd_T40 l1 x7_1).f2.f2)) = false := bne_eq_false_iff_eq.mpr c45
              clear c45
              replace H := Option.bind_eq_some_iff.mp H
              obtain ⟨t235, A460, H⟩ := H
              replace H : (if t235 = true then (runnelref26_Same.l0 k1 l0 l1 (wrap64 (x7_1 + 1))) else (some false)) = some r := H
              have A46 := Aside0.mk A460
              clear A460
              by_cases c47 : t235 = true
              ·
               subst c47
               have H1 : (runnelref26_Same.l0 k1 l0 l1 (wrap64 (x7_1 + 1))) = some r := by rw [if_pos rfl] at H; exact H
               clear H
               have H := H1
               clear H1
               have H' := Aside0.mk H
               clear H
               have hcv73 := Kd.C_string (P := Try.prog) (A := A230_8) (c := c230_8) Try.underlying22 Try.underlying5 Try.underlying9 (Kd.C_below HR230_8.out HB.out)
               have hcv73d := fun n_ : Nat => Kd.C_string (P := Try.prog) (A := A230_8) (c := c230_8) Try.underlying22 Try.underlying5 Try.underlying9 (Kd.C_drewN ((Kd.C_below HR230_8.out HB.out)) n_)
               have hcv74 := Kd.C_string (P := Try.prog) (A := A231_8) (c := c231_8) Try.underlying22 Try.underlying5 Try.underlying9 (Kd.C_below HR231_8.out HB.out)
               have hcv74d := fun n_ : Nat => Kd.C_string (P := Try.prog) (A := A231_8) (c := c231_8) Try.underlying22 Try.underlying5 Try.underlying9 (Kd.C_drewN ((Kd.C_below HR231_8.out HB.out)) n_)
               try go_wp2_with (first | (go_at_call 45; (with_reducible refine (runnelref03_Same.calls k1 _ _ ((rd_T40 l0 x7_1).f2.f0) _ _ ((rd_T40 l1 x7_1).f2.f0) true _ ?side1 ?side2 ?side3 ?side4 A12.out).mono ?_); (case side1 => exact Kd.C_below HR230_2.out bl); (case side2 => exact HC230_2.out); (case side3 => exact Kd.C_below HR231_2.out bl); (case side4 => exact HC231_2.out); rintro e w75 ⟨rfl, hb⟩; have n0_ := Aside0.mk (blk_below (g := gb232) (o := .cells #[.int .i64 ((rd_T40 l0 x7_1).f0), .int .i64 ((rd_T40 l0 x7_1).f1), .slice A230_2 ((rd_T40 l0 x7_1).f2.f0).length c230_2, .int .i64 ((rd_T40 l0 x7_1).f2.f1.f0), .int .i64 ((rd_T40 l0 x7_1).f2.f1.f1), .int .i64 ((rd_T40 l0 x7_1).f2.f2), .slice A230_6 ((rd_T40 l0 x7_1).f3).length c230_6, .int .i64 ((rd_T40 l0 x7_1).f4), .slice A230_8 ((rd_T40 l0 x7_1).f5).length c230_8] 40 (0, 0)) bk hb); have n1_ := Aside0.mk (blk_below (g := gb233) (o := .cells #[.int .i64 ((rd_T40 l1 x7_1).f0), .int .i64 ((rd_T40 l1 x7_1).f1), .slice A231_2 ((rd_T40 l1 x7_1).f2.f0).length c231_2, .int .i64 ((rd_T40 l1 x7_1).f2.f1.f0), .int .i64 ((rd_T40 l1 x7_1).f2.f1.f1), .int .i64 ((rd_T40 l1 x7_1).f2.f2), .slice A231_6 ((rd_T40 l1 x7_1).f3).length c231_6, .int .i64 ((rd_T40 l1 x7_1).f4), .slice A231_8 ((rd_T40 l1 x7_1).f5).length c231_8] 40 (0, 0)) bk hb); have n2_ := Aside0.mk (below_step bl hb); clear BK232; clear BK233; clear HB; have BK232 := n0_; have BK233 := n1_; have HB := n2_; clear n0_ n1_ n2_; (try clear hb); (try clear hb2); (try clear hk); (try clear hi); obtain ⟨hcz76_0, hcz76_1, hcz76_2, hcz76_3, hcz76_4, hcz76_5, hcz76_6, hcz76_7, hcz76_8⟩ := cells9 BK232.out; obtain ⟨hfz76_0, hfz76_1, hfz76_2, hfz76_3, hfz76_4, hfz76_5, hfz76_6, hfz76_7, hfz76_8⟩ := frz9 BK232.out; obtain ⟨hcz77_0, hcz77_1, hcz77_2, hcz77_3, hcz77_4, hcz77_5, hcz77_6, hcz77_7, hcz77_8⟩ := cells9 BK233.out; have hfz77_0 := blk_frozen BK233.out 0; have hfz77_1 := blk_frozen BK233.out 1; have hfz77_2 := blk_frozen BK233.out 2; have hfz77_3 := blk_frozen BK233.out 3; have hfz77_4 := blk_frozen BK233.out 4; have hfz77_5 := blk_frozen BK233.out 5; have hfz77_6 := blk_frozen BK233.out 6; have hfz77_7 := blk_frozen BK233.out 7; have hfz77_8 := blk_frozen BK233.out 8) | (go_at_call 13; (with_reducible refine (runnelref04_Same.calls k1 _ _ ((rd_T40 l0 x7_1).f3) _ _ ((rd_T40 l1 x7_1).f3) true _ ?side1 ?side2 ?side3 ?side4 A46.out).mono ?_); (case side1 => repeat (first | exact (Kd.C_below HR230_6.out HB.out) | (with_reducible refine Kd.C_alloc ?_ _) | (with_reducible refine Kd.C_drewN ?_ _) | (with_reducible refine Kd.C_drew ?_))); (case side2 => exact HC230_6.out); (case side3 => repeat (first | exact (Kd.C_below HR231_6.out HB.out) | (with_reducible refine Kd.C_alloc ?_ _) | (with_reducible refine Kd.C_drewN ?_ _) | (with_reducible refine Kd.C_drew ?_))); (case side4 => exact HC231_6.out); rintro e w' ⟨rfl, ⟨nd, rfl⟩⟩))
               go_roundg k1
               case measure => have := HK1.out; omega
               case rel => exact ⟨(wrap64 (x7_1 + 1)), (by first | rfl | (simp; done) | (simp [*]; done)), H', ⟨by have := HK1.out; omega⟩, ⟨bl⟩⟩
              ·
               replace c47 := Bool.eq_false_iff.mpr c47
               subst c47
               have H1 : (some false) = some r := by rw [if_neg (show ¬ (false = true) by decide)] at H; exact H
               clear H
               have H := H1
               clear H1
               obtain rfl := Option.some.inj H
               have hcv103 := Kd.C_string (P := Try.prog) (A := A230_8) (c := c230_8) Try.underlying22 Try.underlying5 Try.underlying9 (Kd.C_below HR230_8.out HB.out)
               have hcv103d := fun n_ : Nat => Kd.C_string (P := Try.prog) (A := A230_8) (c := c230_8) Try.underlying22 Try.underlying5 Try.underlying9 (Kd.C_drewN ((Kd.C_below HR230_8.out HB.out)) n_)
               have hcv104 := Kd.C_string (P := Try.prog) (A := A231_8) (c := c231_8) Try.underlying22 Try.underlying5 Try.underlying9 (Kd.C_below HR231_8.out HB.out)
               have hcv104d := fun n_ : Nat => Kd.C_string (P := Try.prog) (A := A231_8) (c := c231_8) Try.underlying22 Try.underlying5 Try.underlying9 (Kd.C_drewN ((Kd.C_below HR231_8.out HB.out)) n_)
               try go_wp2_with (first | (go_at_call 45; (with_reducible refine (runnelref03_Same.calls k1 _ _ ((rd_T40 l0 x7_1).f2.f0) _ _ ((rd_T40 l1 x7_1).f2.f0) true _ ?side1 ?side2 ?side3 ?side4 A12.out).mono ?_); (case side1 => exact Kd.C_below HR230_2.out bl); (case side2 => exact HC230_2.out); (case side3 => exact Kd.C_below HR231_2.out bl); (case side4 => exact HC231_2.out); rintro e w105 ⟨rfl, hb⟩; have n0_ := Aside0.mk (blk_below (g := gb232) (o := .cells #[.int .i64 ((rd_T40 l0 x7_1).f0), .int .i64 ((rd_T40 l0 x7_1).f1), .slice A230_2 ((rd_T40 l0 x7_1).f2.f0).length c230_2, .int .i64 ((rd_T40 l0 x7_1).f2.f1.f0), .int .i64 ((rd_T40 l0 x7_1).f2.f1.f1), .int .i64 ((rd_T40 l0 x7_1).f2.f2), .slice A230_6 ((rd_T40 l0 x7_1).f3).length c230_6, .int .i64 ((rd_T40 l0 x7_1).f4), .slice A230_8 ((rd_T40 l0 x7_1).f5).length c230_8] 40 (0, 0)) bk hb); have n1_ := Aside0.mk (blk_below (g := gb233) (o := .cells #[.int .i64 ((rd_T40 l1 x7_1).f0), .int .i64 ((rd_T40 l1 x7_1).f1), .slice A231_2 ((rd_T40 l1 x7_1).f2.f0).length c231_2, .int .i64 ((rd_T40 l1 x7_1).f2.f1.f0), .int .i64 ((rd_T40 l1 x7_1).f2.f1.f1), .int .i64 ((rd_T40 l1 x7_1).f2.f2), .slice A231_6 ((rd_T40 l1 x7_1).f3).length c231_6, .int .i64 ((rd_T40 l1 x7_1).f4), .slice A231_8 ((rd_T40 l1 x7_1).f5).length c231_8] 40 (0, 0)) bk hb); have n2_ := Aside0.mk (below_step bl hb); clear BK232; clear BK233; clear HB; have BK232 := n0_; have BK233 := n1_; have HB := n2_; clear n0_ n1_ n2_; (try clear hb); (try clear hb2); (try clear hk); (try clear hi); obtain ⟨hcz106_0, hcz106_1, hcz106_2, hcz106_3, hcz106_4, hcz106_5, hcz106_6, hcz106_7, hcz106_8⟩ := cells9 BK232.out; obtain ⟨hfz106_0, hfz106_1, hfz106_2, hfz106_3, hfz106_4, hfz106_5, hfz106_6, hfz106_7, hfz106_8⟩ := frz9 BK232.out; obtain ⟨hcz107_0, hcz107_1, hcz107_2, hcz107_3, hcz107_4, hcz107_5, hcz107_6, hcz107_7, hcz107_8⟩ := cells9 BK233.out; have hfz107_0 := blk_frozen BK233.out 0; have hfz107_1 := blk_frozen BK233.out 1; have hfz107_2 := blk_frozen BK233.out 2; have hfz107_3 := blk_frozen BK233.out 3; have hfz107_4 := blk_frozen BK233.out 4; have hfz107_5 := blk_frozen BK233.out 5; have hfz107_6 := blk_frozen BK233.out 6; have hfz107_7 := blk_frozen BK233.out 7; have hfz107_8 := blk_frozen BK233.out 8) | (go_at_call 13; (with_reducible refine (runnelref04_Same.calls k1 _ _ ((rd_T40 l0 x7_1).f3) _ _ ((rd_T40 l1 x7_1).f3) false _ ?side1 ?side2 ?side3 ?side4 A46.out).mono ?_); (case side1 => repeat (first | exact (Kd.C_below HR230_6.out HB.out) | (with_reducible refine Kd.C_alloc ?_ _) | (with_reducible refine Kd.C_drewN ?_ _) | (with_reducible refine Kd.C_drew ?_))); (case side2 => exact HC230_6.out); (case side3 => repeat (first | exact (Kd.C_below HR231_6.out HB.out) | (with_reducible refine Kd.C_alloc ?_ _) | (with_reducible refine Kd.C_drewN ?_ _) | (with_reducible refine Kd.C_drew ?_))); (case side4 => exact HC231_6.out); rintro e w' ⟨rfl, ⟨nd, rfl⟩⟩))
               go_ret
               exact ⟨erq, by repeat (first | (with_reducible first | exact HB.out | apply below_alloc | apply pw_below_drewN | apply below_drew1 | refine below_set ?_ GE232.out | refine below_set ?_ GE233.out) | exact HB.out)⟩
             ·
              rw [if_neg c45] at H
              have c45b0 : (((rd_T40 l0 x7_1).f2.f2) == ((rd_T40 l1 x7_1).f2.f2)) = false := beq_eq_false_iff_ne.mpr c45
              have c45b1 : (((rd_T40 l0 x7_1).f2.f2) != ((rd_T40 l1 x7_1).f2.f2)) = true := bne_iff_ne.mpr c45
              obtain rfl := Option.some.inj H
              have hcv133 := Kd.C_string (P := Try.prog) (A := A230_8) (c := c230_8) Try.underlying22 Try.underlying5 Try.underlying9 (Kd.C_below HR230_8.out HB.out)
              have hcv133d := fun n_ : Nat => Kd.C_string (P := Try.prog) (A := A230_8) (c := c230_8) Try.underlying22 Try.underlying5 Try.underlying9 (Kd.C_drewN ((Kd.C_below HR230_8.out HB.out)) n_)
              have hcv134 := Kd.C_string (P := Try.prog) (A := A231_8) (c := c231_8) Try.underlying22 Try.underlying5 Try.underlying9 (Kd.C_below HR231_8.out HB.out)
              have hcv134d := fun n_ : Nat => Kd.C_string (P := Try.prog) (A := A231_8) (c := c231_8) Try.underlying22 Try.underlying5 Try.underlying9 (Kd.C_drewN ((Kd.C_below HR231_8.out HB.out)) n_)
              try go_wp2_with (first | (go_at_call 45; (with_reducible refine (runnelref03_Same.calls k1 _ _ ((rd_T40 l0 x7_1).f2.f0) _ _ ((rd_T40 l1 x7_1).f2.f0) true _ ?side1 ?side2 ?side3 ?side4 A12.out).mono ?_); (case side1 => exact Kd.C_below HR230_2.out bl); (case side2 => exact HC230_2.out); (case side3 => exact Kd.C_below HR231_2.out bl); (case side4 => exact HC231_2.out); rintro e w135 ⟨rfl, hb⟩; have n0_ := Aside0.mk (blk_below (g := gb232) (o := .cells #[.int .i64 ((rd_T40 l0 x7_1).f0), .int .i64 ((rd_T40 l0 x7_1).f1), .slice A230_2 ((rd_T40 l0 x7_1).f2.f0).length c230_2, .int .i64 ((rd_T40 l0 x7_1).f2.f1.f0), .int .i64 ((rd_T40 l0 x7_1).f2.f1.f1), .int .i64 ((rd_T40 l0 x7_1).f2.f2), .slice A230_6 ((rd_T40 l0 x7_1).f3).length c230_6, .int .i64 ((rd_T40 l0 x7_1).f4), .slice A230_8 ((rd_T40 l0 x7_1).f5).length c230_8] 40 (0, 0)) bk hb); have n1_ := Aside0.mk (blk_below (g := gb233) (o := .cells #[.int .i64 ((rd_T40 l1 x7_1).f0), .int .i64 ((rd_T40 l1 x7_1).f1), .slice A231_2 ((rd_T40 l1 x7_1).f2.f0).length c231_2, .int .i64 ((rd_T40 l1 x7_1).f2.f1.f0), .int .i64 ((rd_T40 l1 x7_1).f2.f1.f1), .int .i64 ((rd_T40 l1 x7_1).f2.f2), .slice A231_6 ((rd_T40 l1 x7_1).f3).length c231_6, .int .i64 ((rd_T40 l1 x7_1).f4), .slice A231_8 ((rd_T40 l1 x7_1).f5).length c231_8] 40 (0, 0)) bk hb); have n2_ := Aside0.mk (below_step bl hb); clear BK232; clear BK233; clear HB; have BK232 := n0_; have BK233 := n1_; have HB := n2_; clear n0_ n1_ n2_; (try clear hb); (try clear hb2); (try clear hk); (try clear hi); obtain ⟨hcz136_0, hcz136_1, hcz136_2, hcz136_3, hcz136_4, hcz136_5, hcz136_6, hcz136_7, hcz136_8⟩ := cells9 BK232.out; obtain ⟨hfz136_0, hfz136_1, hfz136_2, hfz136_3, hfz136_4, hfz136_5, hfz136_6, hfz136_7, hfz136_8⟩ := frz9 BK232.out; obtain ⟨hcz137_0, hcz137_1, hcz137_2, hcz137_3, hcz137_4, hcz137_5, hcz137_6, hcz137_7, hcz137_8⟩ := cells9 BK233.out; obtain ⟨hfz137_0, hfz137_1, hfz137_2, hfz137_3, hfz137_4, hfz137_5, hfz137_6, hfz137_7, hfz137_8⟩ := frz9 BK233.out))
              go_ret
              exact ⟨erq, by repeat (first | (with_reducible first | exact HB.out | apply below_alloc | apply pw_below_drewN | apply below_drew1 | refine below_set ?_ GE232.out | refine below_set ?_ GE233.out) | exact HB.out)⟩
           ·
            replace c13 := Bool.eq_false_iff.mpr c13
            subst c13
            have H1 : (some false) = some r := by rw [if_neg (show ¬ (false = true) by decide)] at H; exact H
            clear H
            have H := H1
            clear H1
            obtain rfl := Option.some.inj H
            have hcv163 := Kd.C_string (P := Try.prog) (A := A230_8) (c := c230_8) Try.underlying22 Try.underlying5 Try.underlying9 (Kd.C_below HR230_8.out HB.out)
            have hcv163d := fun n_ : Nat => Kd.C_string (P := Try.prog) (A := A230_8) (c := c230_8) Try.underlying22 Try.underlying5 Try.underlying9 (Kd.C_drewN ((Kd.C_below HR230_8.out HB.out)) n_)
            have hcv164 := Kd.C_string (P := Try.prog) (A := A231_8) (c := c231_8) Try.underlying22 Try.underlying5 Try.underlying9 (Kd.C_below HR231_8.out HB.out)
            have hcv164d := fun n_ : Nat => Kd.C_string (P := Try.prog) (A := A231_8) (c := c231_8) Try.underlying22 Try.underlying5 Try.underlying9 (Kd.C_drewN ((Kd.C_below HR231_8.out HB.out)) n_)
            try go_wp2_with (first | (go_at_call 45; (with_reducible refine (runnelref03_Same.calls k1 _ _ ((rd_T40 l0 x7_1).f2.f0) _ _ ((rd_T40 l1 x7_1).f2.f0) false _ ?side1 ?side2 ?side3 ?side4 A12.out).mono ?_); (case side1 => exact Kd.C_below HR230_2.out bl); (case side2 => exact HC230_2.out); (case side3 => exact Kd.C_below HR231_2.out bl); (case side4 => exact HC231_2.out); rintro e w165 ⟨rfl, hb⟩; have n0_ := Aside0.mk (blk_below (g := gb232) (o := .cells #[.int .i64 ((rd_T40 l0 x7_1).f0), .int .i64 ((rd_T40 l0 x7_1).f1), .slice A230_2 ((rd_T40 l0 x7_1).f2.f0).length c230_2, .int .i64 ((rd_T40 l0 x7_1).f2.f1.f0), .int .i64 ((rd_T40 l0 x7_1).f2.f1.f1), .int .i64 ((rd_T40 l0 x7_1).f2.f2), .slice A230_6 ((rd_T40 l0 x7_1).f3).length c230_6, .int .i64 ((rd_T40 l0 x7_1).f4), .slice A230_8 ((rd_T40 l0 x7_1).f5).length c230_8] 40 (0, 0)) bk hb); have n1_ := Aside0.mk (blk_below (g := gb233) (o := .cells #[.int .i64 ((rd_T40 l1 x7_1).f0), .int .i64 ((rd_T40 l1 x7_1).f1), .slice A231_2 ((rd_T40 l1 x7_1).f2.f0).length c231_2, .int .i64 ((rd_T40 l1 x7_1).f2.f1.f0), .int .i64 ((rd_T40 l1 x7_1).f2.f1.f1), .int .i64 ((rd_T40 l1 x7_1).f2.f2), .slice A231_6 ((rd_T40 l1 x7_1).f3).length c231_6, .int .i64 ((rd_T40 l1 x7_1).f4), .slice A231_8 ((rd_T40 l1 x7_1).f5).length c231_8] 40 (0, 0)) bk hb); have n2_ := Aside0.mk (below_step bl hb); clear BK232; clear BK233; clear HB; have BK232 := n0_; have BK233 := n1_; have HB := n2_; clear n0_ n1_ n2_; (try clear hb); (try clear hb2); (try clear hk); (try clear hi)))
            go_ret
            exact ⟨erq, by repeat (first | (with_reducible first | exact HB.out | apply below_alloc | apply pw_below_drewN | apply below_drew1 | refine below_set ?_ GE232.out | refine below_set ?_ GE233.out) | exact HB.out)⟩
          ·
           rw [if_neg c11] at H
           have c11b0 : ((strOfNums ((rd_T40 l0 x7_1).f5)).toList == (strOfNums ((rd_T40 l1 x7_1).f5)).toList) = false := beq_eq_false_iff_ne.mpr c11
           have c11b1 : ((strOfNums ((rd_T40 l0 x7_1).f5)).toList != (strOfNums ((rd_T40 l1 x7_1).f5)).toList) = true := bne_iff_ne.mpr c11
           obtain rfl := Option.some.inj H
           have hcv191 := Kd.C_string (P := Try.prog) (A := A230_8) (c := c230_8) Try.underlying22 Try.underlying5 Try.underlying9 (Kd.C_below HR230_8.out HB.out)
           have hcv191d := fun n_ : Nat => Kd.C_string (P := Try.prog) (A := A230_8) (c := c230_8) Try.underlying22 Try.underlying5 Try.underlying9 (Kd.C_drewN ((Kd.C_below HR230_8.out HB.out)) n_)
           have hcv192 := Kd.C_string (P := Try.prog) (A := A231_8) (c := c231_8) Try.underlying22 Try.underlying5 Try.underlying9 (Kd.C_below HR231_8.out HB.out)
           have hcv192d := fun n_ : Nat => Kd.C_string (P := Try.prog) (A := A231_8) (c := c231_8) Try.underlying22 Try.underlying5 Try.underlying9 (Kd.C_drewN ((Kd.C_below HR231_8.out HB.out)) n_)
           try go_wp2
           go_ret
           exact ⟨erq, by repeat (first | (with_reducible first | exact HB.out | apply below_alloc | apply pw_below_drewN | apply below_drew1 | refine below_set ?_ GE232.out | refine below_set ?_ GE233.out) | exact HB.out)⟩
         ·
          rw [if_neg c10] at H
          have c10b0 : (((rd_T40 l0 x7_1).f4) == ((rd_T40 l1 x7_1).f4)) = false := beq_eq_false_iff_ne.mpr c10
          have c10b1 : (((rd_T40 l0 x7_1).f4) != ((rd_T40 l1 x7_1).f4)) = true := bne_iff_ne.mpr c10
          obtain rfl := Option.some.inj H
          try go_wp2
          go_ret
          exact ⟨erq, by repeat (first | (with_reducible first | exact HB.out | apply below_alloc | apply pw_below_drewN | apply below_drew1 | refine below_set ?_ GE232.out | refine below_set ?_ GE233.out) | exact HB.out)⟩
        ·
         rw [if_neg c9] at H
         have c9b0 : (((rd_T40 l0 x7_1).f1) == ((rd_T40 l1 x7_1).f1)) = false := beq_eq_false_iff_ne.mpr c9
         have c9b1 : (((rd_T40 l0 x7_1).f1) != ((rd_T40 l1 x7_1).f1)) = true := bne_iff_ne.mpr c9
         obtain rfl := Option.some.inj H
         try go_wp2
         go_ret
         exact ⟨erq, by repeat (first | (with_reducible first | exact HB.out | apply below_alloc | apply pw_below_drewN | apply below_drew1 | refine below_set ?_ GE232.out | refine below_set ?_ GE233.out) | exact HB.out)⟩
       ·
        rw [if_neg c8] at H
        have c8b0 : (((rd_T40 l0 x7_1).f0) == ((rd_T40 l1 x7_1).f0)) = false := beq_eq_false_iff_ne.mpr c8
        have c8b1 : (((rd_T40 l0 x7_1).f0) != ((rd_T40 l1 x7_1).f0)) = true := bne_iff_ne.mpr c8
        obtain rfl := Option.some.inj H
        try go_wp2
        go_ret
        exact ⟨erq, by repeat (first | (with_reducible first | exact HB.out | apply below_alloc | apply pw_below_drewN | apply below_drew1 | refine below_set ?_ GE232.out | refine below_set ?_ GE233.out) | exact HB.out)⟩
      ·
       rw [if_neg c7] at H
       exact absurd H (by simp)
     ·
      rw [if_neg c6] at H
      exact absurd H (by simp)
    ·
     rw [if_neg c5] at H
     have c5b0 : decide (x7_1 < (l0.length : Int)) = false := decide_eq_false c5
     clear c5
     obtain rfl := Option.some.inj H
     go_wp2
     go_ret
     exact ⟨erq, by repeat (first | (with_reducible first | exact HB.out | apply below_alloc | apply pw_below_drewN | apply below_drew1) | exact HB.out)⟩
 ·
  rw [if_neg c4] at H
  have c4b0 : ((l0.length : Int) == (l1.length : Int)) = false := beq_eq_false_iff_ne.mpr c4
  have c4b1 : ((l0.length : Int) != (l1.length : Int)) = true := bne_iff_ne.mpr c4
  have c4b2 : (l0.length == l1.length) = false := by first | simpa using c4 | (simp at c4 ⊢; omega)
  obtain rfl := Option.some.inj H
  go_enter Try.func17, Try.ntmps17
  go_wp2
  go_ret
  exact ⟨erq, by repeat (first | (with_reducible first | exact HB.out | apply below_alloc | apply pw_below_drewN | apply below_drew1) | exact HB.out)⟩

end Go.Proofs.Ytpplklickfioiaa.PWireDecodes
