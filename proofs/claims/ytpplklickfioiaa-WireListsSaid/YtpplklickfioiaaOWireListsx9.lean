/- One piece of the machine's side of the law, written by a program over the translation; Lean checks it. -/
import Derived.Test.YtpplklickfioiaaOWireListsx0
import Derived.Test.YtpplklickfioiaaOWireListsx1
import Derived.Test.YtpplklickfioiaaOWireListsx5
import Derived.Test.YtpplklickfioiaaOWireListsx6
import Derived.Test.YtpplklickfioiaaOWireListsx8
import Derived.Test.YtpplklickfioiaaShort
namespace Go.Proofs.Ytpplklickfioiaa.PWireLists
open Go.RowKit Go.Proofs.YtpplklickfioiaaW.PrintWords Go.Proofs.YtpplklickfioiaaW.PrintLast Go.Proofs.YtpplklickfioiaaW.PrintMore
attribute [local go_sem] max2_int min2_int max_two min_two max_three min_three max_four min_four   -- for this text's walks alone
set_option linter.unusedVariables false
set_option linter.unusedSimpArgs false

attribute [local go_sem high] eqA36
/-! ### runnelref26_Same: function 17 -/
def runnelref26_Same.l0 : Nat → List (S40) → List (S40) → Int → Option (Bool)
 | 0, _, _, _ => none
 | k + 1, x0, x1, x7 => if x7 < (x0.length : Int) then (if 0 ≤ x7 then (if x7 < (x1.length : Int) then ((runnelref26_Plain.f k ((rd_T40 x0 x7).f0) ((rd_T40 x0 x7).f1) ((rd_T40 x0 x7).f2.f0) ((rd_T40 x0 x7).f2.f1.f0) ((rd_T40 x0 x7).f2.f1.f1) ((rd_T40 x0 x7).f2.f2) ((rd_T40 x0 x7).f3) ((rd_T40 x0 x7).f4) ((rd_T40 x0 x7).f5)).bind fun bt237 => ((runnelref26_Plain.f k ((rd_T40 x1 x7).f0) ((rd_T40 x1 x7).f1) ((rd_T40 x1 x7).f2.f0) ((rd_T40 x1 x7).f2.f1.f0) ((rd_T40 x1 x7).f2.f1.f1) ((rd_T40 x1 x7).f2.f2) ((rd_T40 x1 x7).f3) ((rd_T40 x1 x7).f4) ((rd_T40 x1 x7).f5)).bind fun bt252 => (if bt237.1 = bt252.1 then (if bt237.2.1 = bt252.2.1 then (if bt237.2.2.2.2.2.2.2.1 = bt252.2.2.2.2.2.2.2.1 then (if (strOfNums bt237.2.2.2.2.2.2.2.2).toList = (strOfNums bt252.2.2.2.2.2.2.2.2).toList then ((runnelref03_Same.f k bt237.2.2.1 bt252.2.2.1).bind fun t267 => (if t267 = true then (if (!(bt237.2.2.2.1 == bt252.2.2.2.1) || (!(bt237.2.2.2.2.1 == bt252.2.2.2.2.1))) = true then (some false) else (if bt237.2.2.2.2.2.1 = bt252.2.2.2.2.2.1 then ((runnelref04_Same.f k bt237.2.2.2.2.2.2.1 bt252.2.2.2.2.2.2.1).bind fun t268 => (if t268 = true then (runnelref26_Same.l0 k x0 x1 (wrap64 (x7 + 1))) else (some false))) else (some false))) else (some false))) else (some false)) else (some false)) else (some false)) else (some false)))) else (none)) else (none)) else (some true)
def runnelref26_Same.f (k : Nat) (l0 : List (S40)) (l1 : List (S40)) (a2 : Bool) : Option (Bool) := if (l0.length : Int) = (l1.length : Int) then (runnelref26_Same.l0 k l0 l1 0) else (some false)
theorem runnelref26_Same.mono_l : ∀ k, (∀ y0 y1 y2, LeO (runnelref26_Same.l0 k y0 y1 y2) (runnelref26_Same.l0 (k + 1) y0 y1 y2))
 | 0 => fun _ _ _ r h => by simp [runnelref26_Same.l0] at h
 | k + 1 => by
  have ih0 := runnelref26_Same.mono_l k
  ·
   intro y0 y1 y2
   unfold runnelref26_Same.l0
   repeat' first
   | (with_reducible exact ih0 _ _ _)
   | (with_reducible exact runnelref03_Same.mono _ _ _)
   | (with_reducible exact runnelref04_Same.mono _ _ _)
   | (with_reducible exact runnelref26_Plain.mono _ _ _ _ _ _ _ _ _ _)
   | (with_reducible exact LeO.refl _)
   | (with_reducible exact LeO.none _)
   | (with_reducible refine LeO.ite ?_ ?_)
   | (with_reducible refine LeO.bind ?_ (fun _ => ?_))
   | exact ih0 _ _ _
   | exact runnelref03_Same.mono _ _ _
   | exact runnelref04_Same.mono _ _ _
   | exact runnelref26_Plain.mono _ _ _ _ _ _ _ _ _ _
   | exact LeO.none _
   | refine LeO.ite ?_ ?_
   | refine LeO.bind ?_ (fun _ => ?_)
theorem runnelref26_Same.mono : ∀ a0 a1 a2 k, LeO (runnelref26_Same.f k a0 a1 a2) (runnelref26_Same.f (k + 1) a0 a1 a2) := by
 intro a0 a1 a2 k
 have ih0 := runnelref26_Same.mono_l k
 unfold runnelref26_Same.f
 repeat' first
   | (with_reducible exact ih0 _ _ _)
   | (with_reducible exact runnelref03_Same.mono _ _ _)
   | (with_reducible exact runnelref04_Same.mono _ _ _)
   | (with_reducible exact runnelref26_Plain.mono _ _ _ _ _ _ _ _ _ _)
   | (with_reducible exact LeO.refl _)
   | (with_reducible exact LeO.none _)
   | (with_reducible refine LeO.ite ?_ ?_)
   | (with_reducible refine LeO.bind ?_ (fun _ => ?_))
   | exact ih0 _ _ _
   | exact runnelref03_Same.mono _ _ _
   | exact runnelref04_Same.mono _ _ _
   | exact runnelref26_Plain.mono _ _ _ _ _ _ _ _ _ _
   | exact LeO.none _
   | refine LeO.ite ?_ ?_
   | refine LeO.bind ?_ (fun _ => ?_)
def runnelref26_Same.T6 : Bool × List (List Nat × List Nat) := (true, [([], []), ([], []), ([0, 1], [0, 1]), ([2], [2]), ([], []), ([], []), ([4, 5], [4, 5]), ([6], [6]), ([], []), ([], []), ([8, 3, 0, 1, 2, 3, 8, 9], [3, 8]), ([9, 7, 10, 0, 1, 2, 3, 4, 5, 6, 7, 8, 9, 10], [7, 9])])
def runnelref26_Same.B6 : List Nat := [0, 0, 3, 7, 0, 0, 48, 112, 0, 0, 783, 2047]
theorem runnelref26_Same.tab6 : rtab .any (opsOf Try.f17 6) = runnelref26_Same.T6 := by kernel_rfl
theorem runnelref26_Same.bits6 : waitsOk runnelref26_Same.T6.2 runnelref26_Same.B6 = true := by kernel_rfl
set_option maxHeartbeats 8000000 in
set_option maxRecDepth 100000 in
theorem runnelref26_Same.calls (k : Nat) (A0 : Option Addr) (c0 : Nat) (l0 : List (S40)) (A1 : Option Addr) (c1 : Nat) (l1 : List (S40)) (a2 : Bool) (r : Bool) (w : World) (hr0 : Kd.C k40 w A0 l0.length l0) (hc0 : l0.length ≤ c0) (hr1 : Kd.C k40 w A1 l1.length l1) (hc1 : l1.length ≤ c1) (h : runnelref26_Same.f k l0 l1 a2 = some r) :
  Calls Try.prog 17 #[.slice A0 l0.length c0, .slice A1 l1.length c1, .bool true] w fun e w' => e = .returned (.bool r) ∧ Below w.heap.size w w' := by
 have hu40 := Try.underlying40
 have hu36 := Try.underlying36
 have HR0 := Aside0.mk hr0
 have HC0 := Aside0.mk hc0
 clear hr0 hc0
 have HR1 := Aside0.mk hr1
 have HC1 := Aside0.mk hc1
 clear hr1 hc1
 have HB := Aside0.mk (Below.refl w.heap.size w)
 have H : (if (l0.length : Int) = (l1.length : Int) then (runnelref26_Same.l0 k l0 l1 0) else (some false)) = some r := h
 clear h
 by_cases c4 : (l0.length : Int) = (l1.length : Int)
 ·
  rw [if_pos c4] at H
  have c4b0 : ((l0.length : Int) == (l1.length : Int)) = true := beq_iff_eq.mpr c4
  have c4b1 : ((l0.length : Int) != (l1.length : Int)) = false := bne_eq_false_iff_eq.mpr c4
  have c4b2 : (l0.length == l1.length) = true := by first | simpa using c4 | (simp at c4 ⊢; omega)
  clear c4
  have H' := Aside0.mk H
  clear H
  go_enter Try.func17, Try.ntmps17
  go_wp2
  go_loopg [7] k (fun kq v7 w' => ∃ (x7_1 : Int), v7 = .int .i64 x7_1 ∧ Aside0 (runnelref26_Same.l0 kq l0 l1 x7_1 = some r) ∧ Aside0 (kq ≤ k) ∧ Aside0 (Below w.heap.size w w'))
  case atStart => exact ⟨(0), (by first | rfl | (simp; done) | (simp [*]; done)), H', ⟨Nat.le_refl _⟩, ⟨bl⟩⟩
  case round =>
   clear H'
   (try clear c1); (try clear c4); (try clear c4b0); (try clear c4b1); (try clear c4b2)
   obtain ⟨x7_1, rfl, HA, HK1, HB⟩ := hrel
   cases gk with
   | zero => exact absurd HA.out (by simp [runnelref26_Same.l0])
   | succ k1 =>
    have H := HA.out
    clear HA
    simp only [runnelref26_Same.l0] at H
    by_cases c5 : x7_1 < (l0.length : Int)
    ·
     rw [if_pos c5] at H
     have c5b0 : decide (x7_1 < (l0.length : Int)) = true := decide_eq_true c5
     clear c5
     by_cases c6 : 0 ≤ x7_1
     ·
      rw [if_pos c6] at H
      have c6b0 : decide (0 ≤ x7_1) = true := decide_eq_true c6
      clear c6
      by_cases c7 : x7_1 < (l1.length : Int)
      ·
       rw [if_pos c7] at H
       have c7b0 : decide (x7_1 < (l1.length : Int)) = true := decide_eq_true c7
       clear c7
       replace H := Option.bind_eq_some_iff.mp H
       obtain ⟨⟨t237, t238, t239, t242, t243, t244, t245, t248, t249⟩, A80, H⟩ := H
       replace H : ((runnelref26_Plain.f k1 ((rd_T40 l1 x7_1).f0) ((rd_T40 l1 x7_1).f1) ((rd_T40 l1 x7_1).f2.f0) ((rd_T40 l1 x7_1).f2.f1.f0) ((rd_T40 l1 x7_1).f2.f1.f1) ((rd_T40 l1 x7_1).f2.f2) ((rd_T40 l1 x7_1).f3) ((rd_T40 l1 x7_1).f4) ((rd_T40 l1 x7_1).f5)).bind fun bt252 => (if t237 = bt252.1 then (if t238 = bt252.2.1 then (if t248 = bt252.2.2.2.2.2.2.2.1 then (if (strOfNums t249).toList = (strOfNums bt252.2.2.2.2.2.2.2.2).toList then ((runnelref03_Same.f k1 t239 bt252.2.2.1).bind fun t267 => (if t267 = true then (if (!(t242 == bt252.2.2.2.1) || (!(t243 == bt252.2.2.2.2.1))) = true then (some false) else (if t244 = bt252.2.2.2.2.2.1 then ((runnelref04_Same.f k1 t245 bt252.2.2.2.2.2.2.1).bind fun t268 => (if t268 = true then (runnelref26_Same.l0 k1 l0 l1 (wrap64 (x7_1 + 1))) else (some false))) else (some false))) else (some false))) else (some false)) else (some false)) else (some false)) else (some false))) = some r := H
       have A8 := Aside0.mk A80
       clear A80
       replace H := Option.bind_eq_some_iff.mp H
       obtain ⟨⟨t252, t253, t254, t257, t258, t259, t260, t263, t264⟩, A90, H⟩ := H
       replace H : (if t237 = t252 then (if t238 = t253 then (if t248 = t263 then (if (strOfNums t249).toList = (strOfNums t264).toList then ((runnelref03_Same.f k1 t239 t254).bind fun t267 => (if t267 = true then (if (!(t242 == t257) || (!(t243 == t258))) = true then (some false) else (if t244 = t259 then ((runnelref04_Same.f k1 t245 t260).bind fun t268 => (if t268 = true then (runnelref26_Same.l0 k1 l0 l1 (wrap64 (x7_1 + 1))) else (some false))) else (some false))) else (some false))) else (some false)) else (some false)) else (some false)) else (some false)) = some r := H
       have A9 := Aside0.mk A90
       clear A90
       have HQ_ := Aside0.mk H
       clear H
       try go_wp2
       have n0_ := Aside0.mk (below_drew1 HB.out)
       clear HB
       have HB := n0_
       clear n0_
       have p233 : 0 ≤ (x7_1 : Int) := of_decide_eq_true (by first | (with_reducible assumption) | assumption)
       have q233 : x7_1 < (l0.length : Int) := of_decide_eq_true (by first | (with_reducible assumption) | assumption)
       obtain ⟨ad233, A233_2, c233_2, A233_6, c233_6, A233_8, c233_8, e233, hx233_0, hx233_1, hx233_2, hx233_3, hx233_4, hx233_5, hx233_6, hx233_7, hx233_8, hl233_2, hi233_2, hl233_6, hi233_6, hl233_8, hi233_8⟩ := at_T40 HR0.out x7_1 p233 q233
       have hw233_8 := hx233_8
       have hw233_7 := hx233_7
       have hw233_6 := hx233_6
       have hw233_5 := hx233_5
       have hw233_4 := hx233_4
       have hw233_3 := hx233_3
       have hw233_2 := hx233_2
       have hw233_1 := hx233_1
       have hw233_0 := hx233_0
       cases e233
       replace hx233_0 := bc HB.out hx233_0
       replace hx233_1 := bc HB.out hx233_1
       replace hx233_2 := bc HB.out hx233_2
       replace hx233_3 := bc HB.out hx233_3
       replace hx233_4 := bc HB.out hx233_4
       replace hx233_5 := bc HB.out hx233_5
       replace hx233_6 := bc HB.out hx233_6
       replace hx233_7 := bc HB.out hx233_7
       replace hx233_8 := bc HB.out hx233_8
       have HR233_2 := Aside0.mk hi233_2
       have HC233_2 := Aside0.mk hl233_2
       clear hi233_2 hl233_2
       have HR233_6 := Aside0.mk hi233_6
       have HC233_6 := Aside0.mk hl233_6
       clear hi233_6 hl233_6
       have HR233_8 := Aside0.mk hi233_8
       have HC233_8 := Aside0.mk hl233_8
       clear hi233_8 hl233_8
       replace p233 := eq_true p233
       replace q233 := eq_true q233
       have p234 : 0 ≤ (x7_1 : Int) := of_decide_eq_true (by first | (with_reducible assumption) | assumption)
       have q234 : x7_1 < (l1.length : Int) := of_decide_eq_true (by first | (with_reducible assumption) | assumption)
       obtain ⟨ad234, A234_2, c234_2, A234_6, c234_6, A234_8, c234_8, e234, hx234_0, hx234_1, hx234_2, hx234_3, hx234_4, hx234_5, hx234_6, hx234_7, hx234_8, hl234_2, hi234_2, hl234_6, hi234_6, hl234_8, hi234_8⟩ := at_T40 HR1.out x7_1 p234 q234
       have hw234_8 := hx234_8
       have hw234_7 := hx234_7
       have hw234_6 := hx234_6
       have hw234_5 := hx234_5
       have hw234_4 := hx234_4
       have hw234_3 := hx234_3
       have hw234_2 := hx234_2
       have hw234_1 := hx234_1
       have hw234_0 := hx234_0
       cases e234
       replace hx234_0 := bc HB.out hx234_0
       replace hx234_1 := bc HB.out hx234_1
       replace hx234_2 := bc HB.out hx234_2
       replace hx234_3 := bc HB.out hx234_3
       replace hx234_4 := bc HB.out hx234_4
       replace hx234_5 := bc HB.out hx234_5
       replace hx234_6 := bc HB.out hx234_6
       replace hx234_7 := bc HB.out hx234_7
       replace hx234_8 := bc HB.out hx234_8
       have HR234_2 := Aside0.mk hi234_2
       have HC234_2 := Aside0.mk hl234_2
       clear hi234_2 hl234_2
       have HR234_6 := Aside0.mk hi234_6
       have HC234_6 := Aside0.mk hl234_6
       clear hi234_6 hl234_6
       have HR234_8 := Aside0.mk hi234_8
       have HC234_8 := Aside0.mk hl234_8
       clear hi234_8 hl234_8
       replace p234 := eq_true p234
       replace q234 := eq_true q234
       refine start_ (n := 12) (S := fun w' => w'.cell? (ad233.add ((x7_1).toNat * 9)) = some (.int .i64 ((rd_T40 l0 x7_1).f0)) ∧ w'.cell? ⟨(ad233.add ((x7_1).toNat * 9)).block, (ad233.add ((x7_1).toNat * 9)).off + 1, none⟩ = some (.int .i64 ((rd_T40 l0 x7_1).f1)) ∧ w'.cell? ⟨(ad233.add ((x7_1).toNat * 9)).block, (ad233.add ((x7_1).toNat * 9)).off + 2, none⟩ = some (.slice A233_2 ((rd_T40 l0 x7_1).f2.f0).length c233_2) ∧ w'.cell? ⟨(ad233.add ((x7_1).toNat * 9)).block, (ad233.add ((x7_1).toNat * 9)).off + 3, none⟩ = some (.int .i64 ((rd_T40 l0 x7_1).f2.f1.f0)) ∧ w'.cell? ⟨(ad233.add ((x7_1).toNat * 9)).block, (ad233.add ((x7_1).toNat * 9)).off + 4, none⟩ = some (.int .i64 ((rd_T40 l0 x7_1).f2.f1.f1)) ∧ w'.cell? ⟨(ad233.add ((x7_1).toNat * 9)).block, (ad233.add ((x7_1).toNat * 9)).off + 5, none⟩ = some (.int .i64 ((rd_T40 l0 x7_1).f2.f2)) ∧ w'.cell? ⟨(ad233.add ((x7_1).toNat * 9)).block, (ad233.add ((x7_1).toNat * 9)).off + 6, none⟩ = some (.slice A233_6 ((rd_T40 l0 x7_1).f3).length c233_6) ∧ w'.cell? ⟨(ad233.add ((x7_1).toNat * 9)).block, (ad233.add ((x7_1).toNat * 9)).off + 7, none⟩ = some (.int .i64 ((rd_T40 l0 x7_1).f4)) ∧ w'.cell? ⟨(ad233.add ((x7_1).toNat * 9)).block, (ad233.add ((x7_1).toNat * 9)).off + 8, none⟩ = some (.slice A233_8 ((rd_T40 l0 x7_1).f5).length c233_8) ∧ w'.cell? (ad234.add ((x7_1).toNat * 9)) = some (.int .i64 ((rd_T40 l1 x7_1).f0)) ∧ w'.cell? ⟨(ad234.add ((x7_1).toNat * 9)).block, (ad234.add ((x7_1).toNat * 9)).off + 1, none⟩ = some (.int .i64 ((rd_T40 l1 x7_1).f1)) ∧ w'.cell? ⟨(ad234.add ((x7_1).toNat * 9)).block, (ad234.add ((x7_1).toNat * 9)).off + 2, none⟩ = some (.slice A234_2 ((rd_T40 l1 x7_1).f2.f0).length c234_2) ∧ w'.cell? ⟨(ad234.add ((x7_1).toNat * 9)).block, (ad234.add ((x7_1).toNat * 9)).off + 3, none⟩ = some (.int .i64 ((rd_T40 l1 x7_1).f2.f1.f0)) ∧ w'.cell? ⟨(ad234.add ((x7_1).toNat * 9)).block, (ad234.add ((x7_1).toNat * 9)).off + 4, none⟩ = some (.int .i64 ((rd_T40 l1 x7_1).f2.f1.f1)) ∧ w'.cell? ⟨(ad234.add ((x7_1).toNat * 9)).block, (ad234.add ((x7_1).toNat * 9)).off + 5, none⟩ = some (.int .i64 ((rd_T40 l1 x7_1).f2.f2)) ∧ w'.cell? ⟨(ad234.add ((x7_1).toNat * 9)).block, (ad234.add ((x7_1).toNat * 9)).off + 6, none⟩ = some (.slice A234_6 ((rd_T40 l1 x7_1).f3).length c234_6) ∧ w'.cell? ⟨(ad234.add ((x7_1).toNat * 9)).block, (ad234.add ((x7_1).toNat * 9)).off + 7, none⟩ = some (.int .i64 ((rd_T40 l1 x7_1).f4)) ∧ w'.cell? ⟨(ad234.add ((x7_1).toNat * 9)).block, (ad234.add ((x7_1).toNat * 9)).off + 8, none⟩ = some (.slice A234_8 ((rd_T40 l1 x7_1).f5).length c234_8)) (ds := []) #[false, false, false, false, false, false, false, false, false, false, false, false] (by kernel_rfl) rfl rfl ⟨(bc HB.out hw233_0), (bc HB.out hw233_1), (bc HB.out hw233_2), (bc HB.out hw233_3), (bc HB.out hw233_4), (bc HB.out hw233_5), (bc HB.out hw233_6), (bc HB.out hw233_7), (bc HB.out hw233_8), (bc HB.out hw234_0), (bc HB.out hw234_1), (bc HB.out hw234_2), (bc HB.out hw234_3), (bc HB.out hw234_4), (bc HB.out hw234_5), (bc HB.out hw234_6), (bc HB.out hw234_7), (bc HB.out hw234_8)⟩ (fun hHeld => ?_); refine with_tabW runnelref26_Same.tab6 runnelref26_Same.bits6 (fun HT_ HW_ => ?_)
       generalize wr.drew = w17 at HB HR233_2 HR233_6 HR233_8 HR234_2 HR234_6 HR234_8 hx233_0 hx233_1 hx233_2 hx233_3 hx233_4 hx233_5 hx233_6 hx233_7 hx233_8 hx234_0 hx234_1 hx234_2 hx234_3 hx234_4 hx234_5 hx234_6 hx234_7 hx234_8 hHeld ⊢
       refine pure_ (i := 0) (N := some 21) (v := ?_) (a' := ?_) #[true, false, false, false, false, false, false, false, false, false, false, false] rfl rfl (any_of HT_.out (by kernel_rfl)) (fun _ _ _ h => h) (Or.inl ⟨by rfl, ?_⟩) ?_ ?_
       rotate_left
       ·
        intro w'
        go_simp
        with_reducible rfl
       rotate_left
       ·
        simp only [Act.put, List.setIfInBounds_toArray, List.set_cons_zero, List.set_cons_succ, i64_w, i32_w]
        rfl
       refine pure_ (i := 1) (N := some 22) (v := ?_) (a' := ?_) #[true, true, false, false, false, false, false, false, false, false, false, false] rfl rfl (any_of HT_.out (by kernel_rfl)) (fun _ _ _ h => h) (Or.inl ⟨by rfl, ?_⟩) ?_ ?_
       rotate_left
       ·
        intro w'
        go_simp
        with_reducible rfl
       rotate_left
       ·
        simp only [Act.put, List.setIfInBounds_toArray, List.set_cons_zero, List.set_cons_succ, i64_w, i32_w]
        rfl
       refine pure_ (i := 2) (N := some 23) (v := ?_) (a' := ?_) #[true, true, true, false, false, false, false, false, false, false, false, false] rfl rfl (any_of HT_.out (by kernel_rfl)) (fun _ _ _ h => h) (Or.inl ⟨by rfl, ?_⟩) ?_ ?_
       rotate_left
       ·
        intro w'
        go_simp
        with_reducible rfl
       rotate_left
       ·
        simp only [Act.put, List.setIfInBounds_toArray, List.set_cons_zero, List.set_cons_succ, i64_w, i32_w]
        rfl
       refine pure_ (i := 4) (N := some 25) (v := ?_) (a' := ?_) #[true, true, true, false, true, false, false, false, false, false, false, false] rfl rfl (any_of HT_.out (by kernel_rfl)) (fun _ _ _ h => h) (Or.inl ⟨by rfl, ?_⟩) ?_ ?_
       rotate_left
       ·
        intro w'
        go_simp
        with_reducible rfl
       rotate_left
       ·
        simp only [Act.put, List.setIfInBounds_toArray, List.set_cons_zero, List.set_cons_succ, i64_w, i32_w]
        rfl
       refine pure_ (i := 5) (N := some 26) (v := ?_) (a' := ?_) #[true, true, true, false, true, true, false, false, false, false, false, false] rfl rfl (any_of HT_.out (by kernel_rfl)) (fun _ _ _ h => h) (Or.inl ⟨by rfl, ?_⟩) ?_ ?_
       rotate_left
       ·
        intro w'
        go_simp
        with_reducible rfl
       rotate_left
       ·
        simp only [Act.put, List.setIfInBounds_toArray, List.set_cons_zero, List.set_cons_succ, i64_w, i32_w]
        rfl
       refine pure_ (i := 6) (N := some 27) (v := ?_) (a' := ?_) #[true, true, true, false, true, true, true, false, false, false, false, false] rfl rfl (any_of HT_.out (by kernel_rfl)) (fun _ _ _ h => h) (Or.inl ⟨by rfl, ?_⟩) ?_ ?_
       rotate_left
       ·
        intro w'
        go_simp
        with_reducible rfl
       rotate_left
       ·
        simp only [Act.put, List.setIfInBounds_toArray, List.set_cons_zero, List.set_cons_succ, i64_w, i32_w]
        rfl
       refine take_ (i := 3) (N := some 24) (v := ?_) (a' := ?_) #[true, true, true, true, true, true, true, false, false, false, false, false] rfl rfl (take_ofW HT_.out HW_.out (by kernel_rfl)) (fun _ _ _ h => h) (Or.inl ⟨by rfl, ?_⟩) hHeld ?_ ?_
       rotate_left
       ·
        rintro w' ⟨s0, s1, s2, s3, s4, s5, s6, s7, s8, s9, s10, s11, s12, s13, s14, s15, s16, s17⟩
        go_simp
        with_reducible rfl
       rotate_left
       ·
        simp only [Act.put, List.setIfInBounds_toArray, List.set_cons_zero, List.set_cons_succ, i64_w, i32_w]
        rfl
       refine take_ (i := 7) (N := some 28) (v := ?_) (a' := ?_) #[true, true, true, true, true, true, true, true, false, false, false, false] rfl rfl (take_ofW HT_.out HW_.out (by kernel_rfl)) (fun _ _ _ h => h) (Or.inl ⟨by rfl, ?_⟩) hHeld ?_ ?_
       rotate_left
       ·
        rintro w' ⟨s0, s1, s2, s3, s4, s5, s6, s7, s8, s9, s10, s11, s12, s13, s14, s15, s16, s17⟩
        go_simp
        with_reducible rfl
       rotate_left
       ·
        simp only [Act.put, List.setIfInBounds_toArray, List.set_cons_zero, List.set_cons_succ, i64_w, i32_w]
        rfl
       refine join_ (σ := Nat × Nat) 2 #[true, true, true, true, true, true, true, true, true, true, false, false] (fun s_ => [(8, .pointer (some ⟨s_.1, 0, none⟩)), (9, .pointer (some ⟨s_.2, 0, none⟩))]) (fun s_ w' => (w'.cell? (ad233.add ((x7_1).toNat * 9)) = some (.int .i64 ((rd_T40 l0 x7_1).f0)) ∧ w'.cell? ⟨(ad233.add ((x7_1).toNat * 9)).block, (ad233.add ((x7_1).toNat * 9)).off + 1, none⟩ = some (.int .i64 ((rd_T40 l0 x7_1).f1)) ∧ w'.cell? ⟨(ad233.add ((x7_1).toNat * 9)).block, (ad233.add ((x7_1).toNat * 9)).off + 2, none⟩ = some (.slice A233_2 ((rd_T40 l0 x7_1).f2.f0).length c233_2) ∧ w'.cell? ⟨(ad233.add ((x7_1).toNat * 9)).block, (ad233.add ((x7_1).toNat * 9)).off + 3, none⟩ = some (.int .i64 ((rd_T40 l0 x7_1).f2.f1.f0)) ∧ w'.cell? ⟨(ad233.add ((x7_1).toNat * 9)).block, (ad233.add ((x7_1).toNat * 9)).off + 4, none⟩ = some (.int .i64 ((rd_T40 l0 x7_1).f2.f1.f1)) ∧ w'.cell? ⟨(ad233.add ((x7_1).toNat * 9)).block, (ad233.add ((x7_1).toNat * 9)).off + 5, none⟩ = some (.int .i64 ((rd_T40 l0 x7_1).f2.f2)) ∧ w'.cell? ⟨(ad233.add ((x7_1).toNat * 9)).block, (ad233.add ((x7_1).toNat * 9)).off + 6, none⟩ = some (.slice A233_6 ((rd_T40 l0 x7_1).f3).length c233_6) ∧ w'.cell? ⟨(ad233.add ((x7_1).toNat * 9)).block, (ad233.add ((x7_1).toNat * 9)).off + 7, none⟩ = some (.int .i64 ((rd_T40 l0 x7_1).f4)) ∧ w'.cell? ⟨(ad233.add ((x7_1).toNat * 9)).block, (ad233.add ((x7_1).toNat * 9)).off + 8, none⟩ = some (.slice A233_8 ((rd_T40 l0 x7_1).f5).length c233_8) ∧ w'.cell? (ad234.add ((x7_1).toNat * 9)) = some (.int .i64 ((rd_T40 l1 x7_1).f0)) ∧ w'.cell? ⟨(ad234.add ((x7_1).toNat * 9)).block, (ad234.add ((x7_1).toNat * 9)).off + 1, none⟩ = some (.int .i64 ((rd_T40 l1 x7_1).f1)) ∧ w'.cell? ⟨(ad234.add ((x7_1).toNat * 9)).block, (ad234.add ((x7_1).toNat * 9)).off + 2, none⟩ = some (.slice A234_2 ((rd_T40 l1 x7_1).f2.f0).length c234_2) ∧ w'.cell? ⟨(ad234.add ((x7_1).toNat * 9)).block, (ad234.add ((x7_1).toNat * 9)).off + 3, none⟩ = some (.int .i64 ((rd_T40 l1 x7_1).f2.f1.f0)) ∧ w'.cell? ⟨(ad234.add ((x7_1).toNat * 9)).block, (ad234.add ((x7_1).toNat * 9)).off + 4, none⟩ = some (.int .i64 ((rd_T40 l1 x7_1).f2.f1.f1)) ∧ w'.cell? ⟨(ad234.add ((x7_1).toNat * 9)).block, (ad234.add ((x7_1).toNat * 9)).off + 5, none⟩ = some (.int .i64 ((rd_T40 l1 x7_1).f2.f2)) ∧ w'.cell? ⟨(ad234.add ((x7_1).toNat * 9)).block, (ad234.add ((x7_1).toNat * 9)).off + 6, none⟩ = some (.slice A234_6 ((rd_T40 l1 x7_1).f3).length c234_6) ∧ w'.cell? ⟨(ad234.add ((x7_1).toNat * 9)).block, (ad234.add ((x7_1).toNat * 9)).off + 7, none⟩ = some (.int .i64 ((rd_T40 l1 x7_1).f4)) ∧ w'.cell? ⟨(ad234.add ((x7_1).toNat * 9)).block, (ad234.add ((x7_1).toNat * 9)).off + 8, none⟩ = some (.slice A234_8 ((rd_T40 l1 x7_1).f5).length c234_8)) ∧ (w'.heap[s_.1]? = some (.cells #[.int .i64 0, .int .i64 0, .slice none 0 0, .int .i64 0, .int .i64 0, .int .i64 0, .slice none 0 0, .int .i64 0, .slice none 0 0] 40 (0, 0))) ∧ (w'.heap[s_.2]? = some (.cells #[.int .i64 0, .int .i64 0, .slice none 0 0, .int .i64 0, .int .i64 0, .int .i64 0, .slice none 0 0, .int .i64 0, .slice none 0 0] 40 (0, 0))) ∧ (w.heap.size ≤ s_.1) ∧ (w.heap.size ≤ s_.1) ∧ (s_.2 ≠ s_.1) ∧ (s_.1 ≠ s_.2) ∧ (w.heap.size ≤ s_.2) ∧ (w.heap.size ≤ s_.2) ∧ (Below w.heap.size w w')) ?_ ?_
       rotate_left
       ·
        intro hCont
        refine two_ (i := 8) (j := 9) (Ni := some 8) (Nj := some 9) #[true, true, true, true, true, true, true, true, true, false, false, false] #[true, true, true, true, true, true, true, true, false, true, false, false] rfl rfl rfl rfl (two_of HT_.out (by kernel_rfl)) (by decide) (by decide) (fun K hK => ?_) (fun K hK => ?_)
        ·
         skip
         refine box_step ?hg (N := 8) ?hd (cs := #[.int .i64 0, .int .i64 0, .slice none 0 0, .int .i64 0, .int .i64 0, .int .i64 0, .slice none 0 0, .int .i64 0, .slice none 0 0]) (t := 40) ?hr ?_; (case hd => rfl); (case hg => rfl); (case hr => first | (go_simp; done) | (go_simp; rfl))
         intro gb235 hg w18 hbox hb
         have n0_ := Aside0.mk (below_step bl hb)
         have n1_ := Aside0.mk (hbox)
         have n2_ := Aside0.mk ((by rw [hg]; exact (below_size bl) : w.heap.size ≤ gb235))
         have n3_ := Aside0.mk ((by rw [hg]; exact (below_size bl) : w.heap.size ≤ gb235))
         clear HB
         have HB := n0_
         have BK235 := n1_
         have GW235 := n2_
         have GE235 := n3_
         clear n0_ n1_ n2_ n3_
         clear hb hbox hg
         refine hK.out _ _ ⟨(bc HB.out hw233_0), (bc HB.out hw233_1), (bc HB.out hw233_2), (bc HB.out hw233_3), (bc HB.out hw233_4), (bc HB.out hw233_5), (bc HB.out hw233_6), (bc HB.out hw233_7), (bc HB.out hw233_8), (bc HB.out hw234_0), (bc HB.out hw234_1), (bc HB.out hw234_2), (bc HB.out hw234_3), (bc HB.out hw234_4), (bc HB.out hw234_5), (bc HB.out hw234_6), (bc HB.out hw234_7), (bc HB.out hw234_8)⟩ (fun hHeld => ?_)
         clear hK K
         refine norm_ (a' := ?_) ?_ ?_
         rotate_left
         ·
          show Act.put _ (some 8) _ = _
          simp only [Act.put, List.setIfInBounds_toArray, List.set_cons_zero, List.set_cons_succ, i64_w, i32_w]
          rfl
         refine one_ (i := 9) (N := some 9) #[true, true, true, true, true, true, true, true, true, true, false, false] rfl rfl (one_of HT_.out (by kernel_rfl)) (by decide) (fun K hK => ?_)
         refine box_step ?hg (N := 9) ?hd (cs := #[.int .i64 0, .int .i64 0, .slice none 0 0, .int .i64 0, .int .i64 0, .int .i64 0, .slice none 0 0, .int .i64 0, .slice none 0 0]) (t := 40) ?hr ?_; (case hd => rfl); (case hg => rfl); (case hr => first | (go_simp; done) | (go_simp; rfl))
         intro gb236 hg w19 hbox hb
         have n0_ := Aside0.mk (blk_below (g := gb235) (o := .cells #[.int .i64 0, .int .i64 0, .slice none 0 0, .int .i64 0, .int .i64 0, .int .i64 0, .slice none 0 0, .int .i64 0, .slice none 0 0] 40 (0, 0)) bk hb)
         have n1_ := Aside0.mk (below_step bl hb)
         have n2_ := Aside0.mk (hbox)
         have n3_ := Aside0.mk ((by rw [hg]; exact (below_size bl) : w.heap.size ≤ gb236))
         have n4_ := Aside0.mk ((by rw [hg]; exact (below_size bl) : w.heap.size ≤ gb236))
         have n5_ := Aside0.mk ((by rw [hg]; exact Nat.ne_of_lt blt : gb235 ≠ gb236))
         have n6_ := Aside0.mk ((by rw [hg]; exact Nat.ne_of_gt blt : gb236 ≠ gb235))
         clear BK235
         clear HB
         have BK235 := n0_
         have HB := n1_
         have BK236 := n2_
         have GW236 := n3_
         have GE236 := n4_
         have NB235_236 := n5_
         have NB236_235 := n6_
         clear n0_ n1_ n2_ n3_ n4_ n5_ n6_
         clear hb hbox hg
         refine hK.out _ _ ⟨(bc HB.out hw233_0), (bc HB.out hw233_1), (bc HB.out hw233_2), (bc HB.out hw233_3), (bc HB.out hw233_4), (bc HB.out hw233_5), (bc HB.out hw233_6), (bc HB.out hw233_7), (bc HB.out hw233_8), (bc HB.out hw234_0), (bc HB.out hw234_1), (bc HB.out hw234_2), (bc HB.out hw234_3), (bc HB.out hw234_4), (bc HB.out hw234_5), (bc HB.out hw234_6), (bc HB.out hw234_7), (bc HB.out hw234_8)⟩ (fun hHeld => ?_)
         clear hK K
         refine norm_ (a' := ?_) ?_ ?_
         rotate_left
         ·
          show Act.put _ (some 9) _ = _
          simp only [Act.put, List.setIfInBounds_toArray, List.set_cons_zero, List.set_cons_succ, i64_w, i32_w]
          rfl
         exact norm_ (by simp only [putAll, Act.put, List.setIfInBounds_toArray, List.set_cons_zero, List.set_cons_succ]) (hCont (gb235, gb236) _ ⟨hHeld, bk, bk, GW235.out, GE235.out, NB236_235.out, NB235_236.out, GW236.out, GE236.out, bl⟩)
        ·
         skip
         refine box_step ?hg (N := 9) ?hd (cs := #[.int .i64 0, .int .i64 0, .slice none 0 0, .int .i64 0, .int .i64 0, .int .i64 0, .slice none 0 0, .int .i64 0, .slice none 0 0]) (t := 40) ?hr ?_; (case hd => rfl); (case hg => rfl); (case hr => first | (go_simp; done) | (go_simp; rfl))
         intro gb236 hg w18 hbox hb
         have n0_ := Aside0.mk (below_step bl hb)
         have n1_ := Aside0.mk (hbox)
         have n2_ := Aside0.mk ((by rw [hg]; exact (below_size bl) : w.heap.size ≤ gb236))
         have n3_ := Aside0.mk ((by rw [hg]; exact (below_size bl) : w.heap.size ≤ gb236))
         clear HB
         have HB := n0_
         have BK236 := n1_
         have GW236 := n2_
         have GE236 := n3_
         clear n0_ n1_ n2_ n3_
         clear hb hbox hg
         refine hK.out _ _ ⟨(bc HB.out hw233_0), (bc HB.out hw233_1), (bc HB.out hw233_2), (bc HB.out hw233_3), (bc HB.out hw233_4), (bc HB.out hw233_5), (bc HB.out hw233_6), (bc HB.out hw233_7), (bc HB.out hw233_8), (bc HB.out hw234_0), (bc HB.out hw234_1), (bc HB.out hw234_2), (bc HB.out hw234_3), (bc HB.out hw234_4), (bc HB.out hw234_5), (bc HB.out hw234_6), (bc HB.out hw234_7), (bc HB.out hw234_8)⟩ (fun hHeld => ?_)
         clear hK K
         refine norm_ (a' := ?_) ?_ ?_
         rotate_left
         ·
          show Act.put _ (some 9) _ = _
          simp only [Act.put, List.setIfInBounds_toArray, List.set_cons_zero, List.set_cons_succ, i64_w, i32_w]
          rfl
         refine one_ (i := 8) (N := some 8) #[true, true, true, true, true, true, true, true, true, true, false, false] rfl rfl (one_of HT_.out (by kernel_rfl)) (by decide) (fun K hK => ?_)
         refine box_step ?hg (N := 8) ?hd (cs := #[.int .i64 0, .int .i64 0, .slice none 0 0, .int .i64 0, .int .i64 0, .int .i64 0, .slice none 0 0, .int .i64 0, .slice none 0 0]) (t := 40) ?hr ?_; (case hd => rfl); (case hg => rfl); (case hr => first | (go_simp; done) | (go_simp; rfl))
         intro gb235 hg w19 hbox hb
         have n0_ := Aside0.mk (blk_below (g := gb236) (o := .cells #[.int .i64 0, .int .i64 0, .slice none 0 0, .int .i64 0, .int .i64 0, .int .i64 0, .slice none 0 0, .int .i64 0, .slice none 0 0] 40 (0, 0)) bk hb)
         have n1_ := Aside0.mk (below_step bl hb)
         have n2_ := Aside0.mk (hbox)
         have n3_ := Aside0.mk ((by rw [hg]; exact (below_size bl) : w.heap.size ≤ gb235))
         have n4_ := Aside0.mk ((by rw [hg]; exact (below_size bl) : w.heap.size ≤ gb235))
         have n5_ := Aside0.mk ((by rw [hg]; exact Nat.ne_of_lt blt : gb236 ≠ gb235))
         have n6_ := Aside0.mk ((by rw [hg]; exact Nat.ne_of_gt blt : gb235 ≠ gb236))
         clear BK236
         clear HB
         have BK236 := n0_
         have HB := n1_
         have BK235 := n2_
         have GW235 := n3_
         have GE235 := n4_
         have NB236_235 := n5_
         have NB235_236 := n6_
         clear n0_ n1_ n2_ n3_ n4_ n5_ n6_
         clear hb hbox hg
         refine hK.out _ _ ⟨(bc HB.out hw233_0), (bc HB.out hw233_1), (bc HB.out hw233_2), (bc HB.out hw233_3), (bc HB.out hw233_4), (bc HB.out hw233_5), (bc HB.out hw233_6), (bc HB.out hw233_7), (bc HB.out hw233_8), (bc HB.out hw234_0), (bc HB.out hw234_1), (bc HB.out hw234_2), (bc HB.out hw234_3), (bc HB.out hw234_4), (bc HB.out hw234_5), (bc HB.out hw234_6), (bc HB.out hw234_7), (bc HB.out hw234_8)⟩ (fun hHeld => ?_)
         clear hK K
         refine norm_ (a' := ?_) ?_ ?_
         rotate_left
         ·
          show Act.put _ (some 8) _ = _
          simp only [Act.put, List.setIfInBounds_toArray, List.set_cons_zero, List.set_cons_succ, i64_w, i32_w]
          rfl
         exact norm_ (by simp only [putAll, Act.put, List.setIfInBounds_toArray, List.set_cons_zero, List.set_cons_succ]) (hCont (gb235, gb236) _ ⟨hHeld, bk, bk, GW235.out, GE235.out, NB236_235.out, NB235_236.out, GW236.out, GE236.out, bl⟩)
       rintro ⟨gb235, gb236⟩ w20 ⟨hS_, h0_, h1_, h2_, h3_, h4_, h5_, h6_, h7_, h8_⟩
       have n0_ : Aside0 (w20.heap[gb235]? = some (.cells #[.int .i64 0, .int .i64 0, .slice none 0 0, .int .i64 0, .int .i64 0, .int .i64 0, .slice none 0 0, .int .i64 0, .slice none 0 0] 40 (0, 0))) := ⟨h0_⟩
       have n1_ : Aside0 (w20.heap[gb236]? = some (.cells #[.int .i64 0, .int .i64 0, .slice none 0 0, .int .i64 0, .int .i64 0, .int .i64 0, .slice none 0 0, .int .i64 0, .slice none 0 0] 40 (0, 0))) := ⟨h1_⟩
       have n2_ : Aside0 (w.heap.size ≤ gb235) := ⟨h2_⟩
       have n3_ : Aside0 (w.heap.size ≤ gb235) := ⟨h3_⟩
       have n4_ : Aside0 (gb236 ≠ gb235) := ⟨h4_⟩
       have n5_ : Aside0 (gb235 ≠ gb236) := ⟨h5_⟩
       have n6_ : Aside0 (w.heap.size ≤ gb236) := ⟨h6_⟩
       have n7_ : Aside0 (w.heap.size ≤ gb236) := ⟨h7_⟩
       have n8_ : Aside0 (Below w.heap.size w w20) := ⟨h8_⟩
       clear HB
       clear h0_ h1_ h2_ h3_ h4_ h5_ h6_ h7_ h8_
       have BK235 := n0_
       have BK236 := n1_
       have GW235 := n2_
       have GE235 := n3_
       have NB236_235 := n4_
       have NB235_236 := n5_
       have GW236 := n6_
       have GE236 := n7_
       have HB := n8_
       clear n0_ n1_ n2_ n3_ n4_ n5_ n6_ n7_ n8_
       have hHeld : w20.cell? (ad233.add ((x7_1).toNat * 9)) = some (.int .i64 ((rd_T40 l0 x7_1).f0)) ∧ w20.cell? ⟨(ad233.add ((x7_1).toNat * 9)).block, (ad233.add ((x7_1).toNat * 9)).off + 1, none⟩ = some (.int .i64 ((rd_T40 l0 x7_1).f1)) ∧ w20.cell? ⟨(ad233.add ((x7_1).toNat * 9)).block, (ad233.add ((x7_1).toNat * 9)).off + 2, none⟩ = some (.slice A233_2 ((rd_T40 l0 x7_1).f2.f0).length c233_2) ∧ w20.cell? ⟨(ad233.add ((x7_1).toNat * 9)).block, (ad233.add ((x7_1).toNat * 9)).off + 3, none⟩ = some (.int .i64 ((rd_T40 l0 x7_1).f2.f1.f0)) ∧ w20.cell? ⟨(ad233.add ((x7_1).toNat * 9)).block, (ad233.add ((x7_1).toNat * 9)).off + 4, none⟩ = some (.int .i64 ((rd_T40 l0 x7_1).f2.f1.f1)) ∧ w20.cell? ⟨(ad233.add ((x7_1).toNat * 9)).block, (ad233.add ((x7_1).toNat * 9)).off + 5, none⟩ = some (.int .i64 ((rd_T40 l0 x7_1).f2.f2)) ∧ w20.cell? ⟨(ad233.add ((x7_1).toNat * 9)).block, (ad233.add ((x7_1).toNat * 9)).off + 6, none⟩ = some (.slice A233_6 ((rd_T40 l0 x7_1).f3).length c233_6) ∧ w20.cell? ⟨(ad233.add ((x7_1).toNat * 9)).block, (ad233.add ((x7_1).toNat * 9)).off + 7, none⟩ = some (.int .i64 ((rd_T40 l0 x7_1).f4)) ∧ w20.cell? ⟨(ad233.add ((x7_1).toNat * 9)).block, (ad233.add ((x7_1).toNat * 9)).off + 8, none⟩ = some (.slice A233_8 ((rd_T40 l0 x7_1).f5).length c233_8) ∧ w20.cell? (ad234.add ((x7_1).toNat * 9)) = some (.int .i64 ((rd_T40 l1 x7_1).f0)) ∧ w20.cell? ⟨(ad234.add ((x7_1).toNat * 9)).block, (ad234.add ((x7_1).toNat * 9)).off + 1, none⟩ = some (.int .i64 ((rd_T40 l1 x7_1).f1)) ∧ w20.cell? ⟨(ad234.add ((x7_1).toNat * 9)).block, (ad234.add ((x7_1).toNat * 9)).off + 2, none⟩ = some (.slice A234_2 ((rd_T40 l1 x7_1).f2.f0).length c234_2) ∧ w20.cell? ⟨(ad234.add ((x7_1).toNat * 9)).block, (ad234.add ((x7_1).toNat * 9)).off + 3, none⟩ = some (.int .i64 ((rd_T40 l1 x7_1).f2.f1.f0)) ∧ w20.cell? ⟨(ad234.add ((x7_1).toNat * 9)).block, (ad234.add ((x7_1).toNat * 9)).off + 4, none⟩ = some (.int .i64 ((rd_T40 l1 x7_1).f2.f1.f1)) ∧ w20.cell? ⟨(ad234.add ((x7_1).toNat * 9)).block, (ad234.add ((x7_1).toNat * 9)).off + 5, none⟩ = some (.int .i64 ((rd_T40 l1 x7_1).f2.f2)) ∧ w20.cell? ⟨(ad234.add ((x7_1).toNat * 9)).block, (ad234.add ((x7_1).toNat * 9)).off + 6, none⟩ = some (.slice A234_6 ((rd_T40 l1 x7_1).f3).length c234_6) ∧ w20.cell? ⟨(ad234.add ((x7_1).toNat * 9)).block, (ad234.add ((x7_1).toNat * 9)).off + 7, none⟩ = some (.int .i64 ((rd_T40 l1 x7_1).f4)) ∧ w20.cell? ⟨(ad234.add ((x7_1).toNat * 9)).block, (ad234.add ((x7_1).toNat * 9)).off + 8, none⟩ = some (.slice A234_8 ((rd_T40 l1 x7_1).f5).length c234_8) := hS_
       refine norm_ (a' := ?_) ?_ ?_
       rotate_left
       ·
        simp only [putAll, Act.put, List.setIfInBounds_toArray, List.set_cons_zero, List.set_cons_succ]
        rfl
       refine one_ (i := 10) (N := none) #[true, true, true, true, true, true, true, true, true, true, true, false] rfl rfl (one_of HT_.out (by kernel_rfl)) (by decide) (fun K hK => ?_)
       have hs21 : w20.cell? ⟨gb235, 0, none⟩ = some (.int .i64 0) := (blk_cell BK235.out 0).trans rfl
       have hfs21 := blk_frozen BK235.out 0
       have hns21_1 := NB236_235.out
       have hms21_1 := NB235_236.out
       have hs22 : w20.cell? ⟨gb235, 1, none⟩ = some (.int .i64 0) := (blk_cell BK235.out 1).trans rfl
       have hfs22 := blk_frozen BK235.out 1
       have hns22_1 := NB236_235.out
       have hms22_1 := NB235_236.out
       have hs23 : w20.cell? ⟨gb235, 2, none⟩ = some (.slice none 0 0) := (blk_cell BK235.out 2).trans rfl
       have hfs23 := blk_frozen BK235.out 2
       have hns23_1 := NB236_235.out
       have hms23_1 := NB235_236.out
       have hs24 : w20.cell? ⟨gb235, 3, none⟩ = some (.int .i64 0) := (blk_cell BK235.out 3).trans rfl
       have hfs24 := blk_frozen BK235.out 3
       have hns24_1 := NB236_235.out
       have hms24_1 := NB235_236.out
       have hs25 : w20.cell? ⟨gb235, 4, none⟩ = some (.int .i64 0) := (blk_cell BK235.out 4).trans rfl
       have hfs25 := blk_frozen BK235.out 4
       have hns25_1 := NB236_235.out
       have hms25_1 := NB235_236.out
       have hs26 : w20.cell? ⟨gb235, 5, none⟩ = some (.int .i64 0) := (blk_cell BK235.out 5).trans rfl
       have hfs26 := blk_frozen BK235.out 5
       have hns26_1 := NB236_235.out
       have hms26_1 := NB235_236.out
       have hs27 : w20.cell? ⟨gb235, 6, none⟩ = some (.slice none 0 0) := (blk_cell BK235.out 6).trans rfl
       have hfs27 := blk_frozen BK235.out 6
       have hns27_1 := NB236_235.out
       have hms27_1 := NB235_236.out
       have hs28 : w20.cell? ⟨gb235, 7, none⟩ = some (.int .i64 0) := (blk_cell BK235.out 7).trans rfl
       have hfs28 := blk_frozen BK235.out 7
       have hns28_1 := NB236_235.out
       have hms28_1 := NB235_236.out
       have hs29 : w20.cell? ⟨gb235, 8, none⟩ = some (.slice none 0 0) := (blk_cell BK235.out 8).trans rfl
       have hfs29 := blk_frozen BK235.out 8
       have hns29_1 := NB236_235.out
       have hms29_1 := NB235_236.out
       obtain ⟨w20y, hw_⟩ : ∃ x, x = (((((((((w20.setCell ⟨gb235, 0, none⟩ (.int .i64 ((rd_T40 l0 x7_1).f0))).setCell ⟨gb235, 1, none⟩ (.int .i64 ((rd_T40 l0 x7_1).f1))).setCell ⟨gb235, 2, none⟩ (.slice A233_2 ((rd_T40 l0 x7_1).f2.f0).length c233_2)).setCell ⟨gb235, 3, none⟩ (.int .i64 ((rd_T40 l0 x7_1).f2.f1.f0))).setCell ⟨gb235, 4, none⟩ (.int .i64 ((rd_T40 l0 x7_1).f2.f1.f1))).setCell ⟨gb235, 5, none⟩ (.int .i64 ((rd_T40 l0 x7_1).f2.f2))).setCell ⟨gb235, 6, none⟩ (.slice A233_6 ((rd_T40 l0 x7_1).f3).length c233_6)).setCell ⟨gb235, 7, none⟩ (.int .i64 ((rd_T40 l0 x7_1).f4))).setCell ⟨gb235, 8, none⟩ (.slice A233_8 ((rd_T40 l0 x7_1).f5).length c233_8)) := ⟨_, rfl⟩
       have keep_ : ∀ (a : Addr) (v : Value), a.block ≠ gb235 → w20.cell? a = some v → w20y.cell? a = some v := by
        intro a v ha h
        rw [hw_]
        iterate 9 refine cf ha ?_
        exact h
       have kb_ : ∀ (b : Nat) (cs : Array Value) (t : TypeId), b ≠ gb235 → w20.heap[b]? = some (.cells cs t (0, 0)) → w20y.heap[b]? = some (.cells cs t (0, 0)) := by
        intro b cs t ha h
        rw [hw_]
        iterate 9 refine blk_far ?_ ha _
        exact h
       have kg_ : w20y.heap[gb235]? = some (.cells #[.int .i64 ((rd_T40 l0 x7_1).f0), .int .i64 ((rd_T40 l0 x7_1).f1), .slice A233_2 ((rd_T40 l0 x7_1).f2.f0).length c233_2, .int .i64 ((rd_T40 l0 x7_1).f2.f1.f0), .int .i64 ((rd_T40 l0 x7_1).f2.f1.f1), .int .i64 ((rd_T40 l0 x7_1).f2.f2), .slice A233_6 ((rd_T40 l0 x7_1).f3).length c233_6, .int .i64 ((rd_T40 l0 x7_1).f4), .slice A233_8 ((rd_T40 l0 x7_1).f5).length c233_8] 40 (0, 0)) := by
        rw [hw_]
        refine E_in ?_
        iterate 9 refine E_set ?_
        exact ⟨_, BK235.out, by (try dsimp only); simp only [List.setIfInBounds_toArray, List.set_cons_zero, List.set_cons_succ]⟩
       have kl_ : Below w.heap.size w w20y := by
        rw [hw_]
        iterate 9 refine below_set ?_ GE235.out
        exact HB.out
       refine skip_ (w1 := w20y) (by rfl) rfl ?_ ?_
       ·
        go_simp
        try (first | rfl | exact hw_.symm | (rw [hw_]) | (simp only [hw_]))
       refine hK.out _ _ ⟨(keep_ _ _ (by first | exact ne_rd hw233_0 GW235.out | exact ne_rd' hw233_0 GW235.out) (hHeld.1)), (keep_ _ _ (by first | exact ne_rd hw233_1 GW235.out | exact ne_rd' hw233_1 GW235.out) (hHeld.2.1)), (keep_ _ _ (by first | exact ne_rd hw233_2 GW235.out | exact ne_rd' hw233_2 GW235.out) (hHeld.2.2.1)), (keep_ _ _ (by first | exact ne_rd hw233_3 GW235.out | exact ne_rd' hw233_3 GW235.out) (hHeld.2.2.2.1)), (keep_ _ _ (by first | exact ne_rd hw233_4 GW235.out | exact ne_rd' hw233_4 GW235.out) (hHeld.2.2.2.2.1)), (keep_ _ _ (by first | exact ne_rd hw233_5 GW235.out | exact ne_rd' hw233_5 GW235.out) (hHeld.2.2.2.2.2.1)), (keep_ _ _ (by first | exact ne_rd hw233_6 GW235.out | exact ne_rd' hw233_6 GW235.out) (hHeld.2.2.2.2.2.2.1)), (keep_ _ _ (by first | exact ne_rd hw233_7 GW235.out | exact ne_rd' hw233_7 GW235.out) (hHeld.2.2.2.2.2.2.2.1)), (keep_ _ _ (by first | exact ne_rd hw233_8 GW235.out | exact ne_rd' hw233_8 GW235.out) (hHeld.2.2.2.2.2.2.2.2.1)), (keep_ _ _ (by first | exact ne_rd hw234_0 GW235.out | exact ne_rd' hw234_0 GW235.out) (hHeld.2.2.2.2.2.2.2.2.2.1)), (keep_ _ _ (by first | exact ne_rd hw234_1 GW235.out | exact ne_rd' hw234_1 GW235.out) (hHeld.2.2.2.2.2.2.2.2.2.2.1)), (keep_ _ _ (by first | exact ne_rd hw234_2 GW235.out | exact ne_rd' hw234_2 GW235.out) (hHeld.2.2.2.2.2.2.2.2.2.2.2.1)), (keep_ _ _ (by first | exact ne_rd hw234_3 GW235.out | exact ne_rd' hw234_3 GW235.out) (hHeld.2.2.2.2.2.2.2.2.2.2.2.2.1)), (keep_ _ _ (by first | exact ne_rd hw234_4 GW235.out | exact ne_rd' hw234_4 GW235.out) (hHeld.2.2.2.2.2.2.2.2.2.2.2.2.2.1)), (keep_ _ _ (by first | exact ne_rd hw234_5 GW235.out | exact ne_rd' hw234_5 GW235.out) (hHeld.2.2.2.2.2.2.2.2.2.2.2.2.2.2.1)), (keep_ _ _ (by first | exact ne_rd hw234_6 GW235.out | exact ne_rd' hw234_6 GW235.out) (hHeld.2.2.2.2.2.2.2.2.2.2.2.2.2.2.2.1)), (keep_ _ _ (by first | exact ne_rd hw234_7 GW235.out | exact ne_rd' hw234_7 GW235.out) (hHeld.2.2.2.2.2.2.2.2.2.2.2.2.2.2.2.2.1)), (keep_ _ _ (by first | exact ne_rd hw234_8 GW235.out | exact ne_rd' hw234_8 GW235.out) (hHeld.2.2.2.2.2.2.2.2.2.2.2.2.2.2.2.2.2))⟩ (fun hHeld => ?_)
       clear hK K
       have n0_ := Aside0.mk (kb_ _ _ _ NB236_235.out BK236.out)
       have n1_ := Aside0.mk kg_
       have n2_ := Aside0.mk kl_
       clear keep_ kb_ kg_ kl_ hw_ BK236 BK235 HB
       have BK236 := n0_
       have BK235 := n1_
       have HB := n2_
       clear n0_ n1_ n2_
       refine one_ (i := 11) (N := none) #[true, true, true, true, true, true, true, true, true, true, true, true] rfl rfl (one_of HT_.out (by kernel_rfl)) (by decide) (fun K hK => ?_)
       have hs30 : w20y.cell? ⟨gb236, 0, none⟩ = some (.int .i64 0) := (blk_cell BK236.out 0).trans rfl
       have hfs30 := blk_frozen BK236.out 0
       have hns30_0 := NB235_236.out
       have hms30_0 := NB236_235.out
       have hs31 : w20y.cell? ⟨gb236, 1, none⟩ = some (.int .i64 0) := (blk_cell BK236.out 1).trans rfl
       have hfs31 := blk_frozen BK236.out 1
       have hns31_0 := NB235_236.out
       have hms31_0 := NB236_235.out
       have hs32 : w20y.cell? ⟨gb236, 2, none⟩ = some (.slice none 0 0) := (blk_cell BK236.out 2).trans rfl
       have hfs32 := blk_frozen BK236.out 2
       have hns32_0 := NB235_236.out
       have hms32_0 := NB236_235.out
       have hs33 : w20y.cell? ⟨gb236, 3, none⟩ = some (.int .i64 0) := (blk_cell BK236.out 3).trans rfl
       have hfs33 := blk_frozen BK236.out 3
       have hns33_0 := NB235_236.out
       have hms33_0 := NB236_235.out
       have hs34 : w20y.cell? ⟨gb236, 4, none⟩ = some (.int .i64 0) := (blk_cell BK236.out 4).trans rfl
       have hfs34 := blk_frozen BK236.out 4
       have hns34_0 := NB235_236.out
       have hms34_0 := NB236_235.out
       have hs35 : w20y.cell? ⟨gb236, 5, none⟩ = some (.int .i64 0) := (blk_cell BK236.out 5).trans rfl
       have hfs35 := blk_frozen BK236.out 5
       have hns35_0 := NB235_236.out
       have hms35_0 := NB236_235.out
       have hs36 : w20y.cell? ⟨gb236, 6, none⟩ = some (.slice none 0 0) := (blk_cell BK236.out 6).trans rfl
       have hfs36 := blk_frozen BK236.out 6
       have hns36_0 := NB235_236.out
       have hms36_0 := NB236_235.out
       have hs37 : w20y.cell? ⟨gb236, 7, none⟩ = some (.int .i64 0) := (blk_cell BK236.out 7).trans rfl
       have hfs37 := blk_frozen BK236.out 7
       have hns37_0 := NB235_236.out
       have hms37_0 := NB236_235.out
       have hs38 : w20y.cell? ⟨gb236, 8, none⟩ = some (.slice none 0 0) := (blk_cell BK236.out 8).trans rfl
       have hfs38 := blk_frozen BK236.out 8
       have hns38_0 := NB235_236.out
       have hms38_0 := NB236_235.out
       obtain ⟨w20z, hw_⟩ : ∃ x, x = (((((((((w20y.setCell ⟨gb236, 0, none⟩ (.int .i64 ((rd_T40 l1 x7_1).f0))).setCell ⟨gb236, 1, none⟩ (.int .i64 ((rd_T40 l1 x7_1).f1))).setCell ⟨gb236, 2, none⟩ (.slice A234_2 ((rd_T40 l1 x7_1).f2.f0).length c234_2)).setCell ⟨gb236, 3, none⟩ (.int .i64 ((rd_T40 l1 x7_1).f2.f1.f0))).setCell ⟨gb236, 4, none⟩ (.int .i64 ((rd_T40 l1 x7_1).f2.f1.f1))).setCell ⟨gb236, 5, none⟩ (.int .i64 ((rd_T40 l1 x7_1).f2.f2))).setCell ⟨gb236, 6, none⟩ (.slice A234_6 ((rd_T40 l1 x7_1).f3).length c234_6)).setCell ⟨gb236, 7, none⟩ (.int .i64 ((rd_T40 l1 x7_1).f4))).setCell ⟨gb236, 8, none⟩ (.slice A234_8 ((rd_T40 l1 x7_1).f5).length c234_8)) := ⟨_, rfl⟩
       have keep_ : ∀ (a : Addr) (v : Value), a.block ≠ gb236 → w20y.cell? a = some v → w20z.cell? a = some v := by
        intro a v ha h
        rw [hw_]
        iterate 9 refine cf ha ?_
        exact h
       have kb_ : ∀ (b : Nat) (cs : Array Value) (t : TypeId), b ≠ gb236 → w20y.heap[b]? = some (.cells cs t (0, 0)) → w20z.heap[b]? = some (.cells cs t (0, 0)) := by
        intro b cs t ha h
        rw [hw_]
        iterate 9 refine blk_far ?_ ha _
        exact h
       have kg_ : w20z.heap[gb236]? = some (.cells #[.int .i64 ((rd_T40 l1 x7_1).f0), .int .i64 ((rd_T40 l1 x7_1).f1), .slice A234_2 ((rd_T40 l1 x7_1).f2.f0).length c234_2, .int .i64 ((rd_T40 l1 x7_1).f2.f1.f0), .int .i64 ((rd_T40 l1 x7_1).f2.f1.f1), .int .i64 ((rd_T40 l1 x7_1).f2.f2), .slice A234_6 ((rd_T40 l1 x7_1).f3).length c234_6, .int .i64 ((rd_T40 l1 x7_1).f4), .slice A234_8 ((rd_T40 l1 x7_1).f5).length c234_8] 40 (0, 0)) := by
        rw [hw_]
        refine E_in ?_
        iterate 9 refine E_set ?_
        exact ⟨_, BK236.out, by (try dsimp only); simp only [List.setIfInBounds_toArray, List.set_cons_zero, List.set_cons_succ]⟩
       have kl_ : Below w.heap.size w w20z := by
        rw [hw_]
        iterate 9 refine below_set ?_ GE236.out
        exact HB.out
       refine skip_ (w1 := w20z) (by rfl) rfl ?_ ?_
       ·
        go_simp
        try (first | rfl | exact hw_.symm | (rw [hw_]) | (simp only [hw_]))
       refine hK.out _ _ ⟨(keep_ _ _ (by first | exact ne_rd hw233_0 GW236.out | exact ne_rd' hw233_0 GW236.out) (hHeld.1)), (keep_ _ _ (by first | exact ne_rd hw233_1 GW236.out | exact ne_rd' hw233_1 GW236.out) (hHeld.2.1)), (keep_ _ _ (by first | exact ne_rd hw233_2 GW236.out | exact ne_rd' hw233_2 GW236.out) (hHeld.2.2.1)), (keep_ _ _ (by first | exact ne_rd hw233_3 GW236.out | exact ne_rd' hw233_3 GW236.out) (hHeld.2.2.2.1)), (keep_ _ _ (by first | exact ne_rd hw233_4 GW236.out | exact ne_rd' hw233_4 GW236.out) (hHeld.2.2.2.2.1)), (keep_ _ _ (by first | exact ne_rd hw233_5 GW236.out | exact ne_rd' hw233_5 GW236.out) (hHeld.2.2.2.2.2.1)), (keep_ _ _ (by first | exact ne_rd hw233_6 GW236.out | exact ne_rd' hw233_6 GW236.out) (hHeld.2.2.2.2.2.2.1)), (keep_ _ _ (by first | exact ne_rd hw233_7 GW236.out | exact ne_rd' hw233_7 GW236.out) (hHeld.2.2.2.2.2.2.2.1)), (keep_ _ _ (by first | exact ne_rd hw233_8 GW236.out | exact ne_rd' hw233_8 GW236.out) (hHeld.2.2.2.2.2.2.2.2.1)), (keep_ _ _ (by first | exact ne_rd hw234_0 GW236.out | exact ne_rd' hw234_0 GW236.out) (hHeld.2.2.2.2.2.2.2.2.2.1)), (keep_ _ _ (by first | exact ne_rd hw234_1 GW236.out | exact ne_rd' hw234_1 GW236.out) (hHeld.2.2.2.2.2.2.2.2.2.2.1)), (keep_ _ _ (by first | exact ne_rd hw234_2 GW236.out | exact ne_rd' hw234_2 GW236.out) (hHeld.2.2.2.2.2.2.2.2.2.2.2.1)), (keep_ _ _ (by first | exact ne_rd hw234_3 GW236.out | exact ne_rd' hw234_3 GW236.out) (hHeld.2.2.2.2.2.2.2.2.2.2.2.2.1)), (keep_ _ _ (by first | exact ne_rd hw234_4 GW236.out | exact ne_rd' hw234_4 GW236.out) (hHeld.2.2.2.2.2.2.2.2.2.2.2.2.2.1)), (keep_ _ _ (by first | exact ne_rd hw234_5 GW236.out | exact ne_rd' hw234_5 GW236.out) (hHeld.2.2.2.2.2.2.2.2.2.2.2.2.2.2.1)), (keep_ _ _ (by first | exact ne_rd hw234_6 GW236.out | exact ne_rd' hw234_6 GW236.out) (hHeld.2.2.2.2.2.2.2.2.2.2.2.2.2.2.2.1)), (keep_ _ _ (by first | exact ne_rd hw234_7 GW236.out | exact ne_rd' hw234_7 GW236.out) (hHeld.2.2.2.2.2.2.2.2.2.2.2.2.2.2.2.2.1)), (keep_ _ _ (by first | exact ne_rd hw234_8 GW236.out | exact ne_rd' hw234_8 GW236.out) (hHeld.2.2.2.2.2.2.2.2.2.2.2.2.2.2.2.2.2))⟩ (fun hHeld => ?_)
       clear hK K
       have n0_ := Aside0.mk (kb_ _ _ _ NB235_236.out BK235.out)
       have n1_ := Aside0.mk kg_
       have n2_ := Aside0.mk kl_
       clear keep_ kb_ kg_ kl_ hw_ BK235 BK236 HB
       have BK235 := n0_
       have BK236 := n1_
       have HB := n2_
       clear n0_ n1_ n2_
       refine done_ (done_of HT_.out (by kernel_rfl)) ?_
       try go_wp2
       generalize w20z = w39 at BK235 BK236 HB ⊢
       have n0_ := Aside0.mk (blk_drew BK235.out)
       have n1_ := Aside0.mk (blk_drew BK236.out)
       have n2_ := Aside0.mk (below_drew1 HB.out)
       clear BK235
       clear BK236
       clear HB
       have BK235 := n0_
       have BK236 := n1_
       have HB := n2_
       clear n0_ n1_ n2_
       refine start_ (n := 6) (S := fun w' => w'.cell? ⟨gb235, 0, none⟩ = some (.int .i64 ((rd_T40 l0 x7_1).f0)) ∧ w'.cell? ⟨gb235, 1, none⟩ = some (.int .i64 ((rd_T40 l0 x7_1).f1)) ∧ w'.cell? ⟨gb235, 2, none⟩ = some (.slice A233_2 ((rd_T40 l0 x7_1).f2.f0).length c233_2) ∧ w'.cell? ⟨gb235, 3, none⟩ = some (.int .i64 ((rd_T40 l0 x7_1).f2.f1.f0)) ∧ w'.cell? ⟨gb235, 4, none⟩ = some (.int .i64 ((rd_T40 l0 x7_1).f2.f1.f1)) ∧ w'.cell? ⟨gb235, 5, none⟩ = some (.int .i64 ((rd_T40 l0 x7_1).f2.f2)) ∧ w'.cell? ⟨gb235, 6, none⟩ = some (.slice A233_6 ((rd_T40 l0 x7_1).f3).length c233_6) ∧ w'.cell? ⟨gb235, 7, none⟩ = some (.int .i64 ((rd_T40 l0 x7_1).f4)) ∧ w'.cell? ⟨gb235, 8, none⟩ = some (.slice A233_8 ((rd_T40 l0 x7_1).f5).length c233_8) ∧ w'.cell? ⟨gb236, 0, none⟩ = some (.int .i64 ((rd_T40 l1 x7_1).f0)) ∧ w'.cell? ⟨gb236, 1, none⟩ = some (.int .i64 ((rd_T40 l1 x7_1).f1)) ∧ w'.cell? ⟨gb236, 2, none⟩ = some (.slice A234_2 ((rd_T40 l1 x7_1).f2.f0).length c234_2) ∧ w'.cell? ⟨gb236, 3, none⟩ = some (.int .i64 ((rd_T40 l1 x7_1).f2.f1.f0)) ∧ w'.cell? ⟨gb236, 4, none⟩ = some (.int .i64 ((rd_T40 l1 x7_1).f2.f1.f1)) ∧ w'.cell? ⟨gb236, 5, none⟩ = some (.int .i64 ((rd_T40 l1 x7_1).f2.f2)) ∧ w'.cell? ⟨gb236, 6, none⟩ = some (.slice A234_6 ((rd_T40 l1 x7_1).f3).length c234_6) ∧ w'.cell? ⟨gb236, 7, none⟩ = some (.int .i64 ((rd_T40 l1 x7_1).f4)) ∧ w'.cell? ⟨gb236, 8, none⟩ = some (.slice A234_8 ((rd_T40 l1 x7_1).f5).length c234_8)) (ds := [4, 5]) #[false, false, false, false, false, false] (by kernel_rfl) rfl rfl ⟨(blk_cell BK235.out 0).trans rfl, (blk_cell BK235.out 1).trans rfl, (blk_cell BK235.out 2).trans rfl, (blk_cell BK235.out 3).trans rfl, (blk_cell BK235.out 4).trans rfl, (blk_cell BK235.out 5).trans rfl, (blk_cell BK235.out 6).trans rfl, (blk_cell BK235.out 7).trans rfl, (blk_cell BK235.out 8).trans rfl, (blk_cell BK236.out 0).trans rfl, (blk_cell BK236.out 1).trans rfl, (blk_cell BK236.out 2).trans rfl, (blk_cell BK236.out 3).trans rfl, (blk_cell BK236.out 4).trans rfl, (blk_cell BK236.out 5).trans rfl, (blk_cell BK236.out 6).trans rfl, (blk_cell BK236.out 7).trans rfl, (blk_cell BK236.out 8).trans rfl⟩ (fun hHeld => ?_)
       generalize w39.drew = w40 at BK235 BK236 HB hHeld ⊢
       refine take_ (i := 0) (N := some 30) (v := ?_) (a' := ?_) #[true, false, false, false, false, false] rfl rfl (by kernel_rfl) (fun _ _ _ h => h) (Or.inl ⟨by rfl, ?_⟩) hHeld ?_ ?_
       rotate_left
       ·
        rintro w' ⟨s0, s1, s2, s3, s4, s5, s6, s7, s8, s9, s10, s11, s12, s13, s14, s15, s16, s17⟩
        go_simp
        with_reducible rfl
       rotate_left
       ·
        simp only [Act.put, List.setIfInBounds_toArray, List.set_cons_zero, List.set_cons_succ, i64_w, i32_w]
        rfl
       refine take_ (i := 2) (N := some 32) (v := ?_) (a' := ?_) #[true, false, true, false, false, false] rfl rfl (by kernel_rfl) (fun _ _ _ h => h) (Or.inl ⟨by rfl, ?_⟩) hHeld ?_ ?_
       rotate_left
       ·
        rintro w' ⟨s0, s1, s2, s3, s4, s5, s6, s7, s8, s9, s10, s11, s12, s13, s14, s15, s16, s17⟩
        go_simp
        with_reducible rfl
       rotate_left
       ·
        simp only [Act.put, List.setIfInBounds_toArray, List.set_cons_zero, List.set_cons_succ, i64_w, i32_w]
        rfl
       refine one_ (i := 1) (N := some 31) #[true, true, true, false, false, false] rfl rfl (by kernel_rfl) (by decide) (fun K hK => ?_)
       refine goes_ Try.func23 (by kernel_rfl) rfl #[.agg #[.int .i64 ((rd_T40 l0 x7_1).f0), .int .i64 ((rd_T40 l0 x7_1).f1), .slice A233_2 ((rd_T40 l0 x7_1).f2.f0).length c233_2, .int .i64 ((rd_T40 l0 x7_1).f2.f1.f0), .int .i64 ((rd_T40 l0 x7_1).f2.f1.f1), .int .i64 ((rd_T40 l0 x7_1).f2.f2), .slice A233_6 ((rd_T40 l0 x7_1).f3).length c233_6, .int .i64 ((rd_T40 l0 x7_1).f4), .slice A233_8 ((rd_T40 l0 x7_1).f5).length c233_8]] (by rfl) rfl rfl mpq ?_
       with_reducible refine (runnelref26_Plain.calls k1 ((rd_T40 l0 x7_1).f0) ((rd_T40 l0 x7_1).f1) (fun k_ => k_ < w.heap.size) _ _ ((rd_T40 l0 x7_1).f2.f0) ((rd_T40 l0 x7_1).f2.f1.f0) ((rd_T40 l0 x7_1).f2.f1.f1) ((rd_T40 l0 x7_1).f2.f2) (fun k_ => k_ < w.heap.size) _ _ ((rd_T40 l0 x7_1).f3) ((rd_T40 l0 x7_1).f4) (fun k_ => k_ < w.heap.size) _ _ ((rd_T40 l0 x7_1).f5) t237 t238 t239 t242 t243 t244 t245 t248 t249 _ ?side1 ?side2 ?side3 A8.out).mono ?_
       (case side1 => exact Kd.V_mk HC233_2.out (Kd.F_below (Kd.C_F k103_heap HR233_2.out) bl))
       (case side2 => exact Kd.V_mk HC233_6.out (Kd.F_below (Kd.C_F k36_heap HR233_6.out) bl))
       (case side3 => exact Kd.V_mk HC233_8.out (Kd.F_below (Kd.C_F (Kd.heap_int .u8) HR233_8.out) bl))
       rintro e w41 ⟨v240, v246, v250, rfl, ho0, ho1, ho2, hb⟩
       refine ⟨_, rfl, ?_⟩
       have n0_ := Aside0.mk (Kd.V_lower (Kd.V_mono (ok' := fun k_ => k_ ≠ gb235 ∧ k_ ≠ gb236) ho0 (fun k_ hk_ => ⟨Or.elim hk_ (fun hs_ => Or.elim hs_ (fun hs_ => fun e_ => Nat.not_le.2 hs_ (by rw [e_]; exact GW235.out)) (fun hs_ => Or.elim hs_ (fun hs_ => fun e_ => Nat.not_le.2 hs_ (by rw [e_]; exact GW235.out)) (fun hs_ => fun e_ => Nat.not_le.2 hs_ (by rw [e_]; exact GW235.out)))) (fun hn_ => (Kd.freshB (g := gb235) (o := .cells #[.int .i64 ((rd_T40 l0 x7_1).f0), .int .i64 ((rd_T40 l0 x7_1).f1), .slice A233_2 ((rd_T40 l0 x7_1).f2.f0).length c233_2, .int .i64 ((rd_T40 l0 x7_1).f2.f1.f0), .int .i64 ((rd_T40 l0 x7_1).f2.f1.f1), .int .i64 ((rd_T40 l0 x7_1).f2.f2), .slice A233_6 ((rd_T40 l0 x7_1).f3).length c233_6, .int .i64 ((rd_T40 l0 x7_1).f4), .slice A233_8 ((rd_T40 l0 x7_1).f5).length c233_8] 40 (0, 0)) bk k_ hn_)), Or.elim hk_ (fun hs_ => Or.elim hs_ (fun hs_ => fun e_ => Nat.not_le.2 hs_ (by rw [e_]; exact GW236.out)) (fun hs_ => Or.elim hs_ (fun hs_ => fun e_ => Nat.not_le.2 hs_ (by rw [e_]; exact GW236.out)) (fun hs_ => fun e_ => Nat.not_le.2 hs_ (by rw [e_]; exact GW236.out)))) (fun hn_ => (Kd.freshB (g := gb236) (o := .cells #[.int .i64 ((rd_T40 l1 x7_1).f0), .int .i64 ((rd_T40 l1 x7_1).f1), .slice A234_2 ((rd_T40 l1 x7_1).f2.f0).length c234_2, .int .i64 ((rd_T40 l1 x7_1).f2.f1.f0), .int .i64 ((rd_T40 l1 x7_1).f2.f1.f1), .int .i64 ((rd_T40 l1 x7_1).f2.f2), .slice A234_6 ((rd_T40 l1 x7_1).f3).length c234_6, .int .i64 ((rd_T40 l1 x7_1).f4), .slice A234_8 ((rd_T40 l1 x7_1).f5).length c234_8] 40 (0, 0)) bk k_ hn_))⟩)) (below_size bl))
       have n1_ := Aside0.mk (Kd.V_lower (Kd.V_mono (ok' := fun k_ => k_ ≠ gb235 ∧ k_ ≠ gb236) ho1 (fun k_ hk_ => ⟨Or.elim hk_ (fun hs_ => Or.elim hs_ (fun hs_ => fun e_ => Nat.not_le.2 hs_ (by rw [e_]; exact GW235.out)) (fun hs_ => Or.elim hs_ (fun hs_ => fun e_ => Nat.not_le.2 hs_ (by rw [e_]; exact GW235.out)) (fun hs_ => fun e_ => Nat.not_le.2 hs_ (by rw [e_]; exact GW235.out)))) (fun hn_ => (Kd.freshB (g := gb235) (o := .cells #[.int .i64 ((rd_T40 l0 x7_1).f0), .int .i64 ((rd_T40 l0 x7_1).f1), .slice A233_2 ((rd_T40 l0 x7_1).f2.f0).length c233_2, .int .i64 ((rd_T40 l0 x7_1).f2.f1.f0), .int .i64 ((rd_T40 l0 x7_1).f2.f1.f1), .int .i64 ((rd_T40 l0 x7_1).f2.f2), .slice A233_6 ((rd_T40 l0 x7_1).f3).length c233_6, .int .i64 ((rd_T40 l0 x7_1).f4), .slice A233_8 ((rd_T40 l0 x7_1).f5).length c233_8] 40 (0, 0)) bk k_ hn_)), Or.elim hk_ (fun hs_ => Or.elim hs_ (fun hs_ => fun e_ => Nat.not_le.2 hs_ (by rw [e_]; exact GW236.out)) (fun hs_ => Or.elim hs_ (fun hs_ => fun e_ => Nat.not_le.2 hs_ (by rw [e_]; exact GW236.out)) (fun hs_ => fun e_ => Nat.not_le.2 hs_ (by rw [e_]; exact GW236.out)))) (fun hn_ => (Kd.freshB (g := gb236) (o := .cells #[.int .i64 ((rd_T40 l1 x7_1).f0), .int .i64 ((rd_T40 l1 x7_1).f1), .slice A234_2 ((rd_T40 l1 x7_1).f2.f0).length c234_2, .int .i64 ((rd_T40 l1 x7_1).f2.f1.f0), .int .i64 ((rd_T40 l1 x7_1).f2.f1.f1), .int .i64 ((rd_T40 l1 x7_1).f2.f2), .slice A234_6 ((rd_T40 l1 x7_1).f3).length c234_6, .int .i64 ((rd_T40 l1 x7_1).f4), .slice A234_8 ((rd_T40 l1 x7_1).f5).length c234_8] 40 (0, 0)) bk k_ hn_))⟩)) (below_size bl))
       have n2_ := Aside0.mk (Kd.V_lower (Kd.V_mono (ok' := fun k_ => k_ ≠ gb235 ∧ k_ ≠ gb236) ho2 (fun k_ hk_ => ⟨Or.elim hk_ (fun hs_ => Or.elim hs_ (fun hs_ => fun e_ => Nat.not_le.2 hs_ (by rw [e_]; exact GW235.out)) (fun hs_ => Or.elim hs_ (fun hs_ => fun e_ => Nat.not_le.2 hs_ (by rw [e_]; exact GW235.out)) (fun hs_ => fun e_ => Nat.not_le.2 hs_ (by rw [e_]; exact GW235.out)))) (fun hn_ => (Kd.freshB (g := gb235) (o := .cells #[.int .i64 ((rd_T40 l0 x7_1).f0), .int .i64 ((rd_T40 l0 x7_1).f1), .slice A233_2 ((rd_T40 l0 x7_1).f2.f0).length c233_2, .int .i64 ((rd_T40 l0 x7_1).f2.f1.f0), .int .i64 ((rd_T40 l0 x7_1).f2.f1.f1), .int .i64 ((rd_T40 l0 x7_1).f2.f2), .slice A233_6 ((rd_T40 l0 x7_1).f3).length c233_6, .int .i64 ((rd_T40 l0 x7_1).f4), .slice A233_8 ((rd_T40 l0 x7_1).f5).length c233_8] 40 (0, 0)) bk k_ hn_)), Or.elim hk_ (fun hs_ => Or.elim hs_ (fun hs_ => fun e_ => Nat.not_le.2 hs_ (by rw [e_]; exact GW236.out)) (fun hs_ => Or.elim hs_ (fun hs_ => fun e_ => Nat.not_le.2 hs_ (by rw [e_]; exact GW236.out)) (fun hs_ => fun e_ => Nat.not_le.2 hs_ (by rw [e_]; exact GW236.out)))) (fun hn_ => (Kd.freshB (g := gb236) (o := .cells #[.int .i64 ((rd_T40 l1 x7_1).f0), .int .i64 ((rd_T40 l1 x7_1).f1), .slice A234_2 ((rd_T40 l1 x7_1).f2.f0).length c234_2, .int .i64 ((rd_T40 l1 x7_1).f2.f1.f0), .int .i64 ((rd_T40 l1 x7_1).f2.f1.f1), .int .i64 ((rd_T40 l1 x7_1).f2.f2), .slice A234_6 ((rd_T40 l1 x7_1).f3).length c234_6, .int .i64 ((rd_T40 l1 x7_1).f4), .slice A234_8 ((rd_T40 l1 x7_1).f5).length c234_8] 40 (0, 0)) bk k_ hn_))⟩)) (below_size bl))
       have n3_ := Aside0.mk (blk_below (g := gb235) (o := .cells #[.int .i64 ((rd_T40 l0 x7_1).f0), .int .i64 ((rd_T40 l0 x7_1).f1), .slice A233_2 ((rd_T40 l0 x7_1).f2.f0).length c233_2, .int .i64 ((rd_T40 l0 x7_1).f2.f1.f0), .int .i64 ((rd_T40 l0 x7_1).f2.f1.f1), .int .i64 ((rd_T40 l0 x7_1).f2.f2), .slice A233_6 ((rd_T40 l0 x7_1).f3).length c233_6, .int .i64 ((rd_T40 l0 x7_1).f4), .slice A233_8 ((rd_T40 l0 x7_1).f5).length c233_8] 40 (0, 0)) bk hb)
       have n4_ := Aside0.mk (blk_below (g := gb236) (o := .cells #[.int .i64 ((rd_T40 l1 x7_1).f0), .int .i64 ((rd_T40 l1 x7_1).f1), .slice A234_2 ((rd_T40 l1 x7_1).f2.f0).length c234_2, .int .i64 ((rd_T40 l1 x7_1).f2.f1.f0), .int .i64 ((rd_T40 l1 x7_1).f2.f1.f1), .int .i64 ((rd_T40 l1 x7_1).f2.f2), .slice A234_6 ((rd_T40 l1 x7_1).f3).length c234_6, .int .i64 ((rd_T40 l1 x7_1).f4), .slice A234_8 ((rd_T40 l1 x7_1).f5).length c234_8] 40 (0, 0)) bk hb)
       have n5_ := Aside0.mk (below_step bl hb)
       clear BK235
       clear BK236
       clear HB
       have HO241 := n0_
       have HO247 := n1_
       have HO251 := n2_
       have BK235 := n3_
       have BK236 := n4_
       have HB := n5_
       clear n0_ n1_ n2_ n3_ n4_ n5_
       (try clear hb)
       (try clear hb2)
       (try clear hk)
       (try clear hi)
       (try clear ho0)
       (try clear ho1)
       (try clear ho2)
       refine hK.out _ _ ⟨(blk_cell BK235.out 0).trans rfl, (blk_cell BK235.out 1).trans rfl, (blk_cell BK235.out 2).trans rfl, (blk_cell BK235.out 3).trans rfl, (blk_cell BK235.out 4).trans rfl, (blk_cell BK235.out 5).trans rfl, (blk_cell BK235.out 6).trans rfl, (blk_cell BK235.out 7).trans rfl, (blk_cell BK235.out 8).trans rfl, (blk_cell BK236.out 0).trans rfl, (blk_cell BK236.out 1).trans rfl, (blk_cell BK236.out 2).trans rfl, (blk_cell BK236.out 3).trans rfl, (blk_cell BK236.out 4).trans rfl, (blk_cell BK236.out 5).trans rfl, (blk_cell BK236.out 6).trans rfl, (blk_cell BK236.out 7).trans rfl, (blk_cell BK236.out 8).trans rfl⟩ (fun hHeld => ?_)
       clear hK K
       refine norm_ (a' := ?_) ?_ ?_
       rotate_left
       ·
        show Act.put _ (some 31) _ = _
        simp only [Act.put, List.setIfInBounds_toArray, List.set_cons_zero, List.set_cons_succ, i64_w, i32_w]
        rfl
       refine one_ (i := 3) (N := some 33) #[true, true, true, true, false, false] rfl rfl (by kernel_rfl) (by decide) (fun K hK => ?_)
       refine goes_ Try.func23 (by kernel_rfl) rfl #[.agg #[.int .i64 ((rd_T40 l1 x7_1).f0), .int .i64 ((rd_T40 l1 x7_1).f1), .slice A234_2 ((rd_T40 l1 x7_1).f2.f0).length c234_2, .int .i64 ((rd_T40 l1 x7_1).f2.f1.f0), .int .i64 ((rd_T40 l1 x7_1).f2.f1.f1), .int .i64 ((rd_T40 l1 x7_1).f2.f2), .slice A234_6 ((rd_T40 l1 x7_1).f3).length c234_6, .int .i64 ((rd_T40 l1 x7_1).f4), .slice A234_8 ((rd_T40 l1 x7_1).f5).length c234_8]] (by rfl) rfl rfl mpq ?_
       with_reducible refine (runnelref26_Plain.calls k1 ((rd_T40 l1 x7_1).f0) ((rd_T40 l1 x7_1).f1) (fun k_ => k_ < w.heap.size) _ _ ((rd_T40 l1 x7_1).f2.f0) ((rd_T40 l1 x7_1).f2.f1.f0) ((rd_T40 l1 x7_1).f2.f1.f1) ((rd_T40 l1 x7_1).f2.f2) (fun k_ => k_ < w.heap.size) _ _ ((rd_T40 l1 x7_1).f3) ((rd_T40 l1 x7_1).f4) (fun k_ => k_ < w.heap.size) _ _ ((rd_T40 l1 x7_1).f5) t252 t253 t254 t257 t258 t259 t260 t263 t264 _ ?side1 ?side2 ?side3 A9.out).mono ?_
       (case side1 => exact Kd.V_mk HC234_2.out (Kd.F_below (Kd.C_F k103_heap HR234_2.out) bl))
       (case side2 => exact Kd.V_mk HC234_6.out (Kd.F_below (Kd.C_F k36_heap HR234_6.out) bl))
       (case side3 => exact Kd.V_mk HC234_8.out (Kd.F_below (Kd.C_F (Kd.heap_int .u8) HR234_8.out) bl))
       rintro e w42 ⟨v255, v261, v265, rfl, ho0, ho1, ho2, hb⟩
       refine ⟨_, rfl, ?_⟩
       have n0_ := Aside0.mk (Kd.V_below (by (with_reducible repeat (first | apply Kd.V_alloc | apply Kd.V_drewN | apply Kd.V_drew)); exact HO241.out) hb)
       have n1_ := Aside0.mk (Kd.V_below (by (with_reducible repeat (first | apply Kd.V_alloc | apply Kd.V_drewN | apply Kd.V_drew)); exact HO247.out) hb)
       have n2_ := Aside0.mk (Kd.V_below (by (with_reducible repeat (first | apply Kd.V_alloc | apply Kd.V_drewN | apply Kd.V_drew)); exact HO251.out) hb)
       have n3_ := Aside0.mk (Kd.V_lower (Kd.V_mono (ok' := fun k_ => k_ ≠ gb235 ∧ k_ ≠ gb236) ho0 (fun k_ hk_ => ⟨Or.elim hk_ (fun hs_ => Or.elim hs_ (fun hs_ => fun e_ => Nat.not_le.2 hs_ (by rw [e_]; exact GW235.out)) (fun hs_ => Or.elim hs_ (fun hs_ => fun e_ => Nat.not_le.2 hs_ (by rw [e_]; exact GW235.out)) (fun hs_ => fun e_ => Nat.not_le.2 hs_ (by rw [e_]; exact GW235.out)))) (fun hn_ => (Kd.freshB (g := gb235) (o := .cells #[.int .i64 ((rd_T40 l0 x7_1).f0), .int .i64 ((rd_T40 l0 x7_1).f1), .slice A233_2 ((rd_T40 l0 x7_1).f2.f0).length c233_2, .int .i64 ((rd_T40 l0 x7_1).f2.f1.f0), .int .i64 ((rd_T40 l0 x7_1).f2.f1.f1), .int .i64 ((rd_T40 l0 x7_1).f2.f2), .slice A233_6 ((rd_T40 l0 x7_1).f3).length c233_6, .int .i64 ((rd_T40 l0 x7_1).f4), .slice A233_8 ((rd_T40 l0 x7_1).f5).length c233_8] 40 (0, 0)) bk k_ hn_)), Or.elim hk_ (fun hs_ => Or.elim hs_ (fun hs_ => fun e_ => Nat.not_le.2 hs_ (by rw [e_]; exact GW236.out)) (fun hs_ => Or.elim hs_ (fun hs_ => fun e_ => Nat.not_le.2 hs_ (by rw [e_]; exact GW236.out)) (fun hs_ => fun e_ => Nat.not_le.2 hs_ (by rw [e_]; exact GW236.out)))) (fun hn_ => (Kd.freshB (g := gb236) (o := .cells #[.int .i64 ((rd_T40 l1 x7_1).f0), .int .i64 ((rd_T40 l1 x7_1).f1), .slice A234_2 ((rd_T40 l1 x7_1).f2.f0).length c234_2, .int .i64 ((rd_T40 l1 x7_1).f2.f1.f0), .int .i64 ((rd_T40 l1 x7_1).f2.f1.f1), .int .i64 ((rd_T40 l1 x7_1).f2.f2), .slice A234_6 ((rd_T40 l1 x7_1).f3).length c234_6, .int .i64 ((rd_T40 l1 x7_1).f4), .slice A234_8 ((rd_T40 l1 x7_1).f5).length c234_8] 40 (0, 0)) bk k_ hn_))⟩)) (below_size bl))
       have n4_ := Aside0.mk (Kd.V_lower (Kd.V_mono (ok' := fun k_ => k_ ≠ gb235 ∧ k_ ≠ gb236) ho1 (fun k_ hk_ => ⟨Or.elim hk_ (fun hs_ => Or.elim hs_ (fun hs_ => fun e_ => Nat.not_le.2 hs_ (by rw [e_]; exact GW235.out)) (fun hs_ => Or.elim hs_ (fun hs_ => fun e_ => Nat.not_le.2 hs_ (by rw [e_]; exact GW235.out)) (fun hs_ => fun e_ => Nat.not_le.2 hs_ (by rw [e_]; exact GW235.out)))) (fun hn_ => (Kd.freshB (g := gb235) (o := .cells #[.int .i64 ((rd_T40 l0 x7_1).f0), .int .i64 ((rd_T40 l0 x7_1).f1), .slice A233_2 ((rd_T40 l0 x7_1).f2.f0).length c233_2, .int .i64 ((rd_T40 l0 x7_1).f2.f1.f0), .int .i64 ((rd_T40 l0 x7_1).f2.f1.f1), .int .i64 ((rd_T40 l0 x7_1).f2.f2), .slice A233_6 ((rd_T40 l0 x7_1).f3).length c233_6, .int .i64 ((rd_T40 l0 x7_1).f4), .slice A233_8 ((rd_T40 l0 x7_1).f5).length c233_8] 40 (0, 0)) bk k_ hn_)), Or.elim hk_ (fun hs_ => Or.elim hs_ (fun hs_ => fun e_ => Nat.not_le.2 hs_ (by rw [e_]; exact GW236.out)) (fun hs_ => Or.elim hs_ (fun hs_ => fun e_ => Nat.not_le.2 hs_ (by rw [e_]; exact GW236.out)) (fun hs_ => fun e_ => Nat.not_le.2 hs_ (by rw [e_]; exact GW236.out)))) (fun hn_ => (Kd.freshB (g := gb236) (o := .cells #[.int .i64 ((rd_T40 l1 x7_1).f0), .int .i64 ((rd_T40 l1 x7_1).f1), .slice A234_2 ((rd_T40 l1 x7_1).f2.f0).length c234_2, .int .i64 ((rd_T40 l1 x7_1).f2.f1.f0), .int .i64 ((rd_T40 l1 x7_1).f2.f1.f1), .int .i64 ((rd_T40 l1 x7_1).f2.f2), .slice A234_6 ((rd_T40 l1 x7_1).f3).length c234_6, .int .i64 ((rd_T40 l1 x7_1).f4), .slice A234_8 ((rd_T40 l1 x7_1).f5).length c234_8] 40 (0, 0)) bk k_ hn_))⟩)) (below_size bl))
       have n5_ := Aside0.mk (Kd.V_lower (Kd.V_mono (ok' := fun k_ => k_ ≠ gb235 ∧ k_ ≠ gb236) ho2 (fun k_ hk_ => ⟨Or.elim hk_ (fun hs_ => Or.elim hs_ (fun hs_ => fun e_ => Nat.not_le.2 hs_ (by rw [e_]; exact GW235.out)) (fun hs_ => Or.elim hs_ (fun hs_ => fun e_ => Nat.not_le.2 hs_ (by rw [e_]; exact GW235.out)) (fun hs_ => fun e_ => Nat.not_le.2 hs_ (by rw [e_]; exact GW235.out)))) (fun hn_ => (Kd.freshB (g := gb235) (o := .cells #[.int .i64 ((rd_T40 l0 x7_1).f0), .int .i64 ((rd_T40 l0 x7_1).f1), .slice A233_2 ((rd_T40 l0 x7_1).f2.f0).length c233_2, .int .i64 ((rd_T40 l0 x7_1).f2.f1.f0), .int .i64 ((rd_T40 l0 x7_1).f2.f1.f1), .int .i64 ((rd_T40 l0 x7_1).f2.f2), .slice A233_6 ((rd_T40 l0 x7_1).f3).length c233_6, .int .i64 ((rd_T40 l0 x7_1).f4), .slice A233_8 ((rd_T40 l0 x7_1).f5).length c233_8] 40 (0, 0)) bk k_ hn_)), Or.elim hk_ (fun hs_ => Or.elim hs_ (fun hs_ => fun e_ => Nat.not_le.2 hs_ (by rw [e_]; exact GW236.out)) (fun hs_ => Or.elim hs_ (fun hs_ => fun e_ => Nat.not_le.2 hs_ (by rw [e_]; exact GW236.out)) (fun hs_ => fun e_ => Nat.not_le.2 hs_ (by rw [e_]; exact GW236.out)))) (fun hn_ => (Kd.freshB (g := gb236) (o := .cells #[.int .i64 ((rd_T40 l1 x7_1).f0), .int .i64 ((rd_T40 l1 x7_1).f1), .slice A234_2 ((rd_T40 l1 x7_1).f2.f0).length c234_2, .int .i64 ((rd_T40 l1 x7_1).f2.f1.f0), .int .i64 ((rd_T40 l1 x7_1).f2.f1.f1), .int .i64 ((rd_T40 l1 x7_1).f2.f2), .slice A234_6 ((rd_T40 l1 x7_1).f3).length c234_6, .int .i64 ((rd_T40 l1 x7_1).f4), .slice A234_8 ((rd_T40 l1 x7_1).f5).length c234_8] 40 (0, 0)) bk k_ hn_))⟩)) (below_size bl))
       have n6_ := Aside0.mk (blk_below (g := gb235) (o := .cells #[.int .i64 ((rd_T40 l0 x7_1).f0), .int .i64 ((rd_T40 l0 x7_1).f1), .slice A233_2 ((rd_T40 l0 x7_1).f2.f0).length c233_2, .int .i64 ((rd_T40 l0 x7_1).f2.f1.f0), .int .i64 ((rd_T40 l0 x7_1).f2.f1.f1), .int .i64 ((rd_T40 l0 x7_1).f2.f2), .slice A233_6 ((rd_T40 l0 x7_1).f3).length c233_6, .int .i64 ((rd_T40 l0 x7_1).f4), .slice A233_8 ((rd_T40 l0 x7_1).f5).length c233_8] 40 (0, 0)) bk hb)
       have n7_ := Aside0.mk (blk_below (g := gb236) (o := .cells #[.int .i64 ((rd_T40 l1 x7_1).f0), .int .i64 ((rd_T40 l1 x7_1).f1), .slice A234_2 ((rd_T40 l1 x7_1).f2.f0).length c234_2, .int .i64 ((rd_T40 l1 x7_1).f2.f1.f0), .int .i64 ((rd_T40 l1 x7_1).f2.f1.f1), .int .i64 ((rd_T40 l1 x7_1).f2.f2), .slice A234_6 ((rd_T40 l1 x7_1).f3).length c234_6, .int .i64 ((rd_T40 l1 x7_1).f4), .slice A234_8 ((rd_T40 l1 x7_1).f5).length c234_8] 40 (0, 0)) bk hb)
       have n8_ := Aside0.mk (below_step bl hb)
       clear HO241
       clear HO247
       clear HO251
       clear BK235
       clear BK236
       clear HB
       have HO241 := n0_
       have HO247 := n1_
       have HO251 := n2_
       have HO256 := n3_
       have HO262 := n4_
       have HO266 := n5_
       have BK235 := n6_
       have BK236 := n7_
       have HB := n8_
       clear n0_ n1_ n2_ n3_ n4_ n5_ n6_ n7_ n8_
       (try clear hb)
       (try clear hb2)
       (try clear hk)
       (try clear hi)
       (try clear ho0)
       (try clear ho1)
       (try clear ho2)
       obtain ⟨Ao45, co45, eo45⟩ := Kd.V_slice HO241.out
       (first | subst eo45 | (injection eo45 with f1_ f2_ f3_; have f4_ := f1_.symm; have f5_ := f3_.symm; clear f1_ f2_ f3_; subst f4_; subst f5_))
       obtain ⟨Ao50, co50, eo50⟩ := Kd.V_slice HO247.out
       (first | subst eo50 | (injection eo50 with f1_ f2_ f3_; have f4_ := f1_.symm; have f5_ := f3_.symm; clear f1_ f2_ f3_; subst f4_; subst f5_))
       obtain ⟨Ao53, co53, eo53⟩ := Kd.V_slice HO251.out
       (first | subst eo53 | (injection eo53 with f1_ f2_ f3_; have f4_ := f1_.symm; have f5_ := f3_.symm; clear f1_ f2_ f3_; subst f4_; subst f5_))
       obtain ⟨Ao57, co57, eo57⟩ := Kd.V_slice HO256.out
       (first | subst eo57 | (injection eo57 with f1_ f2_ f3_; have f4_ := f1_.symm; have f5_ := f3_.symm; clear f1_ f2_ f3_; subst f4_; subst f5_))
       obtain ⟨Ao62, co62, eo62⟩ := Kd.V_slice HO262.out
       (first | subst eo62 | (injection eo62 with f1_ f2_ f3_; have f4_ := f1_.symm; have f5_ := f3_.symm; clear f1_ f2_ f3_; subst f4_; subst f5_))
       obtain ⟨Ao65, co65, eo65⟩ := Kd.V_slice HO266.out
       (first | subst eo65 | (injection eo65 with f1_ f2_ f3_; have f4_ := f1_.symm; have f5_ := f3_.symm; clear f1_ f2_ f3_; subst f4_; subst f5_))
       refine hK.out _ _ ⟨(blk_cell BK235.out 0).trans rfl, (blk_cell BK235.out 1).trans rfl, (blk_cell BK235.out 2).trans rfl, (blk_cell BK235.out 3).trans rfl, (blk_cell BK235.out 4).trans rfl, (blk_cell BK235.out 5).trans rfl, (blk_cell BK235.out 6).trans rfl, (blk_cell BK235.out 7).trans rfl, (blk_cell BK235.out 8).trans rfl, (blk_cell BK236.out 0).trans rfl, (blk_cell BK236.out 1).trans rfl, (blk_cell BK236.out 2).trans rfl, (blk_cell BK236.out 3).trans rfl, (blk_cell BK236.out 4).trans rfl, (blk_cell BK236.out 5).trans rfl, (blk_cell BK236.out 6).trans rfl, (blk_cell BK236.out 7).trans rfl, (blk_cell BK236.out 8).trans rfl⟩ (fun hHeld => ?_)
       clear hK K
       refine norm_ (a' := ?_) ?_ ?_
       rotate_left
       ·
        show Act.put _ (some 33) _ = _
        simp only [Act.put, List.setIfInBounds_toArray, List.set_cons_zero, List.set_cons_succ, i64_w, i32_w]
        rfl
       refine last_ (i := 4) (N := none) #[true, true, true, true, true, false] rfl rfl (by kernel_rfl) (by decide) (fun K hK => ?_)
       have hs43 : w42.cell? ⟨gb235, 0, none⟩ = some (.int .i64 ((rd_T40 l0 x7_1).f0)) := (blk_cell BK235.out 0).trans rfl
       have hfs43 := blk_frozen BK235.out 0
       have hns43_1 := NB236_235.out
       have hms43_1 := NB235_236.out
       have hs44 : w42.cell? ⟨gb235, 1, none⟩ = some (.int .i64 ((rd_T40 l0 x7_1).f1)) := (blk_cell BK235.out 1).trans rfl
       have hfs44 := blk_frozen BK235.out 1
       have hns44_1 := NB236_235.out
       have hms44_1 := NB235_236.out
       have hs46 : w42.cell? ⟨gb235, 2, none⟩ = some (.slice A233_2 ((rd_T40 l0 x7_1).f2.f0).length c233_2) := (blk_cell BK235.out 2).trans rfl
       have hfs46 := blk_frozen BK235.out 2
       have hns46_1 := NB236_235.out
       have hms46_1 := NB235_236.out
       have hs47 : w42.cell? ⟨gb235, 3, none⟩ = some (.int .i64 ((rd_T40 l0 x7_1).f2.f1.f0)) := (blk_cell BK235.out 3).trans rfl
       have hfs47 := blk_frozen BK235.out 3
       have hns47_1 := NB236_235.out
       have hms47_1 := NB235_236.out
       have hs48 : w42.cell? ⟨gb235, 4, none⟩ = some (.int .i64 ((rd_T40 l0 x7_1).f2.f1.f1)) := (blk_cell BK235.out 4).trans rfl
       have hfs48 := blk_frozen BK235.out 4
       have hns48_1 := NB236_235.out
       have hms48_1 := NB235_236.out
       have hs49 : w42.cell? ⟨gb235, 5, none⟩ = some (.int .i64 ((rd_T40 l0 x7_1).f2.f2)) := (blk_cell BK235.out 5).trans rfl
       have hfs49 := blk_frozen BK235.out 5
       have hns49_1 := NB236_235.out
       have hms49_1 := NB235_236.out
       have hs51 : w42.cell? ⟨gb235, 6, none⟩ = some (.slice A233_6 ((rd_T40 l0 x7_1).f3).length c233_6) := (blk_cell BK235.out 6).trans rfl
       have hfs51 := blk_frozen BK235.out 6
       have hns51_1 := NB236_235.out
       have hms51_1 := NB235_236.out
       have hs52 : w42.cell? ⟨gb235, 7, none⟩ = some (.int .i64 ((rd_T40 l0 x7_1).f4)) := (blk_cell BK235.out 7).trans rfl
       have hfs52 := blk_frozen BK235.out 7
       have hns52_1 := NB236_235.out
       have hms52_1 := NB235_236.out
       have hs54 : w42.cell? ⟨gb235, 8, none⟩ = some (.slice A233_8 ((rd_T40 l0 x7_1).f5).length c233_8) := (blk_cell BK235.out 8).trans rfl
       have hfs54 := blk_frozen BK235.out 8
       have hns54_1 := NB236_235.out
       have hms54_1 := NB235_236.out
       obtain ⟨w42y, hw_⟩ : ∃ x, x = (((((((((w42.setCell ⟨gb235, 0, none⟩ (.int .i64 t237)).setCell ⟨gb235, 1, none⟩ (.int .i64 t238)).setCell ⟨gb235, 2, none⟩ (.slice Ao45 t239.length co45)).setCell ⟨gb235, 3, none⟩ (.int .i64 t242)).setCell ⟨gb235, 4, none⟩ (.int .i64 t243)).setCell ⟨gb235, 5, none⟩ (.int .i64 t244)).setCell ⟨gb235, 6, none⟩ (.slice Ao50 t245.length co50)).setCell ⟨gb235, 7, none⟩ (.int .i64 t248)).setCell ⟨gb235, 8, none⟩ (.slice Ao53 t249.length co53)) := ⟨_, rfl⟩
       have kh_ : ∀ b : Nat, b ≠ gb235 → w42y.heap[b]? = w42.heap[b]? := by
        intro b ha
        rw [hw_]
        iterate 9 refine (Below.heap_setCell _ _ _ _ ha).trans ?_
        rfl
       have kg_ : w42y.heap[gb235]? = some (.cells #[.int .i64 t237, .int .i64 t238, .slice Ao45 t239.length co45, .int .i64 t242, .int .i64 t243, .int .i64 t244, .slice Ao50 t245.length co50, .int .i64 t248, .slice Ao53 t249.length co53] 40 (0, 0)) := by
        rw [hw_]
        refine E_in ?_
        iterate 9 refine E_set ?_
        exact ⟨_, BK235.out, by (try dsimp only); simp only [List.setIfInBounds_toArray, List.set_cons_zero, List.set_cons_succ]⟩
       have kl_ : Below w.heap.size w w42y := by
        rw [hw_]
        iterate 9 refine below_set ?_ GE235.out
        exact HB.out
       refine skip_ (w1 := w42y) (by rfl) rfl ?_ ?_
       ·
        go_simp
        try (first | rfl | exact hw_.symm | (rw [hw_]) | (simp only [hw_]))
       refine hK.out _ _ ?_
       clear hK K
       have n0_ := Aside0.mk (Kd.V_step HO241.out (fun k_ hk_ _ => kh_ k_ hk_.1))
       have n1_ := Aside0.mk (Kd.V_step HO247.out (fun k_ hk_ _ => kh_ k_ hk_.1))
       have n2_ := Aside0.mk (Kd.V_step HO251.out (fun k_ hk_ _ => kh_ k_ hk_.1))
       have n3_ := Aside0.mk (Kd.V_step HO256.out (fun k_ hk_ _ => kh_ k_ hk_.1))
       have n4_ := Aside0.mk (Kd.V_step HO262.out (fun k_ hk_ _ => kh_ k_ hk_.1))
       have n5_ := Aside0.mk (Kd.V_step HO266.out (fun k_ hk_ _ => kh_ k_ hk_.1))
       have n6_ := Aside0.mk kg_
       have n7_ := Aside0.mk ((kh_ _ NB236_235.out).trans BK236.out)
       have n8_ := Aside0.mk kl_
       clear kh_ kg_ kl_ hw_ BK235 BK236 HB HO241 HO247 HO251 HO256 HO262 HO266
       have HO241 := n0_
       have HO247 := n1_
       have HO251 := n2_
       have HO256 := n3_
       have HO262 := n4_
       have HO266 := n5_
       have BK235 := n6_
       have BK236 := n7_
       have HB := n8_
       clear n0_ n1_ n2_ n3_ n4_ n5_ n6_ n7_ n8_
       refine last_ (i := 5) (N := none) #[true, true, true, true, true, true] rfl rfl (by kernel_rfl) (by decide) (fun K hK => ?_)
       have hs55 : w42y.cell? ⟨gb236, 0, none⟩ = some (.int .i64 ((rd_T40 l1 x7_1).f0)) := (blk_cell BK236.out 0).trans rfl
       have hfs55 := blk_frozen BK236.out 0
       have hns55_0 := NB235_236.out
       have hms55_0 := NB236_235.out
       have hs56 : w42y.cell? ⟨gb236, 1, none⟩ = some (.int .i64 ((rd_T40 l1 x7_1).f1)) := (blk_cell BK236.out 1).trans rfl
       have hfs56 := blk_frozen BK236.out 1
       have hns56_0 := NB235_236.out
       have hms56_0 := NB236_235.out
       have hs58 : w42y.cell? ⟨gb236, 2, none⟩ = some (.slice A234_2 ((rd_T40 l1 x7_1).f2.f0).length c234_2) := (blk_cell BK236.out 2).trans rfl
       have hfs58 := blk_frozen BK236.out 2
       have hns58_0 := NB235_236.out
       have hms58_0 := NB236_235.out
       have hs59 : w42y.cell? ⟨gb236, 3, none⟩ = some (.int .i64 ((rd_T40 l1 x7_1).f2.f1.f0)) := (blk_cell BK236.out 3).trans rfl
       have hfs59 := blk_frozen BK236.out 3
       have hns59_0 := NB235_236.out
       have hms59_0 := NB236_235.out
       have hs60 : w42y.cell? ⟨gb236, 4, none⟩ = some (.int .i64 ((rd_T40 l1 x7_1).f2.f1.f1)) := (blk_cell BK236.out 4).trans rfl
       have hfs60 := blk_frozen BK236.out 4
       have hns60_0 := NB235_236.out
       have hms60_0 := NB236_235.out
       have hs61 : w42y.cell? ⟨gb236, 5, none⟩ = some (.int .i64 ((rd_T40 l1 x7_1).f2.f2)) := (blk_cell BK236.out 5).trans rfl
       have hfs61 := blk_frozen BK236.out 5
       have hns61_0 := NB235_236.out
       have hms61_0 := NB236_235.out
       have hs63 : w42y.cell? ⟨gb236, 6, none⟩ = some (.slice A234_6 ((rd_T40 l1 x7_1).f3).length c234_6) := (blk_cell BK236.out 6).trans rfl
       have hfs63 := blk_frozen BK236.out 6
       have hns63_0 := NB235_236.out
       have hms63_0 := NB236_235.out
       have hs64 : w42y.cell? ⟨gb236, 7, none⟩ = some (.int .i64 ((rd_T40 l1 x7_1).f4)) := (blk_cell BK236.out 7).trans rfl
       have hfs64 := blk_frozen BK236.out 7
       have hns64_0 := NB235_236.out
       have hms64_0 := NB236_235.out
       have hs66 : w42y.cell? ⟨gb236, 8, none⟩ = some (.slice A234_8 ((rd_T40 l1 x7_1).f5).length c234_8) := (blk_cell BK236.out 8).trans rfl
       have hfs66 := blk_frozen BK236.out 8
       have hns66_0 := NB235_236.out
       have hms66_0 := NB236_235.out
       obtain ⟨w42z, hw_⟩ : ∃ x, x = (((((((((w42y.setCell ⟨gb236, 0, none⟩ (.int .i64 t252)).setCell ⟨gb236, 1, none⟩ (.int .i64 t253)).setCell ⟨gb236, 2, none⟩ (.slice Ao57 t254.length co57)).setCell ⟨gb236, 3, none⟩ (.int .i64 t257)).setCell ⟨gb236, 4, none⟩ (.int .i64 t258)).setCell ⟨gb236, 5, none⟩ (.int .i64 t259)).setCell ⟨gb236, 6, none⟩ (.slice Ao62 t260.length co62)).setCell ⟨gb236, 7, none⟩ (.int .i64 t263)).setCell ⟨gb236, 8, none⟩ (.slice Ao65 t264.length co65)) := ⟨_, rfl⟩
       have kh_ : ∀ b : Nat, b ≠ gb236 → w42z.heap[b]? = w42y.heap[b]? := by
        intro b ha
        rw [hw_]
        iterate 9 refine (Below.heap_setCell _ _ _ _ ha).trans ?_
        rfl
       have kg_ : w42z.heap[gb236]? = some (.cells #[.int .i64 t252, .int .i64 t253, .slice Ao57 t254.length co57, .int .i64 t257, .int .i64 t258, .int .i64 t259, .slice Ao62 t260.length co62, .int .i64 t263, .slice Ao65 t264.length co65] 40 (0, 0)) := by
        rw [hw_]
        refine E_in ?_
        iterate 9 refine E_set ?_
        exact ⟨_, BK236.out, by (try dsimp only); simp only [List.setIfInBounds_toArray, List.set_cons_zero, List.set_cons_succ]⟩
       have kl_ : Below w.heap.size w w42z := by
        rw [hw_]
        iterate 9 refine below_set ?_ GE236.out
        exact HB.out
       refine skip_ (w1 := w42z) (by rfl) rfl ?_ ?_
       ·
        go_simp
        try (first | rfl | exact hw_.symm | (rw [hw_]) | (simp only [hw_]))
       refine hK.out _ _ ?_
       clear hK K
       have n0_ := Aside0.mk (Kd.V_step HO241.out (fun k_ hk_ _ => kh_ k_ hk_.2))
       have n1_ := Aside0.mk (Kd.V_step HO247.out (fun k_ hk_ _ => kh_ k_ hk_.2))
       have n2_ := Aside0.mk (Kd.V_step HO251.out (fun k_ hk_ _ => kh_ k_ hk_.2))
       have n3_ := Aside0.mk (Kd.V_step HO256.out (fun k_ hk_ _ => kh_ k_ hk_.2))
       have n4_ := Aside0.mk (Kd.V_step HO262.out (fun k_ hk_ _ => kh_ k_ hk_.2))
       have n5_ := Aside0.mk (Kd.V_step HO266.out (fun k_ hk_ _ => kh_ k_ hk_.2))
       have n6_ := Aside0.mk kg_
       have n7_ := Aside0.mk ((kh_ _ NB235_236.out).trans BK235.out)
       have n8_ := Aside0.mk kl_
       clear kh_ kg_ kl_ hw_ BK236 BK235 HB HO241 HO247 HO251 HO256 HO262 HO266
       have HO241 := n0_
       have HO247 := n1_
       have HO251 := n2_
       have HO256 := n3_
       have HO262 := n4_
       have HO266 := n5_
       have BK236 := n6_
       have BK235 := n7_
       have HB := n8_
       clear n0_ n1_ n2_ n3_ n4_ n5_ n6_ n7_ n8_
       refine done_ (by kernel_rfl) ?_
       have hnb67 := NB235_236.out
       have hnc67 := NB236_235.out
       obtain ⟨hcz68_0, hcz68_1, hcz68_2, hcz68_3, hcz68_4, hcz68_5, hcz68_6, hcz68_7, hcz68_8⟩ := cells9 BK235.out
       obtain ⟨hfz68_0, hfz68_1, hfz68_2, hfz68_3, hfz68_4, hfz68_5, hfz68_6, hfz68_7, hfz68_8⟩ := frz9 BK235.out
       obtain ⟨hcz69_0, hcz69_1, hcz69_2, hcz69_3, hcz69_4, hcz69_5, hcz69_6, hcz69_7, hcz69_8⟩ := cells9 BK236.out
       obtain ⟨hfz69_0, hfz69_1, hfz69_2, hfz69_3, hfz69_4, hfz69_5, hfz69_6, hfz69_7, hfz69_8⟩ := frz9 BK236.out
       have H := HQ_.out
       clear HQ_
       by_cases c10 : t237 = t252
       ·
        rw [if_pos c10] at H
        have c10b0 : (t237 == t252) = true := beq_iff_eq.mpr c10
        have c10b1 : (t237 != t252) = false := bne_eq_false_iff_eq.mpr c10
        clear c10
        by_cases c11 : t238 = t253
        ·
         rw [if_pos c11] at H
         have c11b0 : (t238 == t253) = true := beq_iff_eq.mpr c11
         have c11b1 : (t238 != t253) = false := bne_eq_false_iff_eq.mpr c11
         clear c11
         by_cases c12 : t248 = t263
         ·
          rw [if_pos c12] at H
          have c12b0 : (t248 == t263) = true := beq_iff_eq.mpr c12
          have c12b1 : (t248 != t263) = false := bne_eq_false_iff_eq.mpr c12
          clear c12
          by_cases c13 : (strOfNums t249).toList = (strOfNums t264).toList
          ·
           rw [if_pos c13] at H
           have c13b0 : ((strOfNums t249).toList == (strOfNums t264).toList) = true := beq_iff_eq.mpr c13
           have c13b1 : ((strOfNums t249).toList != (strOfNums t264).toList) = false := bne_eq_false_iff_eq.mpr c13
           clear c13
           replace H := Option.bind_eq_some_iff.mp H
           obtain ⟨t267, A140, H⟩ := H
           replace H : (if t267 = true then (if (!(t242 == t257) || (!(t243 == t258))) = true then (some false) else (if t244 = t259 then ((runnelref04_Same.f k1 t245 t260).bind fun t268 => (if t268 = true then (runnelref26_Same.l0 k1 l0 l1 (wrap64 (x7_1 + 1))) else (some false))) else (some false))) else (some false)) = some r := H
           have A14 := Aside0.mk A140
           clear A140
           by_cases c15 : t267 = true
           ·
            subst c15
            have H1 : (if (!(t242 == t257) || (!(t243 == t258))) = true then (some false) else (if t244 = t259 then ((runnelref04_Same.f k1 t245 t260).bind fun t268 => (if t268 = true then (runnelref26_Same.l0 k1 l0 l1 (wrap64 (x7_1 + 1))) else (some false))) else (some false))) = some r := by rw [if_pos rfl] at H; exact H
            clear H
            have H := H1
            clear H1
            by_cases c16 : (!(t242 == t257) || (!(t243 == t258))) = true
            ·
             rw [if_pos c16] at H
             have c16b0 : (!(t242 == t257) || (!(t243 == t258))) = true := c16
             clear c16
             obtain rfl := Option.some.inj H
             have hcv70 := Kd.C_string (P := Try.prog) (A := Ao53) (c := co53) Try.underlying22 Try.underlying5 Try.underlying9 (Kd.V_reads' HO251.out).2.2
             have hcv70d := fun n_ : Nat => Kd.C_string (P := Try.prog) (A := Ao53) (c := co53) Try.underlying22 Try.underlying5 Try.underlying9 (Kd.C_drewN (Kd.V_reads' HO251.out).2.2 n_)
             have hcv71 := Kd.C_string (P := Try.prog) (A := Ao65) (c := co65) Try.underlying22 Try.underlying5 Try.underlying9 (Kd.V_reads' HO266.out).2.2
             have hcv71d := fun n_ : Nat => Kd.C_string (P := Try.prog) (A := Ao65) (c := co65) Try.underlying22 Try.underlying5 Try.underlying9 (Kd.C_drewN (Kd.V_reads' HO266.out).2.2 n_)
             try go_wp2_with (first | (go_at_call 45; (with_reducible refine (runnelref03_Same.calls k1 _ _ t239 _ _ t254 true _ ?side1 ?side2 ?side3 ?side4 A14.out).mono ?_); (case side1 => refine (Kd.V_reads' (e := 103) (base := w.heap.size) (ok := fun k_ => (k_ ≠ gb235 ∧ k_ ≠ gb236)) (n := t239.length) (c := co45) ?_).2.2; exact (by (with_reducible repeat (first | apply Kd.V_alloc | apply Kd.V_drewN | apply Kd.V_drew)); exact HO241.out)); (case side2 => exact (Kd.V_reads' HO241.out).2.1); (case side3 => refine (Kd.V_reads' (e := 103) (base := w.heap.size) (ok := fun k_ => (k_ ≠ gb235 ∧ k_ ≠ gb236)) (n := t254.length) (c := co57) ?_).2.2; exact (by (with_reducible repeat (first | apply Kd.V_alloc | apply Kd.V_drewN | apply Kd.V_drew)); exact HO256.out)); (case side4 => exact (Kd.V_reads' HO256.out).2.1); rintro e w72 ⟨rfl, hb⟩; have n0_ := Aside0.mk (Kd.V_below (by (with_reducible repeat (first | apply Kd.V_alloc | apply Kd.V_drewN | apply Kd.V_drew)); exact HO241.out) hb); have n1_ := Aside0.mk (Kd.V_below (by (with_reducible repeat (first | apply Kd.V_alloc | apply Kd.V_drewN | apply Kd.V_drew)); exact HO247.out) hb); have n2_ := Aside0.mk (Kd.V_below (by (with_reducible repeat (first | apply Kd.V_alloc | apply Kd.V_drewN | apply Kd.V_drew)); exact HO251.out) hb); have n3_ := Aside0.mk (Kd.V_below (by (with_reducible repeat (first | apply Kd.V_alloc | apply Kd.V_drewN | apply Kd.V_drew)); exact HO256.out) hb); have n4_ := Aside0.mk (Kd.V_below (by (with_reducible repeat (first | apply Kd.V_alloc | apply Kd.V_drewN | apply Kd.V_drew)); exact HO262.out) hb); have n5_ := Aside0.mk (Kd.V_below (by (with_reducible repeat (first | apply Kd.V_alloc | apply Kd.V_drewN | apply Kd.V_drew)); exact HO266.out) hb); have n6_ := Aside0.mk (blk_below (g := gb235) (o := .cells #[.int .i64 t237, .int .i64 t238, .slice Ao45 t239.length co45, .int .i64 t242, .int .i64 t243, .int .i64 t244, .slice Ao50 t245.length co50, .int .i64 t248, .slice Ao53 t249.length co53] 40 (0, 0)) bk hb); have n7_ := Aside0.mk (blk_below (g := gb236) (o := .cells #[.int .i64 t252, .int .i64 t253, .slice Ao57 t254.length co57, .int .i64 t257, .int .i64 t258, .int .i64 t259, .slice Ao62 t260.length co62, .int .i64 t263, .slice Ao65 t264.length co65] 40 (0, 0)) bk hb); have n8_ := Aside0.mk (below_step bl hb); clear HO241; clear HO247; clear HO251; clear HO256; clear HO262; clear HO266; clear BK235; clear BK236; clear HB; have HO241 := n0_; have HO247 := n1_; have HO251 := n2_; have HO256 := n3_; have HO262 := n4_; have HO266 := n5_; have BK235 := n6_; have BK236 := n7_; have HB := n8_; clear n0_ n1_ n2_ n3_ n4_ n5_ n6_ n7_ n8_; (try clear hb); (try clear hb2); (try clear hk); (try clear hi); obtain ⟨hcz73_0, hcz73_1, hcz73_2, hcz73_3, hcz73_4, hcz73_5, hcz73_6, hcz73_7, hcz73_8⟩ := cells9 BK235.out; obtain ⟨hfz73_0, hfz73_1, hfz73_2, hfz73_3, hfz73_4, hfz73_5, hfz73_6, hfz73_7, hfz73_8⟩ := frz9 BK235.out; obtain ⟨hcz74_0, hcz74_1, hcz74_2, hcz74_3, hcz74_4, hcz74_5, hcz74_6, hcz74_7, hcz74_8⟩ := cells9 BK236.out; obtain ⟨hfz74_0, hfz74_1, hfz74_2, hfz74_3, hfz74_4, hfz74_5, hfz74_6, hfz74_7, hfz74_8⟩ := frz9 BK236.out))
             go_ret
             exact ⟨erq, by repeat (first | (with_reducible first | exact HB.out | apply below_alloc | apply pw_below_drewN | apply below_drew1 | refine below_set ?_ GE235.out | refine below_set ?_ GE236.out) | exact HB.out)⟩
            ·
             rw [if_neg c16] at H
             have c16b0 : (!(t242 == t257) || (!(t243 == t258))) = false := by simpa using c16
             clear c16
             by_cases c75 : t244 = t259
             ·
              rw [if_pos c75] at H
              have c75b0 : (t244 == t259) = true := beq_iff_eq.mpr c75
              have c75b1 : (t244 != t259) = false := bne_eq_false_iff_eq.mpr c75
              clear c75
              replace H := Option.bind_eq_some_iff.mp H
              obtain ⟨t268, A760, H⟩ := H
              replace H : (if t268 = true then (runnelref26_Same.l0 k1 l0 l1 (wrap64 (x7_1 + 1))) else (some false)) = some r := H
              have A76 := Aside0.mk A760
              clear A760
              by_cases c77 : t268 = true
              ·
               subst c77
               have H1 : (runnelref26_Same.l0 k1 l0 l1 (wrap64 (x7_1 + 1))) = some r := by rw [if_pos rfl] at H; exact H
               clear H
               have H := H1
               clear H1
               have H' := Aside0.mk H
               clear H
               have hcv131 := Kd.C_string (P := Try.prog) (A := Ao53) (c := co53) Try.underlying22 Try.underlying5 Try.underlying9 (Kd.V_reads' HO251.out).2.2
               have hcv131d := fun n_ : Nat => Kd.C_string (P := Try.prog) (A := Ao53) (c := co53) Try.underlying22 Try.underlying5 Try.underlying9 (Kd.C_drewN (Kd.V_reads' HO251.out).2.2 n_)
               have hcv132 := Kd.C_string (P := Try.prog) (A := Ao65) (c := co65) Try.underlying22 Try.underlying5 Try.underlying9 (Kd.V_reads' HO266.out).2.2
               have hcv132d := fun n_ : Nat => Kd.C_string (P := Try.prog) (A := Ao65) (c := co65) Try.underlying22 Try.underlying5 Try.underlying9 (Kd.C_drewN (Kd.V_reads' HO266.out).2.2 n_)
               try go_wp2_with (first | (go_at_call 45; (with_reducible refine (runnelref03_Same.calls k1 _ _ t239 _ _ t254 true _ ?side1 ?side2 ?side3 ?side4 A14.out).mono ?_); (case side1 => refine (Kd.V_reads' (e := 103) (base := w.heap.size) (ok := fun k_ => (k_ ≠ gb235 ∧ k_ ≠ gb236)) (n := t239.length) (c := co45) ?_).2.2; exact (by (with_reducible repeat (first | apply Kd.V_alloc | apply Kd.V_drewN | apply Kd.V_drew)); exact HO241.out)); (case side2 => exact (Kd.V_reads' HO241.out).2.1); (case side3 => refine (Kd.V_reads' (e := 103) (base := w.heap.size) (ok := fun k_ => (k_ ≠ gb235 ∧ k_ ≠ gb236)) (n := t254.length) (c := co57) ?_).2.2; exact (by (with_reducible repeat (first | apply Kd.V_alloc | apply Kd.V_drewN | apply Kd.V_drew)); exact HO256.out)); (case side4 => exact (Kd.V_reads' HO256.out).2.1); rintro e w133 ⟨rfl, hb⟩; have n0_ := Aside0.mk (Kd.V_below (by (with_reducible repeat (first | apply Kd.V_alloc | apply Kd.V_drewN | apply Kd.V_drew)); exact HO241.out) hb); have n1_ := Aside0.mk (Kd.V_below (by (with_reducible repeat (first | apply Kd.V_alloc | apply Kd.V_drewN | apply Kd.V_drew)); exact HO247.out) hb); have n2_ := Aside0.mk (Kd.V_below (by (with_reducible repeat (first | apply Kd.V_alloc | apply Kd.V_drewN | apply Kd.V_drew)); exact HO251.out) hb); have n3_ := Aside0.mk (Kd.V_below (by (with_reducible repeat (first | apply Kd.V_alloc | apply Kd.V_drewN | apply Kd.V_drew)); exact HO256.out) hb); have n4_ := Aside0.mk (Kd.V_below (by (with_reducible repeat (first | apply Kd.V_alloc | apply Kd.V_drewN | apply Kd.V_drew)); exact HO262.out) hb); have n5_ := Aside0.mk (Kd.V_below (by (with_reducible repeat (first | apply Kd.V_alloc | apply Kd.V_drewN | apply Kd.V_drew)); exact HO266.out) hb); have n6_ := Aside0.mk (blk_below (g := gb235) (o := .cells #[.int .i64 t237, .int .i64 t238, .slice Ao45 t239.length co45, .int .i64 t242, .int .i64 t243, .int .i64 t244, .slice Ao50 t245.length co50, .int .i64 t248, .slice Ao53 t249.length co53] 40 (0, 0)) bk hb); have n7_ := Aside0.mk (blk_below (g := gb236) (o := .cells #[.int .i64 t252, .int .i64 t253, .slice Ao57 t254.length co57, .int .i64 t257, .int .i64 t258, .int .i64 t259, .slice Ao62 t260.length co62, .int .i64 t263, .slice Ao65 t264.length co65] 40 (0, 0)) bk hb); have n8_ := Aside0.mk (below_step bl hb); clear HO241; clear HO247; clear HO251; clear HO256; clear HO262; clear HO266; clear BK235; clear BK236; clear HB; have HO241 := n0_; have HO247 := n1_; have HO251 := n2_; have HO256 := n3_; have HO262 := n4_; have HO266 := n5_; have BK235 := n6_; have BK236 := n7_; have HB := n8_; clear n0_ n1_ n2_ n3_ n4_ n5_ n6_ n7_ n8_; (try clear hb); (try clear hb2); (try clear hk); (try clear hi); obtain ⟨hcz134_0, hcz134_1, hcz134_2, hcz134_3, hcz134_4, hcz134_5, hcz134_6, hcz134_7, hcz134_8⟩ := cells9 BK235.out; obtain ⟨hfz134_0, hfz134_1, hfz134_2, hfz134_3, hfz134_4, hfz134_5, hfz134_6, hfz134_7, hfz134_8⟩ := frz9 BK235.out; obtain ⟨hcz135_0, hcz135_1, hcz135_2, hcz135_3, hcz135_4, hcz135_5, hcz135_6, hcz135_7, hcz135_8⟩ := cells9 BK236.out; have hfz135_0 := blk_frozen BK236.out 0; have hfz135_1 := blk_frozen BK236.out 1; have hfz135_2 := blk_frozen BK236.out 2; have hfz135_3 := blk_frozen BK236.out 3; have hfz135_4 := blk_frozen BK236.out 4; have hfz135_5 := blk_frozen BK236.out 5; have hfz135_6 := blk_frozen BK236.out 6; have hfz135_7 := blk_frozen BK236.out 7; have hfz135_8 := blk_frozen BK236.out 8) | (go_at_call 13; (with_reducible refine (runnelref04_Same.calls k1 _ _ t245 _ _ t260 true _ ?side1 ?side2 ?side3 ?side4 A76.out).mono ?_); (case side1 => repeat (first | exact (Kd.V_reads' HO247.out).2.2 | (with_reducible refine Kd.C_alloc ?_ _) | (with_reducible refine Kd.C_drewN ?_ _) | (with_reducible refine Kd.C_drew ?_))); (case side2 => exact (Kd.V_reads' HO247.out).2.1); (case side3 => repeat (first | exact (Kd.V_reads' HO262.out).2.2 | (with_reducible refine Kd.C_alloc ?_ _) | (with_reducible refine Kd.C_drewN ?_ _) | (with_reducible refine Kd.C_drew ?_))); (case side4 => exact (Kd.V_reads' HO262.out).2.1); rintro e w' ⟨rfl, ⟨nd, rfl⟩⟩))
               go_roundg k1
               case measure => have := HK1.out; omega
               case rel => exact ⟨(wrap64 (x7_1 + 1)), (by first | rfl | (simp; done) | (simp [*]; done)), H', ⟨by have := HK1.out; omega⟩, ⟨bl⟩⟩
              ·
               replace c77 := Bool.eq_false_iff.mpr c77
               subst c77
               have H1 : (some false) = some r := by rw [if_neg (show ¬ (false = true) by decide)] at H; exact H
               clear H
               have H := H1
               clear H1
               obtain rfl := Option.some.inj H
               have hcv189 := Kd.C_string (P := Try.prog) (A := Ao53) (c := co53) Try.underlying22 Try.underlying5 Try.underlying9 (Kd.V_reads' HO251.out).2.2
               have hcv189d := fun n_ : Nat => Kd.C_string (P := Try.prog) (A := Ao53) (c := co53) Try.underlying22 Try.underlying5 Try.underlying9 (Kd.C_drewN (Kd.V_reads' HO251.out).2.2 n_)
               have hcv190 := Kd.C_string (P := Try.prog) (A := Ao65) (c := co65) Try.underlying22 Try.underlying5 Try.underlying9 (Kd.V_reads' HO266.out).2.2
               have hcv190d := fun n_ : Nat => Kd.C_string (P := Try.prog) (A := Ao65) (c := co65) Try.underlying22 Try.underlying5 Try.underlying9 (Kd.C_drewN (Kd.V_reads' HO266.out).2.2 n_)
               try go_wp2_with (first | (go_at_call 45; (with_reducible refine (runnelref03_Same.calls k1 _ _ t239 _ _ t254 true _ ?side1 ?side2 ?side3 ?side4 A14.out).mono ?_); (case side1 => refine (Kd.V_reads' (e := 103) (base := w.heap.size) (ok := fun k_ => (k_ ≠ gb235 ∧ k_ ≠ gb236)) (n := t239.length) (c := co45) ?_).2.2; exact (by (with_reducible repeat (first | apply Kd.V_alloc | apply Kd.V_drewN | apply Kd.V_drew)); exact HO241.out)); (case side2 => exact (Kd.V_reads' HO241.out).2.1); (case side3 => refine (Kd.V_reads' (e := 103) (base := w.heap.size) (ok := fun k_ => (k_ ≠ gb235 ∧ k_ ≠ gb236)) (n := t254.length) (c := co57) ?_).2.2; exact (by (with_reducible repeat (first | apply Kd.V_alloc | apply Kd.V_drewN | apply Kd.V_drew)); exact HO256.out)); (case side4 => exact (Kd.V_reads' HO256.out).2.1); rintro e w191 ⟨rfl, hb⟩; have n0_ := Aside0.mk (Kd.V_below (by (with_reducible repeat (first | apply Kd.V_alloc | apply Kd.V_drewN | apply Kd.V_drew)); exact HO241.out) hb); have n1_ := Aside0.mk (Kd.V_below (by (with_reducible repeat (first | apply Kd.V_alloc | apply Kd.V_drewN | apply Kd.V_drew)); exact HO247.out) hb); have n2_ := Aside0.mk (Kd.V_below (by (with_reducible repeat (first | apply Kd.V_alloc | apply Kd.V_drewN | apply Kd.V_drew)); exact HO251.out) hb); have n3_ := Aside0.mk (Kd.V_below (by (with_reducible repeat (first | apply Kd.V_alloc | apply Kd.V_drewN | apply Kd.V_drew)); exact HO256.out) hb); have n4_ := Aside0.mk (Kd.V_below (by (with_reducible repeat (first | apply Kd.V_alloc | apply Kd.V_drewN | apply Kd.V_drew)); exact HO262.out) hb); have n5_ := Aside0.mk (Kd.V_below (by (with_reducible repeat (first | apply Kd.V_alloc | apply Kd.V_drewN | apply Kd.V_drew)); exact HO266.out) hb); have n6_ := Aside0.mk (blk_below (g := gb235) (o := .cells #[.int .i64 t237, .int .i64 t238, .slice Ao45 t239.length co45, .int .i64 t242, .int .i64 t243, .int .i64 t244, .slice Ao50 t245.length co50, .int .i64 t248, .slice Ao53 t249.length co53] 40 (0, 0)) bk hb); have n7_ := Aside0.mk (blk_below (g := gb236) (o := .cells #[.int .i64 t252, .int .i64 t253, .slice Ao57 t254.length co57, .int .i64 t257, .int .i64 t258, .int .i64 t259, .slice Ao62 t260.length co62, .int .i64 t263, .slice Ao65 t264.length co65] 40 (0, 0)) bk hb); have n8_ := Aside0.mk (below_step bl hb); clear HO241; clear HO247; clear HO251; clear HO256; clear HO262; clear HO266; clear BK235; clear BK236; clear HB; have HO241 := n0_; have HO247 := n1_; have HO251 := n2_; have HO256 := n3_; have HO262 := n4_; have HO266 := n5_; have BK235 := n6_; have BK236 := n7_; have HB := n8_; clear n0_ n1_ n2_ n3_ n4_ n5_ n6_ n7_ n8_; (try clear hb); (try clear hb2); (try clear hk); (try clear hi); obtain ⟨hcz192_0, hcz192_1, hcz192_2, hcz192_3, hcz192_4, hcz192_5, hcz192_6, hcz192_7, hcz192_8⟩ := cells9 BK235.out; obtain ⟨hfz192_0, hfz192_1, hfz192_2, hfz192_3, hfz192_4, hfz192_5, hfz192_6, hfz192_7, hfz192_8⟩ := frz9 BK235.out; obtain ⟨hcz193_0, hcz193_1, hcz193_2, hcz193_3, hcz193_4, hcz193_5, hcz193_6, hcz193_7, hcz193_8⟩ := cells9 BK236.out; have hfz193_0 := blk_frozen BK236.out 0; have hfz193_1 := blk_frozen BK236.out 1; have hfz193_2 := blk_frozen BK236.out 2; have hfz193_3 := blk_frozen BK236.out 3; have hfz193_4 := blk_frozen BK236.out 4; have hfz193_5 := blk_frozen BK236.out 5; have hfz193_6 := blk_frozen BK236.out 6; have hfz193_7 := blk_frozen BK236.out 7; have hfz193_8 := blk_frozen BK236.out 8) | (go_at_call 13; (with_reducible refine (runnelref04_Same.calls k1 _ _ t245 _ _ t260 false _ ?side1 ?side2 ?side3 ?side4 A76.out).mono ?_); (case side1 => repeat (first | exact (Kd.V_reads' HO247.out).2.2 | (with_reducible refine Kd.C_alloc ?_ _) | (with_reducible refine Kd.C_drewN ?_ _) | (with_reducible refine Kd.C_drew ?_))); (case side2 => exact (Kd.V_reads' HO247.out).2.1); (case side3 => repeat (first | exact (Kd.V_reads' HO262.out).2.2 | (with_reducible refine Kd.C_alloc ?_ _) | (with_reducible refine Kd.C_drewN ?_ _) | (with_reducible refine Kd.C_drew ?_))); (case side4 => exact (Kd.V_reads' HO262.out).2.1); rintro e w' ⟨rfl, ⟨nd, rfl⟩⟩))
               go_ret
               exact ⟨erq, by repeat (first | (with_reducible first | exact HB.out | apply below_alloc | apply pw_below_drewN | apply below_drew1 | refine below_set ?_ GE235.out | refine below_set ?_ GE236.out) | exact HB.out)⟩
             ·
              rw [if_neg c75] at H
              have c75b0 : (t244 == t259) = false := beq_eq_false_iff_ne.mpr c75
              have c75b1 : (t244 != t259) = true := bne_iff_ne.mpr c75
              obtain rfl := Option.some.inj H
              have hcv247 := Kd.C_string (P := Try.prog) (A := Ao53) (c := co53) Try.underlying22 Try.underlying5 Try.underlying9 (Kd.V_reads' HO251.out).2.2
              have hcv247d := fun n_ : Nat => Kd.C_string (P := Try.prog) (A := Ao53) (c := co53) Try.underlying22 Try.underlying5 Try.underlying9 (Kd.C_drewN (Kd.V_reads' HO251.out).2.2 n_)
              have hcv248 := Kd.C_string (P := Try.prog) (A := Ao65) (c := co65) Try.underlying22 Try.underlying5 Try.underlying9 (Kd.V_reads' HO266.out).2.2
              have hcv248d := fun n_ : Nat => Kd.C_string (P := Try.prog) (A := Ao65) (c := co65) Try.underlying22 Try.underlying5 Try.underlying9 (Kd.C_drewN (Kd.V_reads' HO266.out).2.2 n_)
              try go_wp2_with (first | (go_at_call 45; (with_reducible refine (runnelref03_Same.calls k1 _ _ t239 _ _ t254 true _ ?side1 ?side2 ?side3 ?side4 A14.out).mono ?_); (case side1 => refine (Kd.V_reads' (e := 103) (base := w.heap.size) (ok := fun k_ => (k_ ≠ gb235 ∧ k_ ≠ gb236)) (n := t239.length) (c := co45) ?_).2.2; exact (by (with_reducible repeat (first | apply Kd.V_alloc | apply Kd.V_drewN | apply Kd.V_drew)); exact HO241.out)); (case side2 => exact (Kd.V_reads' HO241.out).2.1); (case side3 => refine (Kd.V_reads' (e := 103) (base := w.heap.size) (ok := fun k_ => (k_ ≠ gb235 ∧ k_ ≠ gb236)) (n := t254.length) (c := co57) ?_).2.2; exact (by (with_reducible repeat (first | apply Kd.V_alloc | apply Kd.V_drewN | apply Kd.V_drew)); exact HO256.out)); (case side4 => exact (Kd.V_reads' HO256.out).2.1); rintro e w249 ⟨rfl, hb⟩; have n0_ := Aside0.mk (Kd.V_below (by (with_reducible repeat (first | apply Kd.V_alloc | apply Kd.V_drewN | apply Kd.V_drew)); exact HO241.out) hb); have n1_ := Aside0.mk (Kd.V_below (by (with_reducible repeat (first | apply Kd.V_alloc | apply Kd.V_drewN | apply Kd.V_drew)); exact HO247.out) hb); have n2_ := Aside0.mk (Kd.V_below (by (with_reducible repeat (first | apply Kd.V_alloc | apply Kd.V_drewN | apply Kd.V_drew)); exact HO251.out) hb); have n3_ := Aside0.mk (Kd.V_below (by (with_reducible repeat (first | apply Kd.V_alloc | apply Kd.V_drewN | apply Kd.V_drew)); exact HO256.out) hb); have n4_ := Aside0.mk (Kd.V_below (by (with_reducible repeat (first | apply Kd.V_alloc | apply Kd.V_drewN | apply Kd.V_drew)); exact HO262.out) hb); have n5_ := Aside0.mk (Kd.V_below (by (with_reducible repeat (first | apply Kd.V_alloc | apply Kd.V_drewN | apply Kd.V_drew)); exact HO266.out) hb); have n6_ := Aside0.mk (blk_below (g := gb235) (o := .cells #[.int .i64 t237, .int .i64 t238, .slice Ao45 t239.length co45, .int .i64 t242, .int .i64 t243, .int .i64 t244, .slice Ao50 t245.length co50, .int .i64 t248, .slice Ao53 t249.length co53] 40 (0, 0)) bk hb); have n7_ := Aside0.mk (blk_below (g := gb236) (o := .cells #[.int .i64 t252, .int .i64 t253, .slice Ao57 t254.length co57, .int .i64 t257, .int .i64 t258, .int .i64 t259, .slice Ao62 t260.length co62, .int .i64 t263, .slice Ao65 t264.length co65] 40 (0, 0)) bk hb); have n8_ := Aside0.mk (below_step bl hb); clear HO241; clear HO247; clear HO251; clear HO256; clear HO262; clear HO266; clear BK235; clear BK236; clear HB; have HO241 := n0_; have HO247 := n1_; have HO251 := n2_; have HO256 := n3_; have HO262 := n4_; have HO266 := n5_; have BK235 := n6_; have BK236 := n7_; have HB := n8_; clear n0_ n1_ n2_ n3_ n4_ n5_ n6_ n7_ n8_; (try clear hb); (try clear hb2); (try clear hk); (try clear hi); obtain ⟨hcz250_0, hcz250_1, hcz250_2, hcz250_3, hcz250_4, hcz250_5, hcz250_6, hcz250_7, hcz250_8⟩ := cells9 BK235.out; obtain ⟨hfz250_0, hfz250_1, hfz250_2, hfz250_3, hfz250_4, hfz250_5, hfz250_6, hfz250_7, hfz250_8⟩ := frz9 BK235.out; obtain ⟨hcz251_0, hcz251_1, hcz251_2, hcz251_3, hcz251_4, hcz251_5, hcz251_6, hcz251_7, hcz251_8⟩ := cells9 BK236.out; obtain ⟨hfz251_0, hfz251_1, hfz251_2, hfz251_3, hfz251_4, hfz251_5, hfz251_6, hfz251_7, hfz251_8⟩ := frz9 BK236.out))
              go_ret
              exact ⟨erq, by repeat (first | (with_reducible first | exact HB.out | apply below_alloc | apply pw_below_drewN | apply below_drew1 | refine below_set ?_ GE235.out | refine below_set ?_ GE236.out) | exact HB.out)⟩
           ·
            replace c15 := Bool.eq_false_iff.mpr c15
            subst c15
            have H1 : (some false) = some r := by rw [if_neg (show ¬ (false = true) by decide)] at H; exact H
            clear H
            have H := H1
            clear H1
            obtain rfl := Option.some.inj H
            have hcv305 := Kd.C_string (P := Try.prog) (A := Ao53) (c := co53) Try.underlying22 Try.underlying5 Try.underlying9 (Kd.V_reads' HO251.out).2.2
            have hcv305d := fun n_ : Nat => Kd.C_string (P := Try.prog) (A := Ao53) (c := co53) Try.underlying22 Try.underlying5 Try.underlying9 (Kd.C_drewN (Kd.V_reads' HO251.out).2.2 n_)
            have hcv306 := Kd.C_string (P := Try.prog) (A := Ao65) (c := co65) Try.underlying22 Try.underlying5 Try.underlying9 (Kd.V_reads' HO266.out).2.2
            have hcv306d := fun n_ : Nat => Kd.C_string (P := Try.prog) (A := Ao65) (c := co65) Try.underlying22 Try.underlying5 Try.underlying9 (Kd.C_drewN (Kd.V_reads' HO266.out).2.2 n_)
            try go_wp2_with (first | (go_at_call 45; (with_reducible refine (runnelref03_Same.calls k1 _ _ t239 _ _ t254 false _ ?side1 ?side2 ?side3 ?side4 A14.out).mono ?_); (case side1 => refine (Kd.V_reads' (e := 103) (base := w.heap.size) (ok := fun k_ => (k_ ≠ gb235 ∧ k_ ≠ gb236)) (n := t239.length) (c := co45) ?_).2.2; exact (by (with_reducible repeat (first | apply Kd.V_alloc | apply Kd.V_drewN | apply Kd.V_drew)); exact HO241.out)); (case side2 => exact (Kd.V_reads' HO241.out).2.1); (case side3 => refine (Kd.V_reads' (e := 103) (base := w.heap.size) (ok := fun k_ => (k_ ≠ gb235 ∧ k_ ≠ gb236)) (n := t254.length) (c := co57) ?_).2.2; exact (by (with_reducible repeat (first | apply Kd.V_alloc | apply Kd.V_drewN | apply Kd.V_drew)); exact HO256.out)); (case side4 => exact (Kd.V_reads' HO256.out).2.1); rintro e w307 ⟨rfl, hb⟩; have n0_ := Aside0.mk (Kd.V_below (by (with_reducible repeat (first | apply Kd.V_alloc | apply Kd.V_drewN | apply Kd.V_drew)); exact HO241.out) hb); have n1_ := Aside0.mk (Kd.V_below (by (with_reducible repeat (first | apply Kd.V_alloc | apply Kd.V_drewN | apply Kd.V_drew)); exact HO247.out) hb); have n2_ := Aside0.mk (Kd.V_below (by (with_reducible repeat (first | apply Kd.V_alloc | apply Kd.V_drewN | apply Kd.V_drew)); exact HO251.out) hb); have n3_ := Aside0.mk (Kd.V_below (by (with_reducible repeat (first | apply Kd.V_alloc | apply Kd.V_drewN | apply Kd.V_drew)); exact HO256.out) hb); have n4_ := Aside0.mk (Kd.V_below (by (with_reducible repeat (first | apply Kd.V_alloc | apply Kd.V_drewN | apply Kd.V_drew)); exact HO262.out) hb); have n5_ := Aside0.mk (Kd.V_below (by (with_reducible repeat (first | apply Kd.V_alloc | apply Kd.V_drewN | apply Kd.V_drew)); exact HO266.out) hb); have n6_ := Aside0.mk (blk_below (g := gb235) (o := .cells #[.int .i64 t237, .int .i64 t238, .slice Ao45 t239.length co45, .int .i64 t242, .int .i64 t243, .int .i64 t244, .slice Ao50 t245.length co50, .int .i64 t248, .slice Ao53 t249.length co53] 40 (0, 0)) bk hb); have n7_ := Aside0.mk (blk_below (g := gb236) (o := .cells #[.int .i64 t252, .int .i64 t253, .slice Ao57 t254.length co57, .int .i64 t257, .int .i64 t258, .int .i64 t259, .slice Ao62 t260.length co62, .int .i64 t263, .slice Ao65 t264.length co65] 40 (0, 0)) bk hb); have n8_ := Aside0.mk (below_step bl hb); clear HO241; clear HO247; clear HO251; clear HO256; clear HO262; clear HO266; clear BK235; clear BK236; clear HB; have HO241 := n0_; have HO247 := n1_; have HO251 := n2_; have HO256 := n3_; have HO262 := n4_; have HO266 := n5_; have BK235 := n6_; have BK236 := n7_; have HB := n8_; clear n0_ n1_ n2_ n3_ n4_ n5_ n6_ n7_ n8_; (try clear hb); (try clear hb2); (try clear hk); (try clear hi)))
            go_ret
            exact ⟨erq, by repeat (first | (with_reducible first | exact HB.out | apply below_alloc | apply pw_below_drewN | apply below_drew1 | refine below_set ?_ GE235.out | refine below_set ?_ GE236.out) | exact HB.out)⟩
          ·
           rw [if_neg c13] at H
           have c13b0 : ((strOfNums t249).toList == (strOfNums t264).toList) = false := beq_eq_false_iff_ne.mpr c13
           have c13b1 : ((strOfNums t249).toList != (strOfNums t264).toList) = true := bne_iff_ne.mpr c13
           obtain rfl := Option.some.inj H
           have hcv361 := Kd.C_string (P := Try.prog) (A := Ao53) (c := co53) Try.underlying22 Try.underlying5 Try.underlying9 (Kd.V_reads' HO251.out).2.2
           have hcv361d := fun n_ : Nat => Kd.C_string (P := Try.prog) (A := Ao53) (c := co53) Try.underlying22 Try.underlying5 Try.underlying9 (Kd.C_drewN (Kd.V_reads' HO251.out).2.2 n_)
           have hcv362 := Kd.C_string (P := Try.prog) (A := Ao65) (c := co65) Try.underlying22 Try.underlying5 Try.underlying9 (Kd.V_reads' HO266.out).2.2
           have hcv362d := fun n_ : Nat => Kd.C_string (P := Try.prog) (A := Ao65) (c := co65) Try.underlying22 Try.underlying5 Try.underlying9 (Kd.C_drewN (Kd.V_reads' HO266.out).2.2 n_)
           try go_wp2
           go_ret
           exact ⟨erq, by repeat (first | (with_reducible first | exact HB.out | apply below_alloc | apply pw_below_drewN | apply below_drew1 | refine below_set ?_ GE235.out | refine below_set ?_ GE236.out) | exact HB.out)⟩
         ·
          rw [if_neg c12] at H
          have c12b0 : (t248 == t263) = false := beq_eq_false_iff_ne.mpr c12
          have c12b1 : (t248 != t263) = true := bne_iff_ne.mpr c12
          obtain rfl := Option.some.inj H
          try go_wp2
          go_ret
          exact ⟨erq, by repeat (first | (with_reducible first | exact HB.out | apply below_alloc | apply pw_below_drewN | apply below_drew1 | refine below_set ?_ GE235.out | refine below_set ?_ GE236.out) | exact HB.out)⟩
        ·
         rw [if_neg c11] at H
         have c11b0 : (t238 == t253) = false := beq_eq_false_iff_ne.mpr c11
         have c11b1 : (t238 != t253) = true := bne_iff_ne.mpr c11
         obtain rfl := Option.some.inj H
         try go_wp2
         go_ret
         exact ⟨erq, by repeat (first | (with_reducible first | exact HB.out | apply below_alloc | apply pw_below_drewN | apply below_drew1 | refine below_set ?_ GE235.out | refine below_set ?_ GE236.out) | exact HB.out)⟩
       ·
        rw [if_neg c10] at H
        have c10b0 : (t237 == t252) = false := beq_eq_false_iff_ne.mpr c10
        have c10b1 : (t237 != t252) = true := bne_iff_ne.mpr c10
        obtain rfl := Option.some.inj H
        try go_wp2
        go_ret
        exact ⟨erq, by repeat (first | (with_reducible first | exact HB.out | apply below_alloc | apply pw_below_drewN | apply below_drew1 | refine below_set ?_ GE235.out | refine below_set ?_ GE236.out) | exact HB.out)⟩
      ·
       rw [if_neg c7] at H
       exact absurd H (by simp)
     ·
      rw [if_neg c6] at H
      exact absurd H (by simp)
    ·
     rw [if_neg c5] at H
     have c5b0 : decide (x7_1 < (l0.length : Int)) = false := decide_eq_false c5
     clear c5
     obtain rfl := Option.some.inj H
     go_wp2
     go_ret
     exact ⟨erq, by repeat (first | (with_reducible first | exact HB.out | apply below_alloc | apply pw_below_drewN | apply below_drew1) | exact HB.out)⟩
 ·
  rw [if_neg c4] at H
  have c4b0 : ((l0.length : Int) == (l1.length : Int)) = false := beq_eq_false_iff_ne.mpr c4
  have c4b1 : ((l0.length : Int) != (l1.length : Int)) = true := bne_iff_ne.mpr c4
  have c4b2 : (l0.length == l1.length) = false := by first | simpa using c4 | (simp at c4 ⊢; omega)
  obtain rfl := Option.some.inj H
  go_enter Try.func17, Try.ntmps17
  go_wp2
  go_ret
  exact ⟨erq, by repeat (first | (with_reducible first | exact HB.out | apply below_alloc | apply pw_below_drewN | apply below_drew1) | exact HB.out)⟩

end Go.Proofs.Ytpplklickfioiaa.PWireLists
