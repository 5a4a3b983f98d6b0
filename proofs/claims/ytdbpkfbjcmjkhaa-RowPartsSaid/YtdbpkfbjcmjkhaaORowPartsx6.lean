/- One piece of the machine's side of the law, written by a program over the translation; Lean checks it. -/
import Derived.Test.YtdbpkfbjcmjkhaaORowPartsx0
import Derived.Test.YtdbpkfbjcmjkhaaORowPartsx1
import Derived.Test.YtdbpkfbjcmjkhaaORowPartsx2
import Derived.Test.YtdbpkfbjcmjkhaaORowPartsx3
import Derived.Test.YtdbpkfbjcmjkhaaORowPartsx5
namespace Go.Proofs.Ytdbpkfbjcmjkhaa.PRowParts
open Go.RowKit Go.Proofs.YtdbpkfbjcmjkhaaW.PrintWords Go.Proofs.YtdbpkfbjcmjkhaaW.PrintLast Go.Proofs.YtdbpkfbjcmjkhaaW.PrintMore
attribute [local go_sem] max2_int min2_int max_two min_two max_three min_three max_four min_four   -- for this text's walks alone
set_option linter.unusedVariables false
set_option linter.unusedSimpArgs false

/-! ### runnellaw03_RowParts: function 6 -/
mutual
def runnellaw03_RowParts.j0 : Nat → List (S28) → List Int → Int → Bool → Option (Bool)
  | 0, _, _, _, _ => none
  | k + 1, x0, x1, x2, x23 => if x23 = true then ((runnellaw03_live.f k).bind fun t227 => (some t227)) else ((row_Part.f k x0 x1).bind fun bt228 => ((runnelref03_Part.f k x0 x1).bind fun bt232 => ((row_Cut.f k x0 x2).bind fun bt236 => ((runnelref03_Same.f k bt228.1 bt232.1).bind fun t243 => (if t243 = true then ((runnellaw03_code.f bt228.2).bind fun t244 => (runnellaw03_RowParts.j1 k x0 x2 bt236.1 bt236.2.1 bt236.2.2 (t244 != bt232.2))) else (runnellaw03_RowParts.j1 k x0 x2 bt236.1 bt236.2.1 bt236.2.2 true))))))
def runnellaw03_RowParts.j1 : Nat → List (S28) → Int → List (S28) → List (S28) → Int → Bool → Option (Bool)
  | 0, _, _, _, _, _, _ => none
  | k + 1, x0, x2, x11, x12, x13, x53 => if x53 = true then (some false) else (if x2 < 0 then (runnellaw03_RowParts.j2 k x0 x2 x11 x12 x13 true) else (runnellaw03_RowParts.j2 k x0 x2 x11 x12 x13 (decide (x2 > (x0.length : Int)))))
def runnellaw03_RowParts.j2 : Nat → List (S28) → Int → List (S28) → List (S28) → Int → Bool → Option (Bool)
  | 0, _, _, _, _, _, _ => none
  | k + 1, x0, x2, x11, x12, x13, x61 => if x61 = true then (if (wrap64 ((x11.length : Int) + (x12.length : Int))) = 0 then ((runnellaw03_code.f x13).bind fun t245 => (if t245 = 9 then ((runnellaw03_live.f k).bind fun t246 => (some t246)) else (some false))) else (some false)) else (if 0 ≤ x2 then (if x2 ≤ (x0.length : Int) then ((runnelref03_Same.f k x11 (x0.take (x2 : Int).toNat)).bind fun t251 => (if t251 = true then ((runnelref03_Same.f k x12 (x0.drop (x2 : Int).toNat)).bind fun t256 => (if t256 = true then ((runnellaw03_code.f x13).bind fun t257 => (if t257 = 0 then ((row_Join.f k (([x11, x12] : List (List (S28))))).bind fun t261 => ((runnelref03_Same.f k t261 x0).bind fun t264 => (runnellaw03_RowParts.j3 k x0 x11 x12 (!t264)))) else (runnellaw03_RowParts.j3 k x0 x11 x12 true))) else (runnellaw03_RowParts.j3 k x0 x11 x12 true))) else (runnellaw03_RowParts.j3 k x0 x11 x12 true))) else (none)) else (none))
def runnellaw03_RowParts.j3 : Nat → List (S28) → List (S28) → List (S28) → Bool → Option (Bool)
  | 0, _, _, _, _ => none
  | k + 1, x0, x11, x12, x103 => if x103 = true then (some false) else ((some (([] : List (S28)) : List (S28))).bind fun y265 => (if y265.length + x0.length < 4398046511104 then (runnellaw03_RowParts.l0 k x0 x11 x12 (y265 ++ x0) 0) else (none)))
def runnellaw03_RowParts.l0 : Nat → List (S28) → List (S28) → List (S28) → List (S28) → Int → Option (Bool)
  | 0, _, _, _, _, _ => none
  | k + 1, x0, x11, x12, x14, x15 => if x15 < (x11.length : Int) then (if 0 ≤ x15 then (runnellaw03_RowParts.l0 k x0 (x11.set (x15 : Int).toNat (⟨(rd_T28 x11 x15).f0, wrap64 (((rd_T28 x11 x15).f1) + 1), (rd_T28 x11 x15).f2⟩ : S28)) x12 x14 (wrap64 (x15 + 1))) else (none)) else (runnellaw03_RowParts.l1 k x0 x12 x14 0)
def runnellaw03_RowParts.l1 : Nat → List (S28) → List (S28) → List (S28) → Int → Option (Bool)
  | 0, _, _, _, _ => none
  | k + 1, x0, x12, x14, x16 => if x16 < (x12.length : Int) then (if 0 ≤ x16 then (runnellaw03_RowParts.l1 k x0 (x12.set (x16 : Int).toNat (⟨(rd_T28 x12 x16).f0, wrap64 (((rd_T28 x12 x16).f1) + 1), (rd_T28 x12 x16).f2⟩ : S28)) x14 (wrap64 (x16 + 1))) else (none)) else ((runnelref03_Same.f k x14 x0).bind fun t275 => (if t275 = true then ((runnellaw03_live.f k).bind fun t276 => (some t276)) else (some false)))
end
def runnellaw03_RowParts.f (k : Nat) (l0 : List (S28)) (l1 : List Int) (a2 : Int) : Option (Bool) := (runnelref03_Long.f k l0).bind fun t226 => (if t226 = true then (runnellaw03_RowParts.j0 k l0 l1 a2 true) else (runnellaw03_RowParts.j0 k l0 l1 a2 (decide ((l1.length : Int) > 50))))
theorem runnellaw03_RowParts.mono_l : ∀ k, (∀ y0 y1 y2 y3, LeO (runnellaw03_RowParts.j0 k y0 y1 y2 y3) (runnellaw03_RowParts.j0 (k + 1) y0 y1 y2 y3)) ∧ (∀ y0 y1 y2 y3 y4 y5, LeO (runnellaw03_RowParts.j1 k y0 y1 y2 y3 y4 y5) (runnellaw03_RowParts.j1 (k + 1) y0 y1 y2 y3 y4 y5)) ∧ (∀ y0 y1 y2 y3 y4 y5, LeO (runnellaw03_RowParts.j2 k y0 y1 y2 y3 y4 y5) (runnellaw03_RowParts.j2 (k + 1) y0 y1 y2 y3 y4 y5)) ∧ (∀ y0 y1 y2 y3, LeO (runnellaw03_RowParts.j3 k y0 y1 y2 y3) (runnellaw03_RowParts.j3 (k + 1) y0 y1 y2 y3)) ∧ (∀ y0 y1 y2 y3 y4, LeO (runnellaw03_RowParts.l0 k y0 y1 y2 y3 y4) (runnellaw03_RowParts.l0 (k + 1) y0 y1 y2 y3 y4)) ∧ (∀ y0 y1 y2 y3, LeO (runnellaw03_RowParts.l1 k y0 y1 y2 y3) (runnellaw03_RowParts.l1 (k + 1) y0 y1 y2 y3))
  | 0 => ⟨fun _ _ _ _ r h => by simp [runnellaw03_RowParts.j0] at h, fun _ _ _ _ _ _ r h => by simp [runnellaw03_RowParts.j1] at h, fun _ _ _ _ _ _ r h => by simp [runnellaw03_RowParts.j2] at h, fun _ _ _ _ r h => by simp [runnellaw03_RowParts.j3] at h, fun _ _ _ _ _ r h => by simp [runnellaw03_RowParts.l0] at h, fun _ _ _ _ r h => by simp [runnellaw03_RowParts.l1] at h⟩
  | k + 1 => by
    obtain ⟨ih0, ih1, ih2, ih3, ih4, ih5⟩ := runnellaw03_RowParts.mono_l k
    refine ⟨?_, ?_, ?_, ?_, ?_, ?_⟩
    · intro y0 y1 y2 y3
      unfold runnellaw03_RowParts.j0
      repeat' first
      | (with_reducible exact ih0 _ _ _ _)
      | (with_reducible exact ih1 _ _ _ _ _ _)
      | (with_reducible exact ih2 _ _ _ _ _ _)
      | (with_reducible exact ih3 _ _ _ _)
      | (with_reducible exact ih4 _ _ _ _ _)
      | (with_reducible exact ih5 _ _ _ _)
      | (with_reducible exact row_Cut.mono _ _ _)
      | (with_reducible exact row_Join.mono _ _)
      | (with_reducible exact row_Part.mono _ _ _)
      | (with_reducible exact runnellaw03_live.mono _)
      | (with_reducible exact runnelref03_Long.mono _ _)
      | (with_reducible exact runnelref03_Part.mono _ _ _)
      | (with_reducible exact runnelref03_Same.mono _ _ _)
      | (with_reducible exact LeO.refl _)
      | (with_reducible exact LeO.none _)
      | (with_reducible refine LeO.ite ?_ ?_)
      | (with_reducible refine LeO.bind ?_ (fun _ => ?_))
      | exact ih0 _ _ _ _
      | exact ih1 _ _ _ _ _ _
      | exact ih2 _ _ _ _ _ _
      | exact ih3 _ _ _ _
      | exact ih4 _ _ _ _ _
      | exact ih5 _ _ _ _
      | exact row_Cut.mono _ _ _
      | exact row_Join.mono _ _
      | exact row_Part.mono _ _ _
      | exact runnellaw03_live.mono _
      | exact runnelref03_Long.mono _ _
      | exact runnelref03_Part.mono _ _ _
      | exact runnelref03_Same.mono _ _ _
      | exact LeO.none _
      | refine LeO.ite ?_ ?_
      | refine LeO.bind ?_ (fun _ => ?_)
    · intro y0 y1 y2 y3 y4 y5
      unfold runnellaw03_RowParts.j1
      repeat' first
      | (with_reducible exact ih0 _ _ _ _)
      | (with_reducible exact ih1 _ _ _ _ _ _)
      | (with_reducible exact ih2 _ _ _ _ _ _)
      | (with_reducible exact ih3 _ _ _ _)
      | (with_reducible exact ih4 _ _ _ _ _)
      | (with_reducible exact ih5 _ _ _ _)
      | (with_reducible exact row_Cut.mono _ _ _)
      | (with_reducible exact row_Join.mono _ _)
      | (with_reducible exact row_Part.mono _ _ _)
      | (with_reducible exact runnellaw03_live.mono _)
      | (with_reducible exact runnelref03_Long.mono _ _)
      | (with_reducible exact runnelref03_Part.mono _ _ _)
      | (with_reducible exact runnelref03_Same.mono _ _ _)
      | (with_reducible exact LeO.refl _)
      | (with_reducible exact LeO.none _)
      | (with_reducible refine LeO.ite ?_ ?_)
      | (with_reducible refine LeO.bind ?_ (fun _ => ?_))
      | exact ih0 _ _ _ _
      | exact ih1 _ _ _ _ _ _
      | exact ih2 _ _ _ _ _ _
      | exact ih3 _ _ _ _
      | exact ih4 _ _ _ _ _
      | exact ih5 _ _ _ _
      | exact row_Cut.mono _ _ _
      | exact row_Join.mono _ _
      | exact row_Part.mono _ _ _
      | exact runnellaw03_live.mono _
      | exact runnelref03_Long.mono _ _
      | exact runnelref03_Part.mono _ _ _
      | exact runnelref03_Same.mono _ _ _
      | exact LeO.none _
      | refine LeO.ite ?_ ?_
      | refine LeO.bind ?_ (fun _ => ?_)
    · intro y0 y1 y2 y3 y4 y5
      unfold runnellaw03_RowParts.j2
      repeat' first
      | (with_reducible exact ih0 _ _ _ _)
      | (with_reducible exact ih1 _ _ _ _ _ _)
      | (with_reducible exact ih2 _ _ _ _ _ _)
      | (with_reducible exact ih3 _ _ _ _)
      | (with_reducible exact ih4 _ _ _ _ _)
      | (with_reducible exact ih5 _ _ _ _)
      | (with_reducible exact row_Cut.mono _ _ _)
      | (with_reducible exact row_Join.mono _ _)
      | (with_reducible exact row_Part.mono _ _ _)
      | (with_reducible exact runnellaw03_live.mono _)
      | (with_reducible exact runnelref03_Long.mono _ _)
      | (with_reducible exact runnelref03_Part.mono _ _ _)
      | (with_reducible exact runnelref03_Same.mono _ _ _)
      | (with_reducible exact LeO.refl _)
      | (with_reducible exact LeO.none _)
      | (with_reducible refine LeO.ite ?_ ?_)
      | (with_reducible refine LeO.bind ?_ (fun _ => ?_))
      | exact ih0 _ _ _ _
      | exact ih1 _ _ _ _ _ _
      | exact ih2 _ _ _ _ _ _
      | exact ih3 _ _ _ _
      | exact ih4 _ _ _ _ _
      | exact ih5 _ _ _ _
      | exact row_Cut.mono _ _ _
      | exact row_Join.mono _ _
      | exact row_Part.mono _ _ _
      | exact runnellaw03_live.mono _
      | exact runnelref03_Long.mono _ _
      | exact runnelref03_Part.mono _ _ _
      | exact runnelref03_Same.mono _ _ _
      | exact LeO.none _
      | refine LeO.ite ?_ ?_
      | refine LeO.bind ?_ (fun _ => ?_)
    · intro y0 y1 y2 y3
      unfold runnellaw03_RowParts.j3
      repeat' first
      | (with_reducible exact ih0 _ _ _ _)
      | (with_reducible exact ih1 _ _ _ _ _ _)
      | (with_reducible exact ih2 _ _ _ _ _ _)
      | (with_reducible exact ih3 _ _ _ _)
      | (with_reducible exact ih4 _ _ _ _ _)
      | (with_reducible exact ih5 _ _ _ _)
      | (with_reducible exact row_Cut.mono _ _ _)
      | (with_reducible exact row_Join.mono _ _)
      | (with_reducible exact row_Part.mono _ _ _)
      | (with_reducible exact runnellaw03_live.mono _)
      | (with_reducible exact runnelref03_Long.mono _ _)
      | (with_reducible exact runnelref03_Part.mono _ _ _)
      | (with_reducible exact runnelref03_Same.mono _ _ _)
      | (with_reducible exact LeO.refl _)
      | (with_reducible exact LeO.none _)
      | (with_reducible refine LeO.ite ?_ ?_)
      | (with_reducible refine LeO.bind ?_ (fun _ => ?_))
      | exact ih0 _ _ _ _
      | exact ih1 _ _ _ _ _ _
      | exact ih2 _ _ _ _ _ _
      | exact ih3 _ _ _ _
      | exact ih4 _ _ _ _ _
      | exact ih5 _ _ _ _
      | exact row_Cut.mono _ _ _
      | exact row_Join.mono _ _
      | exact row_Part.mono _ _ _
      | exact runnellaw03_live.mono _
      | exact runnelref03_Long.mono _ _
      | exact runnelref03_Part.mono _ _ _
      | exact runnelref03_Same.mono _ _ _
      | exact LeO.none _
      | refine LeO.ite ?_ ?_
      | refine LeO.bind ?_ (fun _ => ?_)
    · intro y0 y1 y2 y3 y4
      unfold runnellaw03_RowParts.l0
      repeat' first
      | (with_reducible exact ih0 _ _ _ _)
      | (with_reducible exact ih1 _ _ _ _ _ _)
      | (with_reducible exact ih2 _ _ _ _ _ _)
      | (with_reducible exact ih3 _ _ _ _)
      | (with_reducible exact ih4 _ _ _ _ _)
      | (with_reducible exact ih5 _ _ _ _)
      | (with_reducible exact row_Cut.mono _ _ _)
      | (with_reducible exact row_Join.mono _ _)
      | (with_reducible exact row_Part.mono _ _ _)
      | (with_reducible exact runnellaw03_live.mono _)
      | (with_reducible exact runnelref03_Long.mono _ _)
      | (with_reducible exact runnelref03_Part.mono _ _ _)
      | (with_reducible exact runnelref03_Same.mono _ _ _)
      | (with_reducible exact LeO.refl _)
      | (with_reducible exact LeO.none _)
      | (with_reducible refine LeO.ite ?_ ?_)
      | (with_reducible refine LeO.bind ?_ (fun _ => ?_))
      | exact ih0 _ _ _ _
      | exact ih1 _ _ _ _ _ _
      | exact ih2 _ _ _ _ _ _
      | exact ih3 _ _ _ _
      | exact ih4 _ _ _ _ _
      | exact ih5 _ _ _ _
      | exact row_Cut.mono _ _ _
      | exact row_Join.mono _ _
      | exact row_Part.mono _ _ _
      | exact runnellaw03_live.mono _
      | exact runnelref03_Long.mono _ _
      | exact runnelref03_Part.mono _ _ _
      | exact runnelref03_Same.mono _ _ _
      | exact LeO.none _
      | refine LeO.ite ?_ ?_
      | refine LeO.bind ?_ (fun _ => ?_)
    · intro y0 y1 y2 y3
      unfold runnellaw03_RowParts.l1
      repeat' first
      | (with_reducible exact ih0 _ _ _ _)
      | (with_reducible exact ih1 _ _ _ _ _ _)
      | (with_reducible exact ih2 _ _ _ _ _ _)
      | (with_reducible exact ih3 _ _ _ _)
      | (with_reducible exact ih4 _ _ _ _ _)
      | (with_reducible exact ih5 _ _ _ _)
      | (with_reducible exact row_Cut.mono _ _ _)
      | (with_reducible exact row_Join.mono _ _)
      | (with_reducible exact row_Part.mono _ _ _)
      | (with_reducible exact runnellaw03_live.mono _)
      | (with_reducible exact runnelref03_Long.mono _ _)
      | (with_reducible exact runnelref03_Part.mono _ _ _)
      | (with_reducible exact runnelref03_Same.mono _ _ _)
      | (with_reducible exact LeO.refl _)
      | (with_reducible exact LeO.none _)
      | (with_reducible refine LeO.ite ?_ ?_)
      | (with_reducible refine LeO.bind ?_ (fun _ => ?_))
      | exact ih0 _ _ _ _
      | exact ih1 _ _ _ _ _ _
      | exact ih2 _ _ _ _ _ _
      | exact ih3 _ _ _ _
      | exact ih4 _ _ _ _ _
      | exact ih5 _ _ _ _
      | exact row_Cut.mono _ _ _
      | exact row_Join.mono _ _
      | exact row_Part.mono _ _ _
      | exact runnellaw03_live.mono _
      | exact runnelref03_Long.mono _ _
      | exact runnelref03_Part.mono _ _ _
      | exact runnelref03_Same.mono _ _ _
      | exact LeO.none _
      | refine LeO.ite ?_ ?_
      | refine LeO.bind ?_ (fun _ => ?_)
theorem runnellaw03_RowParts.mono : ∀ a0 a1 a2 k, LeO (runnellaw03_RowParts.f k a0 a1 a2) (runnellaw03_RowParts.f (k + 1) a0 a1 a2) := by
  intro a0 a1 a2 k
  obtain ⟨ih0, ih1, ih2, ih3, ih4, ih5⟩ := runnellaw03_RowParts.mono_l k
  unfold runnellaw03_RowParts.f
  repeat' first
      | (with_reducible exact ih0 _ _ _ _)
      | (with_reducible exact ih1 _ _ _ _ _ _)
      | (with_reducible exact ih2 _ _ _ _ _ _)
      | (with_reducible exact ih3 _ _ _ _)
      | (with_reducible exact ih4 _ _ _ _ _)
      | (with_reducible exact ih5 _ _ _ _)
      | (with_reducible exact row_Cut.mono _ _ _)
      | (with_reducible exact row_Join.mono _ _)
      | (with_reducible exact row_Part.mono _ _ _)
      | (with_reducible exact runnellaw03_live.mono _)
      | (with_reducible exact runnelref03_Long.mono _ _)
      | (with_reducible exact runnelref03_Part.mono _ _ _)
      | (with_reducible exact runnelref03_Same.mono _ _ _)
      | (with_reducible exact LeO.refl _)
      | (with_reducible exact LeO.none _)
      | (with_reducible refine LeO.ite ?_ ?_)
      | (with_reducible refine LeO.bind ?_ (fun _ => ?_))
      | exact ih0 _ _ _ _
      | exact ih1 _ _ _ _ _ _
      | exact ih2 _ _ _ _ _ _
      | exact ih3 _ _ _ _
      | exact ih4 _ _ _ _ _
      | exact ih5 _ _ _ _
      | exact row_Cut.mono _ _ _
      | exact row_Join.mono _ _
      | exact row_Part.mono _ _ _
      | exact runnellaw03_live.mono _
      | exact runnelref03_Long.mono _ _
      | exact runnelref03_Part.mono _ _ _
      | exact runnelref03_Same.mono _ _ _
      | exact LeO.none _
      | refine LeO.ite ?_ ?_
      | refine LeO.bind ?_ (fun _ => ?_)
set_option maxHeartbeats 8000000 in
set_option maxRecDepth 100000 in
theorem runnellaw03_RowParts.calls (k : Nat) (A0 : Option Addr) (c0 : Nat) (l0 : List (S28)) (A1 : Option Addr) (c1 : Nat) (l1 : List Int) (a2 : Int) (r : Bool) (w : World) (hr0 : Kd.C k28 w A0 l0.length l0) (hc0 : l0.length ≤ c0) (hr1 : Kd.C (Kd.int .i64) w A1 l1.length l1) (hc1 : l1.length ≤ c1) (h : runnellaw03_RowParts.f k l0 l1 a2 = some r) :
    Calls Try.prog 6 #[.slice A0 l0.length c0, .slice A1 l1.length c1, .int .i64 a2] w fun e w' => e = .returned (.bool r) ∧ Below w.heap.size w w' := by
  have HR0 := Aside0.mk hr0
  have HC0 := Aside0.mk hc0
  clear hr0 hc0
  have HR1 := Aside0.mk hr1
  have HC1 := Aside0.mk hc1
  clear hr1 hc1
  have HB := Aside0.mk (Below.refl w.heap.size w)
  have H : ((runnelref03_Long.f k l0).bind fun t226 => (if t226 = true then (runnellaw03_RowParts.j0 k l0 l1 a2 true) else (runnellaw03_RowParts.j0 k l0 l1 a2 (decide ((l1.length : Int) > 50))))) = some r := h
  clear h
  have HC4 := Aside0.mk H
  clear H
  go_enter Try.func6, Try.ntmps6
  go_upto_region 1 with (fail)
  go_cut [23] (fun v23 wc => ∃ (kq : Nat) (x23_3 : Bool), v23 = .bool x23_3 ∧ Aside0 (runnellaw03_RowParts.j0 kq l0 l1 a2 x23_3 = some r) ∧ Aside0 (kq ≤ k) ∧ Aside0 (Below w.heap.size w wc))
  case first =>
    have H := HC4.out
    clear HC4
    replace H := Option.bind_eq_some_iff.mp H
    obtain ⟨t226, A50, H⟩ := H
    replace H : (if t226 = true then (runnellaw03_RowParts.j0 k l0 l1 a2 true) else (runnellaw03_RowParts.j0 k l0 l1 a2 (decide ((l1.length : Int) > 50)))) = some r := H
    have A5 := Aside0.mk A50
    clear A50
    by_cases c6 : t226 = true
    · subst c6
      have H1 : (runnellaw03_RowParts.j0 k l0 l1 a2 true) = some r := by rw [if_pos rfl] at H; exact H
      clear H
      have H := H1
      clear H1
      have H' := Aside0.mk H
      clear H
      go_wp2_with (first | ((with_reducible refine gate_callee (f := 9) rfl ?_); refine goesL_ (some 18) rfl rfl Try.func9 (by kernel_rfl) rfl #[.slice A0 l0.length c0] rfl (by (try simp only [List.map_toArray, List.map_cons, List.map_nil]); first | done | rfl | (simp only [List.length_drop, List.length_take]; rfl)) ?_; (with_reducible refine (runnelref03_Long.calls k _ _ l0 true _ ?side1 ?side2 A5.out).mono ?_); (case side1 => repeat (first | exact (Kd.C_below HR0.out HB.out) | (with_reducible refine Kd.C_alloc ?_ _) | (with_reducible refine Kd.C_drewN ?_ _) | (with_reducible refine Kd.C_drew ?_))); (case side2 => exact HC0.out); rintro e w' ⟨rfl, ⟨nd, rfl⟩⟩; refine ⟨_, rfl, ?_⟩))
      go_meet
      case rel => exact ⟨_, (true), (by first | rfl | (simp; done) | (simp [*]; done)), H', ⟨by first | omega | exact Nat.le_refl _⟩, ⟨by repeat (first | (with_reducible first | exact HB.out | apply below_alloc | apply pw_below_drewN | apply below_drew1) | exact HB.out)⟩⟩
    · replace c6 := Bool.eq_false_iff.mpr c6
      subst c6
      have H1 : (runnellaw03_RowParts.j0 k l0 l1 a2 (decide ((l1.length : Int) > 50))) = some r := by rw [if_neg (show ¬ (false = true) by decide)] at H; exact H
      clear H
      have H := H1
      clear H1
      have H' := Aside0.mk H
      clear H
      go_wp2_with (first | ((with_reducible refine gate_callee (f := 9) rfl ?_); refine goesL_ (some 18) rfl rfl Try.func9 (by kernel_rfl) rfl #[.slice A0 l0.length c0] rfl (by (try simp only [List.map_toArray, List.map_cons, List.map_nil]); first | done | rfl | (simp only [List.length_drop, List.length_take]; rfl)) ?_; (with_reducible refine (runnelref03_Long.calls k _ _ l0 false _ ?side1 ?side2 A5.out).mono ?_); (case side1 => repeat (first | exact (Kd.C_below HR0.out HB.out) | (with_reducible refine Kd.C_alloc ?_ _) | (with_reducible refine Kd.C_drewN ?_ _) | (with_reducible refine Kd.C_drew ?_))); (case side2 => exact HC0.out); rintro e w' ⟨rfl, ⟨nd, rfl⟩⟩; refine ⟨_, rfl, ?_⟩))
      go_meet
      case rel => exact ⟨_, (decide ((l1.length : Int) > 50)), (by first | rfl | (simp; done) | (simp [*]; done)), H', ⟨by first | omega | exact Nat.le_refl _⟩, ⟨by repeat (first | (with_reducible first | exact HB.out | apply below_alloc | apply pw_below_drewN | apply below_drew1) | exact HB.out)⟩⟩
  case rest =>
    clear HC4
    try clear c1
    try clear p2
    try clear c6
    obtain ⟨kq, x23_3, rfl, HA, HJ3, HB⟩ := hcut
    cases kq with
    | zero => exact absurd HA.out (by simp [runnellaw03_RowParts.j0])
    | succ kj3 =>
      have H := HA.out
      clear HA
      simp only [runnellaw03_RowParts.j0] at H
      by_cases c7 : x23_3 = true
      · subst c7
        have H1 : ((runnellaw03_live.f kj3).bind fun t227 => (some t227)) = some r := by rw [if_pos rfl] at H; exact H
        clear H
        have H := H1
        clear H1
        replace H := Option.bind_eq_some_iff.mp H
        obtain ⟨t227, A80, H⟩ := H
        replace H : (some t227) = some r := H
        have A8 := Aside0.mk A80
        clear A80
        obtain rfl := Option.some.inj H
        go_wp2_with (first | ((with_reducible refine gate_callee (f := 10) rfl ?_); refine goesL_ (some 24) rfl rfl Try.func10 (by kernel_rfl) rfl #[] rfl (by (try simp only [List.map_toArray, List.map_cons, List.map_nil]); first | done | rfl | (simp only [List.length_drop, List.length_take]; rfl)) ?_; (with_reducible refine (runnellaw03_live.calls kj3  t227 _ A8.out).mono ?_); rintro e w9 ⟨rfl, hb⟩; refine ⟨_, rfl, ?_⟩; have n0_ := Aside0.mk (below_step (by repeat (first | (with_reducible first | exact HB.out | apply below_alloc | apply pw_below_drewN | apply below_drew1) | exact HB.out)) hb); clear HB; have HB := n0_; clear n0_; (try clear hb); (try clear hb2); (try clear hk); (try clear hi)))
        go_ret
        exact ⟨by first | rfl | (simp [errW_none, errW_some] <;> rfl) | (simp [*, errW_none, errW_some] <;> rfl), by repeat (first | (with_reducible first | exact HB.out | apply below_alloc | apply pw_below_drewN | apply below_drew1) | exact HB.out)⟩
      · replace c7 := Bool.eq_false_iff.mpr c7
        subst c7
        have H1 : ((row_Part.f kj3 l0 l1).bind fun bt228 => ((runnelref03_Part.f kj3 l0 l1).bind fun bt232 => ((row_Cut.f kj3 l0 a2).bind fun bt236 => ((runnelref03_Same.f kj3 bt228.1 bt232.1).bind fun t243 => (if t243 = true then ((runnellaw03_code.f bt228.2).bind fun t244 => (runnellaw03_RowParts.j1 kj3 l0 a2 bt236.1 bt236.2.1 bt236.2.2 (t244 != bt232.2))) else (runnellaw03_RowParts.j1 kj3 l0 a2 bt236.1 bt236.2.1 bt236.2.2 true)))))) = some r := by rw [if_neg (show ¬ (false = true) by decide)] at H; exact H
        clear H
        have H := H1
        clear H1
        replace H := Option.bind_eq_some_iff.mp H
        obtain ⟨⟨t228, t229⟩, A100, H⟩ := H
        replace H : ((runnelref03_Part.f kj3 l0 l1).bind fun bt232 => ((row_Cut.f kj3 l0 a2).bind fun bt236 => ((runnelref03_Same.f kj3 t228 bt232.1).bind fun t243 => (if t243 = true then ((runnellaw03_code.f t229).bind fun t244 => (runnellaw03_RowParts.j1 kj3 l0 a2 bt236.1 bt236.2.1 bt236.2.2 (t244 != bt232.2))) else (runnellaw03_RowParts.j1 kj3 l0 a2 bt236.1 bt236.2.1 bt236.2.2 true))))) = some r := H
        have A10 := Aside0.mk A100
        clear A100
        replace H := Option.bind_eq_some_iff.mp H
        obtain ⟨⟨t232, t233⟩, A110, H⟩ := H
        replace H : ((row_Cut.f kj3 l0 a2).bind fun bt236 => ((runnelref03_Same.f kj3 t228 t232).bind fun t243 => (if t243 = true then ((runnellaw03_code.f t229).bind fun t244 => (runnellaw03_RowParts.j1 kj3 l0 a2 bt236.1 bt236.2.1 bt236.2.2 (t244 != t233))) else (runnellaw03_RowParts.j1 kj3 l0 a2 bt236.1 bt236.2.1 bt236.2.2 true)))) = some r := H
        have A11 := Aside0.mk A110
        clear A110
        replace H := Option.bind_eq_some_iff.mp H
        obtain ⟨⟨t236, t237, t238⟩, A120, H⟩ := H
        replace H : ((runnelref03_Same.f kj3 t228 t232).bind fun t243 => (if t243 = true then ((runnellaw03_code.f t229).bind fun t244 => (runnellaw03_RowParts.j1 kj3 l0 a2 t236 t237 t238 (t244 != t233))) else (runnellaw03_RowParts.j1 kj3 l0 a2 t236 t237 t238 true))) = some r := H
        have A12 := Aside0.mk A120
        clear A120
        have HC13 := Aside0.mk H
        clear H
        go_upto_region 6 with (first | ((with_reducible refine gate_callee (f := 22) rfl ?_); refine goesL_ (some 28) rfl rfl Try.func22 (by kernel_rfl) rfl #[.slice A0 l0.length c0, .slice A1 l1.length c1] rfl (by (try simp only [List.map_toArray, List.map_cons, List.map_nil]); first | done | rfl | (simp only [List.length_drop, List.length_take]; rfl)) ?_; (with_reducible refine (row_Part.calls kj3 _ _ l0 _ _ l1 t228 t229 _ ?side1 ?side2 ?side3 ?side4 A10.out).mono ?_); (case side1 => repeat (first | exact (Kd.C_below HR0.out HB.out) | (with_reducible refine Kd.C_alloc ?_ _) | (with_reducible refine Kd.C_drewN ?_ _) | (with_reducible refine Kd.C_drew ?_))); (case side2 => exact HC0.out); (case side3 => repeat (first | exact (Kd.C_below HR1.out HB.out) | (with_reducible refine Kd.C_alloc ?_ _) | (with_reducible refine Kd.C_drewN ?_ _) | (with_reducible refine Kd.C_drew ?_))); (case side4 => exact HC1.out); rintro e w14 ⟨v230, rfl, ho0, hb⟩; refine ⟨_, rfl, ?_⟩; have n0_ := Aside0.mk (Kd.R_lower ho0 (below_size (by repeat (first | (with_reducible first | exact HB.out | apply below_alloc | apply pw_below_drewN | apply below_drew1) | exact HB.out)))); have n1_ := Aside0.mk (below_step (by repeat (first | (with_reducible first | exact HB.out | apply below_alloc | apply pw_below_drewN | apply below_drew1) | exact HB.out)) hb); clear HB; have HO231 := n0_; have HB := n1_; clear n0_ n1_; (try clear hb); (try clear hb2); (try clear hk); (try clear hi); (try clear ho0)) | ((with_reducible refine gate_callee (f := 23) rfl ?_); refine goesL_ (some 34) rfl rfl Try.func23 (by kernel_rfl) rfl #[.slice A0 l0.length c0, .slice A1 l1.length c1] rfl (by (try simp only [List.map_toArray, List.map_cons, List.map_nil]); first | done | rfl | (simp only [List.length_drop, List.length_take]; rfl)) ?_; (with_reducible refine (runnelref03_Part.calls kj3 _ _ l0 _ _ l1 t232 t233 _ ?side1 ?side2 ?side3 ?side4 A11.out).mono ?_); (case side1 => repeat (first | exact (Kd.C_below HR0.out HB.out) | (with_reducible refine Kd.C_alloc ?_ _) | (with_reducible refine Kd.C_drewN ?_ _) | (with_reducible refine Kd.C_drew ?_))); (case side2 => exact HC0.out); (case side3 => repeat (first | exact (Kd.C_below HR1.out HB.out) | (with_reducible refine Kd.C_alloc ?_ _) | (with_reducible refine Kd.C_drewN ?_ _) | (with_reducible refine Kd.C_drew ?_))); (case side4 => exact HC1.out); rintro e w15 ⟨v234, rfl, ho0, hb⟩; refine ⟨_, rfl, ?_⟩; have n0_ := Aside0.mk (Kd.R_elder' (by (with_reducible repeat (first | apply Kd.R_alloc | apply Kd.R_drewN | apply Kd.R_drew)); exact HO231.out) (Kd.R_base ho0) hb); have n1_ := Aside0.mk (Kd.R_lower (Kd.R_new' ho0 (Kd.R_lt (by (with_reducible repeat (first | apply Kd.R_alloc | apply Kd.R_drewN | apply Kd.R_drew)); exact HO231.out))) (below_size (by repeat (first | (with_reducible first | exact HB.out | apply below_alloc | apply pw_below_drewN | apply below_drew1) | exact HB.out)))); have n2_ := Aside0.mk (below_step (by repeat (first | (with_reducible first | exact HB.out | apply below_alloc | apply pw_below_drewN | apply below_drew1) | exact HB.out)) hb); clear HO231; clear HB; have HO231 := n0_; have HO235 := n1_; have HB := n2_; clear n0_ n1_ n2_; (try clear hb); (try clear hb2); (try clear hk); (try clear hi); (try clear ho0)) | ((with_reducible refine gate_callee (f := 24) rfl ?_); refine goesL_ (some 40) rfl rfl Try.func24 (by kernel_rfl) rfl #[.slice A0 l0.length c0, .int .i64 a2] rfl (by (try simp only [List.map_toArray, List.map_cons, List.map_nil]); first | done | rfl | (simp only [List.length_drop, List.length_take]; rfl)) ?_; (with_reducible refine (row_Cut.calls kj3 _ _ l0 a2 t236 t237 t238 _ ?side1 ?side2 A12.out).mono ?_); (case side1 => repeat (first | exact (Kd.C_below HR0.out HB.out) | (with_reducible refine Kd.C_alloc ?_ _) | (with_reducible refine Kd.C_drewN ?_ _) | (with_reducible refine Kd.C_drew ?_))); (case side2 => exact HC0.out); rintro e w16 ⟨v239, v241, rfl, ho0, ho1, hb⟩; refine ⟨_, rfl, ?_⟩; have n0_ := Aside0.mk (Kd.R_mono (Kd.R_told (Kd.R_told (Kd.R_old (by (with_reducible repeat (first | apply Kd.R_alloc | apply Kd.R_drewN | apply Kd.R_drew)); exact HO231.out) hb) (Kd.R_base ho0)) (Kd.R_base ho1)) (fun _ h_ => h_.1)); have n1_ := Aside0.mk (Kd.R_mono (Kd.R_told (Kd.R_told (Kd.R_old (by (with_reducible repeat (first | apply Kd.R_alloc | apply Kd.R_drewN | apply Kd.R_drew)); exact HO235.out) hb) (Kd.R_base ho0)) (Kd.R_base ho1)) (fun _ h_ => h_.1)); have n2_ := Aside0.mk (Kd.R_lower (Kd.R_new' (Kd.R_new' ho0 (Kd.R_lt (by (with_reducible repeat (first | apply Kd.R_alloc | apply Kd.R_drewN | apply Kd.R_drew)); exact HO231.out))) (Kd.R_lt (by (with_reducible repeat (first | apply Kd.R_alloc | apply Kd.R_drewN | apply Kd.R_drew)); exact HO235.out))) (below_size (by repeat (first | (with_reducible first | exact HB.out | apply below_alloc | apply pw_below_drewN | apply below_drew1) | exact HB.out)))); have n3_ := Aside0.mk (Kd.R_lower (Kd.R_new' (Kd.R_new' ho1 (Kd.R_lt (by (with_reducible repeat (first | apply Kd.R_alloc | apply Kd.R_drewN | apply Kd.R_drew)); exact HO231.out))) (Kd.R_lt (by (with_reducible repeat (first | apply Kd.R_alloc | apply Kd.R_drewN | apply Kd.R_drew)); exact HO235.out))) (below_size (by repeat (first | (with_reducible first | exact HB.out | apply below_alloc | apply pw_below_drewN | apply below_drew1) | exact HB.out)))); have n4_ := Aside0.mk (below_step (by repeat (first | (with_reducible first | exact HB.out | apply below_alloc | apply pw_below_drewN | apply below_drew1) | exact HB.out)) hb); clear HO231; clear HO235; clear HB; have HO231 := n0_; have HO235 := n1_; have HO240 := n2_; have HO242 := n3_; have HB := n4_; clear n0_ n1_ n2_ n3_ n4_; (try clear hb); (try clear hb2); (try clear hk); (try clear hi); (try clear ho0); (try clear ho1)))
        (try simp only [Act.put, List.setIfInBounds_toArray, List.set_cons_zero, List.set_cons_succ])
        go_cut [53] (fun v53 wc => ∃ (kq : Nat) (x53_12 : Bool), v53 = .bool x53_12 ∧ Aside0 (runnellaw03_RowParts.j1 kq l0 a2 t236 t237 t238 x53_12 = some r) ∧ Aside0 (kq ≤ kj3) ∧ Aside0 (Kd.R k28 28 wc w.heap.size (fun k_ => some k_ ≠ (v241 : Value).ownBlock) v239 t236) ∧ Aside0 (Kd.R k28 28 wc w.heap.size (fun k_ => some k_ ≠ (v239 : Value).ownBlock) v241 t237) ∧ Aside0 (Below w.heap.size w wc))
        case first =>
          have H := HC13.out
          clear HC13
          replace H := Option.bind_eq_some_iff.mp H
          obtain ⟨t243, A170, H⟩ := H
          replace H : (if t243 = true then ((runnellaw03_code.f t229).bind fun t244 => (runnellaw03_RowParts.j1 kj3 l0 a2 t236 t237 t238 (t244 != t233))) else (runnellaw03_RowParts.j1 kj3 l0 a2 t236 t237 t238 true)) = some r := H
          have A17 := Aside0.mk A170
          clear A170
          by_cases c18 : t243 = true
          · subst c18
            have H1 : ((runnellaw03_code.f t229).bind fun t244 => (runnellaw03_RowParts.j1 kj3 l0 a2 t236 t237 t238 (t244 != t233))) = some r := by rw [if_pos rfl] at H; exact H
            clear H
            have H := H1
            clear H1
            replace H := Option.bind_eq_some_iff.mp H
            obtain ⟨t244, A190, H⟩ := H
            replace H : (runnellaw03_RowParts.j1 kj3 l0 a2 t236 t237 t238 (t244 != t233)) = some r := H
            have A19 := Aside0.mk A190
            clear A190
            have H' := Aside0.mk H
            clear H
            obtain ⟨Ao20, co20, eo20⟩ := Kd.R_slice HO231.out
            subst eo20
            obtain ⟨Ao21, co21, eo21⟩ := Kd.R_slice HO235.out
            subst eo21
            go_wp2_with (first | ((with_reducible refine gate_callee (f := 25) rfl ?_); refine goesL_ (some 46) rfl rfl Try.func25 (by kernel_rfl) rfl #[.slice Ao20 t228.length co20, .slice Ao21 t232.length co21] rfl (by (try simp only [List.map_toArray, List.map_cons, List.map_nil]); first | done | rfl | (simp only [List.length_drop, List.length_take]; rfl)) ?_; (with_reducible refine (runnelref03_Same.calls kj3 _ _ t228 _ _ t232 true _ ?side1 ?side2 ?side3 ?side4 A17.out).mono ?_); (case side1 => repeat (first | exact (Kd.R_reads' HO231.out).2.2 | (with_reducible refine Kd.C_alloc ?_ _) | (with_reducible refine Kd.C_drewN ?_ _) | (with_reducible refine Kd.C_drew ?_))); (case side2 => exact (Kd.R_reads' HO231.out).2.1); (case side3 => repeat (first | exact (Kd.R_reads' HO235.out).2.2 | (with_reducible refine Kd.C_alloc ?_ _) | (with_reducible refine Kd.C_drewN ?_ _) | (with_reducible refine Kd.C_drew ?_))); (case side4 => exact (Kd.R_reads' HO235.out).2.1); rintro e w22 ⟨rfl, hb⟩; refine ⟨_, rfl, ?_⟩; have n0_ := Aside0.mk (Kd.R_below (by (with_reducible repeat (first | apply Kd.R_alloc | apply Kd.R_drewN | apply Kd.R_drew)); exact HO231.out) hb); have n1_ := Aside0.mk (Kd.R_below (by (with_reducible repeat (first | apply Kd.R_alloc | apply Kd.R_drewN | apply Kd.R_drew)); exact HO235.out) hb); have n2_ := Aside0.mk (Kd.R_below (by (with_reducible repeat (first | apply Kd.R_alloc | apply Kd.R_drewN | apply Kd.R_drew)); exact HO240.out) hb); have n3_ := Aside0.mk (Kd.R_below (by (with_reducible repeat (first | apply Kd.R_alloc | apply Kd.R_drewN | apply Kd.R_drew)); exact HO242.out) hb); have n4_ := Aside0.mk (below_step (by repeat (first | (with_reducible first | exact HB.out | apply below_alloc | apply pw_below_drewN | apply below_drew1) | exact HB.out)) hb); clear HO231; clear HO235; clear HO240; clear HO242; clear HB; have HO231 := n0_; have HO235 := n1_; have HO240 := n2_; have HO242 := n3_; have HB := n4_; clear n0_ n1_ n2_ n3_ n4_; (try clear hb); (try clear hb2); (try clear hk); (try clear hi)) | (go_at_call 17; (with_reducible refine (runnellaw03_code.calls t229 t244 _ A19.out).mono ?_); rintro e w' ⟨rfl, ⟨nd, rfl⟩⟩))
            go_meet
            case rel => exact ⟨_, ((t244 != t233)), (by first | rfl | (simp; done) | (simp [*]; done)), H', ⟨by have := HJ3.out; first | omega | exact Nat.le_refl _⟩, ⟨by (with_reducible repeat (first | apply Kd.R_alloc | apply Kd.R_drewN | apply Kd.R_drew)); exact Kd.R_mono HO240.out (fun _ hk => by first | exact hk | exact hk.1 | exact hk.1.1 | exact hk.1.1.1 | exact hk.1.1.1.1 | exact hk.2 | exact hk.1.2)⟩, ⟨by (with_reducible repeat (first | apply Kd.R_alloc | apply Kd.R_drewN | apply Kd.R_drew)); exact Kd.R_mono HO242.out (fun _ hk => by first | exact hk | exact hk.1 | exact hk.1.1 | exact hk.1.1.1 | exact hk.1.1.1.1 | exact hk.2 | exact hk.1.2)⟩, ⟨by repeat (first | (with_reducible first | exact HB.out | apply below_alloc | apply pw_below_drewN | apply below_drew1) | exact HB.out)⟩⟩
          · replace c18 := Bool.eq_false_iff.mpr c18
            subst c18
            have H1 : (runnellaw03_RowParts.j1 kj3 l0 a2 t236 t237 t238 true) = some r := by rw [if_neg (show ¬ (false = true) by decide)] at H; exact H
            clear H
            have H := H1
            clear H1
            have H' := Aside0.mk H
            clear H
            obtain ⟨Ao23, co23, eo23⟩ := Kd.R_slice HO231.out
            subst eo23
            obtain ⟨Ao24, co24, eo24⟩ := Kd.R_slice HO235.out
            subst eo24
            go_wp2_with (first | ((with_reducible refine gate_callee (f := 25) rfl ?_); refine goesL_ (some 46) rfl rfl Try.func25 (by kernel_rfl) rfl #[.slice Ao23 t228.length co23, .slice Ao24 t232.length co24] rfl (by (try simp only [List.map_toArray, List.map_cons, List.map_nil]); first | done | rfl | (simp only [List.length_drop, List.length_take]; rfl)) ?_; (with_reducible refine (runnelref03_Same.calls kj3 _ _ t228 _ _ t232 false _ ?side1 ?side2 ?side3 ?side4 A17.out).mono ?_); (case side1 => repeat (first | exact (Kd.R_reads' HO231.out).2.2 | (with_reducible refine Kd.C_alloc ?_ _) | (with_reducible refine Kd.C_drewN ?_ _) | (with_reducible refine Kd.C_drew ?_))); (case side2 => exact (Kd.R_reads' HO231.out).2.1); (case side3 => repeat (first | exact (Kd.R_reads' HO235.out).2.2 | (with_reducible refine Kd.C_alloc ?_ _) | (with_reducible refine Kd.C_drewN ?_ _) | (with_reducible refine Kd.C_drew ?_))); (case side4 => exact (Kd.R_reads' HO235.out).2.1); rintro e w25 ⟨rfl, hb⟩; refine ⟨_, rfl, ?_⟩; have n0_ := Aside0.mk (Kd.R_below (by (with_reducible repeat (first | apply Kd.R_alloc | apply Kd.R_drewN | apply Kd.R_drew)); exact HO231.out) hb); have n1_ := Aside0.mk (Kd.R_below (by (with_reducible repeat (first | apply Kd.R_alloc | apply Kd.R_drewN | apply Kd.R_drew)); exact HO235.out) hb); have n2_ := Aside0.mk (Kd.R_below (by (with_reducible repeat (first | apply Kd.R_alloc | apply Kd.R_drewN | apply Kd.R_drew)); exact HO240.out) hb); have n3_ := Aside0.mk (Kd.R_below (by (with_reducible repeat (first | apply Kd.R_alloc | apply Kd.R_drewN | apply Kd.R_drew)); exact HO242.out) hb); have n4_ := Aside0.mk (below_step (by repeat (first | (with_reducible first | exact HB.out | apply below_alloc | apply pw_below_drewN | apply below_drew1) | exact HB.out)) hb); clear HO231; clear HO235; clear HO240; clear HO242; clear HB; have HO231 := n0_; have HO235 := n1_; have HO240 := n2_; have HO242 := n3_; have HB := n4_; clear n0_ n1_ n2_ n3_ n4_; (try clear hb); (try clear hb2); (try clear hk); (try clear hi)))
            go_meet
            case rel => exact ⟨_, (true), (by first | rfl | (simp; done) | (simp [*]; done)), H', ⟨by have := HJ3.out; first | omega | exact Nat.le_refl _⟩, ⟨by (with_reducible repeat (first | apply Kd.R_alloc | apply Kd.R_drewN | apply Kd.R_drew)); exact Kd.R_mono HO240.out (fun _ hk => by first | exact hk | exact hk.1 | exact hk.1.1 | exact hk.1.1.1 | exact hk.1.1.1.1 | exact hk.2 | exact hk.1.2)⟩, ⟨by (with_reducible repeat (first | apply Kd.R_alloc | apply Kd.R_drewN | apply Kd.R_drew)); exact Kd.R_mono HO242.out (fun _ hk => by first | exact hk | exact hk.1 | exact hk.1.1 | exact hk.1.1.1 | exact hk.1.1.1.1 | exact hk.2 | exact hk.1.2)⟩, ⟨by repeat (first | (with_reducible first | exact HB.out | apply below_alloc | apply pw_below_drewN | apply below_drew1) | exact HB.out)⟩⟩
        case rest =>
          clear HC13
          try clear c1
          try clear c2
          try clear p2
          try clear c6
          try clear c7
          try clear c9
          try clear c10
          try clear c18
          try clear c22
          try clear c23
          try clear c24
          try clear c25
          try clear p2
          obtain ⟨kq, x53_12, rfl, HA, HJ12, HO_11, HO_12, HB⟩ := hcut
          cases kq with
          | zero => exact absurd HA.out (by simp [runnellaw03_RowParts.j1])
          | succ kj12 =>
            have H := HA.out
            clear HA
            simp only [runnellaw03_RowParts.j1] at H
            by_cases c26 : x53_12 = true
            · subst c26
              have H1 : (some false) = some r := by rw [if_pos rfl] at H; exact H
              clear H
              have H := H1
              clear H1
              obtain rfl := Option.some.inj H
              go_wp2
              go_ret
              exact ⟨by first | rfl | (simp [errW_none, errW_some] <;> rfl) | (simp [*, errW_none, errW_some] <;> rfl), by repeat (first | (with_reducible first | exact HB.out | apply below_alloc | apply pw_below_drewN | apply below_drew1) | exact HB.out)⟩
            · replace c26 := Bool.eq_false_iff.mpr c26
              subst c26
              have H1 : (if a2 < 0 then (runnellaw03_RowParts.j2 kj12 l0 a2 t236 t237 t238 true) else (runnellaw03_RowParts.j2 kj12 l0 a2 t236 t237 t238 (decide (a2 > (l0.length : Int))))) = some r := by rw [if_neg (show ¬ (false = true) by decide)] at H; exact H
              clear H
              have H := H1
              clear H1
              have HC27 := Aside0.mk H
              clear H
              go_upto_region 8 with (fail)
              go_cut [61] (fun v61 wc => ∃ (kq : Nat) (x61_26 : Bool), v61 = .bool x61_26 ∧ Aside0 (runnellaw03_RowParts.j2 kq l0 a2 t236 t237 t238 x61_26 = some r) ∧ Aside0 (kq ≤ kj12) ∧ Aside0 (Kd.R k28 28 wc w.heap.size (fun k_ => some k_ ≠ (v241 : Value).ownBlock) v239 t236) ∧ Aside0 (Kd.R k28 28 wc w.heap.size (fun k_ => some k_ ≠ (v239 : Value).ownBlock) v241 t237) ∧ Aside0 (Below w.heap.size w wc))
              case first =>
                have H := HC27.out
                clear HC27
                by_cases c28 : a2 < 0
                · rw [if_pos c28] at H
                  have c28b0 : decide (a2 < 0) = true := decide_eq_true c28
                  clear c28
                  (first | rw [c28b0] | (simp only [i64_w, i32_w]; rw [c28b0]) | skip)
                  have H' := Aside0.mk H
                  clear H
                  go_wp2
                  go_meet
                  case rel => exact ⟨_, (true), (by first | rfl | (simp; done) | (simp [*]; done)), H', ⟨by have := HJ3.out; have := HJ12.out; first | omega | exact Nat.le_refl _⟩, ⟨by (with_reducible repeat (first | apply Kd.R_alloc | apply Kd.R_drewN | apply Kd.R_drew)); exact HO_11.out⟩, ⟨by (with_reducible repeat (first | apply Kd.R_alloc | apply Kd.R_drewN | apply Kd.R_drew)); exact HO_12.out⟩, ⟨by repeat (first | (with_reducible first | exact HB.out | apply below_alloc | apply pw_below_drewN | apply below_drew1) | exact HB.out)⟩⟩
                · rw [if_neg c28] at H
                  have c28b0 : decide (a2 < 0) = false := decide_eq_false c28
                  clear c28
                  (first | rw [c28b0] | (simp only [i64_w, i32_w]; rw [c28b0]) | skip)
                  have H' := Aside0.mk H
                  clear H
                  go_wp2
                  go_meet
                  case rel => exact ⟨_, (decide (a2 > (l0.length : Int))), (by first | rfl | (simp; done) | (simp [*]; done)), H', ⟨by have := HJ3.out; have := HJ12.out; first | omega | exact Nat.le_refl _⟩, ⟨by (with_reducible repeat (first | apply Kd.R_alloc | apply Kd.R_drewN | apply Kd.R_drew)); exact HO_11.out⟩, ⟨by (with_reducible repeat (first | apply Kd.R_alloc | apply Kd.R_drewN | apply Kd.R_drew)); exact HO_12.out⟩, ⟨by repeat (first | (with_reducible first | exact HB.out | apply below_alloc | apply pw_below_drewN | apply below_drew1) | exact HB.out)⟩⟩
              case rest =>
                clear HC27
                try clear c1
                try clear c2
                try clear p2
                try clear c6
                try clear c7
                try clear c9
                try clear c10
                try clear c18
                try clear c22
                try clear c23
                try clear c24
                try clear c25
                try clear c26
                try clear c28
                try clear c28b0
                try clear p2
                obtain ⟨kq, x61_26, rfl, HA, HJ26, HO_11, HO_12, HB⟩ := hcut
                cases kq with
                | zero => exact absurd HA.out (by simp [runnellaw03_RowParts.j2])
                | succ kj26 =>
                  have H := HA.out
                  clear HA
                  simp only [runnellaw03_RowParts.j2] at H
                  by_cases c29 : x61_26 = true
                  · subst c29
                    have H1 : (if (wrap64 ((t236.length : Int) + (t237.length : Int))) = 0 then ((runnellaw03_code.f t238).bind fun t245 => (if t245 = 9 then ((runnellaw03_live.f kj26).bind fun t246 => (some t246)) else (some false))) else (some false)) = some r := by rw [if_pos rfl] at H; exact H
                    clear H
                    have H := H1
                    clear H1
                    by_cases c30 : (wrap64 ((t236.length : Int) + (t237.length : Int))) = 0
                    · rw [if_pos c30] at H
                      have c30b0 : ((wrap64 ((t236.length : Int) + (t237.length : Int))) == 0) = true := beq_iff_eq.mpr c30
                      have c30b1 : ((wrap64 ((t236.length : Int) + (t237.length : Int))) != 0) = false := bne_eq_false_iff_eq.mpr c30
                      clear c30
                      replace H := Option.bind_eq_some_iff.mp H
                      obtain ⟨t245, A310, H⟩ := H
                      replace H : (if t245 = 9 then ((runnellaw03_live.f kj26).bind fun t246 => (some t246)) else (some false)) = some r := H
                      have A31 := Aside0.mk A310
                      clear A310
                      by_cases c32 : t245 = 9
                      · rw [if_pos c32] at H
                        have c32b0 : (t245 == 9) = true := beq_iff_eq.mpr c32
                        have c32b1 : (t245 != 9) = false := bne_eq_false_iff_eq.mpr c32
                        clear c32
                        replace H := Option.bind_eq_some_iff.mp H
                        obtain ⟨t246, A330, H⟩ := H
                        replace H : (some t246) = some r := H
                        have A33 := Aside0.mk A330
                        clear A330
                        obtain rfl := Option.some.inj H
                        obtain ⟨Ao34, co34, eo34⟩ := Kd.R_slice HO_11.out
                        subst eo34
                        obtain ⟨Ao35, co35, eo35⟩ := Kd.R_slice HO_12.out
                        subst eo35
                        go_wp2_with (first | (go_at_call 17; (with_reducible refine (runnellaw03_code.calls t238 t245 _ A31.out).mono ?_); rintro e w' ⟨rfl, ⟨nd, rfl⟩⟩) | (go_at_call 10; (with_reducible refine (runnellaw03_live.calls kj26  t246 _ A33.out).mono ?_); rintro e w36 ⟨rfl, hb⟩; have n0_ := Aside0.mk (Kd.R_below (by (with_reducible repeat (first | apply Kd.R_alloc | apply Kd.R_drewN | apply Kd.R_drew)); exact HO_11.out) hb); have n1_ := Aside0.mk (Kd.R_below (by (with_reducible repeat (first | apply Kd.R_alloc | apply Kd.R_drewN | apply Kd.R_drew)); exact HO_12.out) hb); have n2_ := Aside0.mk (below_step (by repeat (first | (with_reducible first | exact HB.out | apply below_alloc | apply pw_below_drewN | apply below_drew1) | exact HB.out)) hb); clear HO_11; clear HO_12; clear HB; have HO_11 := n0_; have HO_12 := n1_; have HB := n2_; clear n0_ n1_ n2_; (try clear hb); (try clear hb2); (try clear hk); (try clear hi)))
                        go_ret
                        exact ⟨by first | rfl | (simp [errW_none, errW_some] <;> rfl) | (simp [*, errW_none, errW_some] <;> rfl), by repeat (first | (with_reducible first | exact HB.out | apply below_alloc | apply pw_below_drewN | apply below_drew1) | exact HB.out)⟩
                      · rw [if_neg c32] at H
                        have c32b0 : (t245 == 9) = false := beq_eq_false_iff_ne.mpr c32
                        have c32b1 : (t245 != 9) = true := bne_iff_ne.mpr c32
                        obtain rfl := Option.some.inj H
                        obtain ⟨Ao37, co37, eo37⟩ := Kd.R_slice HO_11.out
                        subst eo37
                        obtain ⟨Ao38, co38, eo38⟩ := Kd.R_slice HO_12.out
                        subst eo38
                        go_wp2_with (first | (go_at_call 17; (with_reducible refine (runnellaw03_code.calls t238 t245 _ A31.out).mono ?_); rintro e w' ⟨rfl, ⟨nd, rfl⟩⟩))
                        go_ret
                        exact ⟨by first | rfl | (simp [errW_none, errW_some] <;> rfl) | (simp [*, errW_none, errW_some] <;> rfl), by repeat (first | (with_reducible first | exact HB.out | apply below_alloc | apply pw_below_drewN | apply below_drew1) | exact HB.out)⟩
                    · rw [if_neg c30] at H
                      have c30b0 : ((wrap64 ((t236.length : Int) + (t237.length : Int))) == 0) = false := beq_eq_false_iff_ne.mpr c30
                      have c30b1 : ((wrap64 ((t236.length : Int) + (t237.length : Int))) != 0) = true := bne_iff_ne.mpr c30
                      obtain rfl := Option.some.inj H
                      obtain ⟨Ao39, co39, eo39⟩ := Kd.R_slice HO_11.out
                      subst eo39
                      obtain ⟨Ao40, co40, eo40⟩ := Kd.R_slice HO_12.out
                      subst eo40
                      go_wp2
                      go_ret
                      exact ⟨by first | rfl | (simp [errW_none, errW_some] <;> rfl) | (simp [*, errW_none, errW_some] <;> rfl), by repeat (first | (with_reducible first | exact HB.out | apply below_alloc | apply pw_below_drewN | apply below_drew1) | exact HB.out)⟩
                  · replace c29 := Bool.eq_false_iff.mpr c29
                    subst c29
                    have H1 : (if 0 ≤ a2 then (if a2 ≤ (l0.length : Int) then ((runnelref03_Same.f kj26 t236 (l0.take (a2 : Int).toNat)).bind fun t251 => (if t251 = true then ((runnelref03_Same.f kj26 t237 (l0.drop (a2 : Int).toNat)).bind fun t256 => (if t256 = true then ((runnellaw03_code.f t238).bind fun t257 => (if t257 = 0 then ((row_Join.f kj26 (([t236, t237] : List (List (S28))))).bind fun t261 => ((runnelref03_Same.f kj26 t261 l0).bind fun t264 => (runnellaw03_RowParts.j3 kj26 l0 t236 t237 (!t264)))) else (runnellaw03_RowParts.j3 kj26 l0 t236 t237 true))) else (runnellaw03_RowParts.j3 kj26 l0 t236 t237 true))) else (runnellaw03_RowParts.j3 kj26 l0 t236 t237 true))) else (none)) else (none)) = some r := by rw [if_neg (show ¬ (false = true) by decide)] at H; exact H
                    clear H
                    have H := H1
                    clear H1
                    have HC41 := Aside0.mk H
                    clear H
                    go_upto_region 10 with (fail)
                    go_cut [103] (fun v103 wc => ∃ (kq : Nat) (x103_40 : Bool), v103 = .bool x103_40 ∧ Aside0 (runnellaw03_RowParts.j3 kq l0 t236 t237 x103_40 = some r) ∧ Aside0 (kq ≤ kj26) ∧ Aside0 (Kd.R k28 28 wc w.heap.size (fun k_ => some k_ ≠ (v241 : Value).ownBlock) v239 t236) ∧ Aside0 (Kd.R k28 28 wc w.heap.size (fun k_ => some k_ ≠ (v239 : Value).ownBlock) v241 t237) ∧ Aside0 (Below w.heap.size w wc))
                    case first =>
                      have H := HC41.out
                      clear HC41
                      by_cases c42 : 0 ≤ a2
                      · rw [if_pos c42] at H
                        have c42b0 := eq_true c42
                        have c42b1 : decide (0 ≤ a2) = true := decide_eq_true c42
                        clear c42
                        by_cases c43 : a2 ≤ (l0.length : Int)
                        · rw [if_pos c43] at H
                          have c43b0 := eq_true c43
                          have c43b1 : decide (a2 ≤ (l0.length : Int)) = true := decide_eq_true c43
                          clear c43
                          obtain ⟨y247, hy247⟩ : ∃ y_ : List (S28), y_ = (l0.take (a2 : Int).toNat) := ⟨_, rfl⟩
                          replace H : ((runnelref03_Same.f kj26 t236 y247).bind fun t251 => (if t251 = true then ((runnelref03_Same.f kj26 t237 (l0.drop (a2 : Int).toNat)).bind fun t256 => (if t256 = true then ((runnellaw03_code.f t238).bind fun t257 => (if t257 = 0 then ((row_Join.f kj26 (([t236, t237] : List (List (S28))))).bind fun t261 => ((runnelref03_Same.f kj26 t261 l0).bind fun t264 => (runnellaw03_RowParts.j3 kj26 l0 t236 t237 (!t264)))) else (runnellaw03_RowParts.j3 kj26 l0 t236 t237 true))) else (runnellaw03_RowParts.j3 kj26 l0 t236 t237 true))) else (runnellaw03_RowParts.j3 kj26 l0 t236 t237 true))) = some r := by first | (rw [hy247]; with_reducible exact H) | (have H2_ := (Option.bind_some _ _).symm.trans H; rw [hy247]; with_reducible exact H2_) | (have H2_ := (Option.bind_some _ _).symm.trans H; with_reducible exact H2_) | with_reducible exact H | (rw [hy247]; exact H) | exact H
                          have Ny247 := Aside0.mk hy247
                          clear hy247
                          replace H := Option.bind_eq_some_iff.mp H
                          obtain ⟨t251, A440, H⟩ := H
                          replace H : (if t251 = true then ((runnelref03_Same.f kj26 t237 (l0.drop (a2 : Int).toNat)).bind fun t256 => (if t256 = true then ((runnellaw03_code.f t238).bind fun t257 => (if t257 = 0 then ((row_Join.f kj26 (([t236, t237] : List (List (S28))))).bind fun t261 => ((runnelref03_Same.f kj26 t261 l0).bind fun t264 => (runnellaw03_RowParts.j3 kj26 l0 t236 t237 (!t264)))) else (runnellaw03_RowParts.j3 kj26 l0 t236 t237 true))) else (runnellaw03_RowParts.j3 kj26 l0 t236 t237 true))) else (runnellaw03_RowParts.j3 kj26 l0 t236 t237 true)) = some r := H
                          have A44 := Aside0.mk A440
                          clear A440
                          by_cases c45 : t251 = true
                          · subst c45
                            have H1 : ((runnelref03_Same.f kj26 t237 (l0.drop (a2 : Int).toNat)).bind fun t256 => (if t256 = true then ((runnellaw03_code.f t238).bind fun t257 => (if t257 = 0 then ((row_Join.f kj26 (([t236, t237] : List (List (S28))))).bind fun t261 => ((runnelref03_Same.f kj26 t261 l0).bind fun t264 => (runnellaw03_RowParts.j3 kj26 l0 t236 t237 (!t264)))) else (runnellaw03_RowParts.j3 kj26 l0 t236 t237 true))) else (runnellaw03_RowParts.j3 kj26 l0 t236 t237 true))) = some r := by rw [if_pos rfl] at H; exact H
                            clear H
                            have H := H1
                            clear H1
                            have c46b0 := eq_true (of_decide_eq_true (by first | (with_reducible assumption) | assumption) : 0 ≤ a2)
                            have c47b0 := eq_true (of_decide_eq_true (by first | (with_reducible assumption) | assumption) : a2 ≤ (l0.length : Int))
                            obtain ⟨y252, hy252⟩ : ∃ y_ : List (S28), y_ = (l0.drop (a2 : Int).toNat) := ⟨_, rfl⟩
                            replace H : ((runnelref03_Same.f kj26 t237 y252).bind fun t256 => (if t256 = true then ((runnellaw03_code.f t238).bind fun t257 => (if t257 = 0 then ((row_Join.f kj26 (([t236, t237] : List (List (S28))))).bind fun t261 => ((runnelref03_Same.f kj26 t261 l0).bind fun t264 => (runnellaw03_RowParts.j3 kj26 l0 t236 t237 (!t264)))) else (runnellaw03_RowParts.j3 kj26 l0 t236 t237 true))) else (runnellaw03_RowParts.j3 kj26 l0 t236 t237 true))) = some r := by first | (rw [hy252]; with_reducible exact H) | (have H2_ := (Option.bind_some _ _).symm.trans H; rw [hy252]; with_reducible exact H2_) | (have H2_ := (Option.bind_some _ _).symm.trans H; with_reducible exact H2_) | with_reducible exact H | (rw [hy252]; exact H) | exact H
                            have Ny252 := Aside0.mk hy252
                            clear hy252
                            replace H := Option.bind_eq_some_iff.mp H
                            obtain ⟨t256, A480, H⟩ := H
                            replace H : (if t256 = true then ((runnellaw03_code.f t238).bind fun t257 => (if t257 = 0 then ((row_Join.f kj26 (([t236, t237] : List (List (S28))))).bind fun t261 => ((runnelref03_Same.f kj26 t261 l0).bind fun t264 => (runnellaw03_RowParts.j3 kj26 l0 t236 t237 (!t264)))) else (runnellaw03_RowParts.j3 kj26 l0 t236 t237 true))) else (runnellaw03_RowParts.j3 kj26 l0 t236 t237 true)) = some r := H
                            have A48 := Aside0.mk A480
                            clear A480
                            by_cases c49 : t256 = true
                            · subst c49
                              have H1 : ((runnellaw03_code.f t238).bind fun t257 => (if t257 = 0 then ((row_Join.f kj26 (([t236, t237] : List (List (S28))))).bind fun t261 => ((runnelref03_Same.f kj26 t261 l0).bind fun t264 => (runnellaw03_RowParts.j3 kj26 l0 t236 t237 (!t264)))) else (runnellaw03_RowParts.j3 kj26 l0 t236 t237 true))) = some r := by rw [if_pos rfl] at H; exact H
                              clear H
                              have H := H1
                              clear H1
                              replace H := Option.bind_eq_some_iff.mp H
                              obtain ⟨t257, A500, H⟩ := H
                              replace H : (if t257 = 0 then ((row_Join.f kj26 (([t236, t237] : List (List (S28))))).bind fun t261 => ((runnelref03_Same.f kj26 t261 l0).bind fun t264 => (runnellaw03_RowParts.j3 kj26 l0 t236 t237 (!t264)))) else (runnellaw03_RowParts.j3 kj26 l0 t236 t237 true)) = some r := H
                              have A50 := Aside0.mk A500
                              clear A500
                              by_cases c51 : t257 = 0
                              · rw [if_pos c51] at H
                                have c51b0 : (t257 == 0) = true := beq_iff_eq.mpr c51
                                have c51b1 : (t257 != 0) = false := bne_eq_false_iff_eq.mpr c51
                                clear c51
                                (first | rw [c51b0] | (simp only [i64_w, i32_w]; rw [c51b0]) | skip)
                                obtain ⟨y258, hy258⟩ : ∃ y_ : List (List (S28)), y_ = (([t236, t237] : List (List (S28)))) := ⟨_, rfl⟩
                                replace H : ((row_Join.f kj26 y258).bind fun t261 => ((runnelref03_Same.f kj26 t261 l0).bind fun t264 => (runnellaw03_RowParts.j3 kj26 l0 t236 t237 (!t264)))) = some r := by first | (rw [hy258]; with_reducible exact H) | (have H2_ := (Option.bind_some _ _).symm.trans H; rw [hy258]; with_reducible exact H2_) | (have H2_ := (Option.bind_some _ _).symm.trans H; with_reducible exact H2_) | with_reducible exact H | (rw [hy258]; exact H) | exact H
                                have Ny258 := Aside0.mk hy258
                                clear hy258
                                replace H := Option.bind_eq_some_iff.mp H
                                obtain ⟨t261, A520, H⟩ := H
                                replace H : ((runnelref03_Same.f kj26 t261 l0).bind fun t264 => (runnellaw03_RowParts.j3 kj26 l0 t236 t237 (!t264))) = some r := H
                                have A52 := Aside0.mk A520
                                clear A520
                                replace H := Option.bind_eq_some_iff.mp H
                                obtain ⟨t264, A530, H⟩ := H
                                replace H : (runnellaw03_RowParts.j3 kj26 l0 t236 t237 (!t264)) = some r := H
                                have A53 := Aside0.mk A530
                                clear A530
                                have H' := Aside0.mk H
                                clear H
                                have q54 : (a2 : Int) ≤ ((l0.length : Int) : Int) := of_decide_eq_true (by first | (with_reducible assumption) | assumption)
                                obtain ⟨i054, hi054, _, hsz54, _⟩ := info_parts info28
                                have hroom54 : l0.length ≤ c0 := HC0.out
                                have hC54 : Kd.C k28 _ A0 l0.length l0 := HR0.out
                                have hcut54 := cut_to (P := Try.prog) 23 28 .i64 Try.underlying23 hi054 A0 l0.length c0 a2 (of_decide_eq_true (by first | (with_reducible assumption) | assumption)) q54 hroom54
                                have hr54 := Kd.C_take (m := (a2 : Int).toNat) hC54 (by omega)
                                have hy54 : y247.length = (a2 : Int).toNat := (by rw [Ny247.out, List.length_take]; omega)
                                rw [← Ny247.out] at hr54
                                rw [← hy54] at hcut54
                                have HR250 := Aside0.mk hr54
                                have HC250 := Aside0.mk (show y247.length ≤ c0 from by omega)
                                clear hr54 hC54 hroom54 hi054 hsz54
                                have KY54 := Aside0.mk hy54
                                clear hy54
                                replace q54 := eq_true q54
                                obtain ⟨Ao55, co55, eo55⟩ := Kd.R_slice HO_11.out
                                subst eo55
                                go_wp2_with (first | ((with_reducible refine gate_callee (f := 25) rfl ?_); refine goesL_ (some 80) rfl rfl Try.func25 (by kernel_rfl) rfl #[.slice Ao55 t236.length co55, .slice A0 y247.length c0] rfl (by (try simp only [List.map_toArray, List.map_cons, List.map_nil]); first | done | rfl | (simp only [List.length_drop, List.length_take]; rfl)) ?_; (with_reducible refine (runnelref03_Same.calls kj26 _ _ t236 _ _ y247 true _ ?side1 ?side2 ?side3 ?side4 A44.out).mono ?_); (case side1 => repeat (first | exact (Kd.R_reads' HO_11.out).2.2 | (with_reducible refine Kd.C_alloc ?_ _) | (with_reducible refine Kd.C_drewN ?_ _) | (with_reducible refine Kd.C_drew ?_))); (case side2 => exact (Kd.R_reads' HO_11.out).2.1); (case side3 => repeat (first | exact (Kd.C_below HR250.out HB.out) | (with_reducible refine Kd.C_alloc ?_ _) | (with_reducible refine Kd.C_drewN ?_ _) | (with_reducible refine Kd.C_drew ?_))); (case side4 => exact HC250.out); rintro e w56 ⟨rfl, hb⟩; refine ⟨_, rfl, ?_⟩; have n0_ := Aside0.mk (Kd.R_below (by (with_reducible repeat (first | apply Kd.R_alloc | apply Kd.R_drewN | apply Kd.R_drew)); exact HO_11.out) hb); have n1_ := Aside0.mk (Kd.R_below (by (with_reducible repeat (first | apply Kd.R_alloc | apply Kd.R_drewN | apply Kd.R_drew)); exact HO_12.out) hb); have n2_ := Aside0.mk (below_step (by repeat (first | (with_reducible first | exact HB.out | apply below_alloc | apply pw_below_drewN | apply below_drew1) | exact HB.out)) hb); clear HO_11; clear HO_12; clear HB; have HO_11 := n0_; have HO_12 := n1_; have HB := n2_; clear n0_ n1_ n2_; (try clear hb); (try clear hb2); (try clear hk); (try clear hi); have q57 : (a2 : Int) ≤ ((l0.length : Int) : Int) := of_decide_eq_true (by first | (with_reducible assumption) | assumption); obtain ⟨i057, hi057, _, hsz57, _⟩ := info_parts info28; have hroom57 : l0.length ≤ c0 := HC0.out; have hC57 : Kd.C k28 _ A0 l0.length l0 := HR0.out; have q057 : (0 : Int) ≤ (a2 : Int) := of_decide_eq_true (by first | (with_reducible assumption) | assumption); have hcut57 := cut_from (P := Try.prog) 23 28 .i64 Try.underlying23 hi057 3 hsz57 A0 l0.length c0 a2 q057 q57; have hr57 := Kd.C_drop (m := (a2 : Int).toNat) (c := c0) hC57 (by omega) hroom57; obtain ⟨A57, hA57⟩ : ∃ A1, A1 = (if c0 = (a2 : Int).toNat then A0 else (A0 : Option Addr).map (·.add ((a2 : Int).toNat * 3))) := ⟨_, rfl⟩; obtain ⟨c57, hc57⟩ : ∃ c1, c1 = c0 - (a2 : Int).toNat := ⟨_, rfl⟩; have hy57 : y252.length = l0.length - (a2 : Int).toNat := (by rw [Ny252.out, List.length_drop] <;> omega); rw [show (l0).drop (a2 : Int).toNat = y252 from Ny252.out.symm] at hr57; replace hr57 : Kd.C k28 _ A57 y252.length y252 := (by rw [hA57]; exact hr57); rw [← hy57, ← hA57, ← hc57] at hcut57; have HR255 := Aside0.mk hr57; have HC255 := Aside0.mk (show y252.length ≤ c57 from by rw [hy57, hc57]; exact Nat.sub_le_sub_right hroom57 _); clear hr57 hC57 hroom57 hi057 hsz57 hc57; have KY57 := Aside0.mk hy57; have KA57 := Aside0.mk hA57; clear hy57 hA57; replace q57 := eq_true q57; obtain ⟨Ao58, co58, eo58⟩ := Kd.R_slice HO_12.out; subst eo58) | (go_at_call 25; (with_reducible refine (runnelref03_Same.calls kj26 _ _ t237 _ _ y252 true _ ?side1 ?side2 ?side3 ?side4 A48.out).mono ?_); (case side1 => repeat (first | exact (Kd.R_reads' HO_12.out).2.2 | (with_reducible refine Kd.C_alloc ?_ _) | (with_reducible refine Kd.C_drewN ?_ _) | (with_reducible refine Kd.C_drew ?_))); (case side2 => exact (Kd.R_reads' HO_12.out).2.1); (case side3 => repeat (first | exact (Kd.C_below HR255.out HB.out) | (with_reducible refine Kd.C_alloc ?_ _) | (with_reducible refine Kd.C_drewN ?_ _) | (with_reducible refine Kd.C_drew ?_))); (case side4 => exact HC255.out); rintro e w59 ⟨rfl, hb⟩; have n0_ := Aside0.mk (Kd.R_below (by (with_reducible repeat (first | apply Kd.R_alloc | apply Kd.R_drewN | apply Kd.R_drew)); exact HO_11.out) hb); have n1_ := Aside0.mk (Kd.R_below (by (with_reducible repeat (first | apply Kd.R_alloc | apply Kd.R_drewN | apply Kd.R_drew)); exact HO_12.out) hb); have n2_ := Aside0.mk (below_step (by repeat (first | (with_reducible first | exact HB.out | apply below_alloc | apply pw_below_drewN | apply below_drew1) | exact HB.out)) hb); clear HO_11; clear HO_12; clear HB; have HO_11 := n0_; have HO_12 := n1_; have HB := n2_; clear n0_ n1_ n2_; (try clear hb); (try clear hb2); (try clear hk); (try clear hi)) | (go_at_call 17; (with_reducible refine (runnellaw03_code.calls t238 t257 _ A50.out).mono ?_); rintro e w' ⟨rfl, ⟨nd, rfl⟩⟩) | ((with_reducible refine gate_dst (N := 98) rfl ?_); (try (refine gate_guard (by rfl) ?_; dsimp only)); refine Kd.N_lit (Kd.slice 28 k28) _ 23 ?hg (N' := 98) ?hd (xs := ([t236, t237] : List (List (S28)))) (inner := [.slice Ao55 t236.length co55, .slice Ao58 t237.length co58]) (ok := (fun _ => True)) (okp := (fun _ => True)) ?hr ?hp (fun _ hk => hk) ((show ∀ k_, w59.heap.size ≤ k_ → (fun _ => True) k_ from fun k_ hk => trivial) _ (Nat.le_refl _)) (Below.refl _ _) (Nat.le_refl _) (by simp) ?_; (case hd => rfl); (case hg => rfl); (case hr => first | (go_simp; done) | (go_simp; rfl)); (case hp => exact (Reps.one (show Kd.FK (Kd.slice 28 k28) _ _ t236 [.slice Ao55 t236.length co55] from (Kd.FK_slice_mk (Kd.R_reads' (Kd.R_mono (ok' := (fun _ => True)) (HO_11.out) (fun k_ hk => trivial))).2.1 (Kd.R_F (Kd.R_mono (ok' := (fun _ => True)) (HO_11.out) (fun k_ hk => trivial))))) (Reps.one (show Kd.FK (Kd.slice 28 k28) _ _ t237 [.slice Ao58 t237.length co58] from (Kd.FK_slice_mk (Kd.R_reads' (Kd.R_mono (ok' := (fun _ => True)) (HO_12.out) (fun k_ hk => trivial))).2.1 (Kd.R_F (Kd.R_mono (ok' := (fun _ => True)) (HO_12.out) (fun k_ hk => trivial))))) (Reps.none _ _)))); intro v259 w60 ho61 hb hg_ hnew_; clear hg_ hnew_; (first | rw [← Ny258.out] at ho61 | (simp only [Int.reduceToNat] at ho61; rw [← Ny258.out] at ho61)); have n0_ := Aside0.mk (Kd.N_lower ho61 (below_size (by repeat (first | (with_reducible first | exact HB.out | apply below_alloc | apply pw_below_drewN | apply below_drew1) | exact HB.out)))); have n1_ := Aside0.mk (below_step (by repeat (first | (with_reducible first | exact HB.out | apply below_alloc | apply pw_below_drewN | apply below_drew1) | exact HB.out)) hb); clear HB; have HO260 := n0_; have HB := n1_; clear n0_ n1_; have m1_ := Aside0.mk (Kd.R_below (by (with_reducible repeat (first | apply Kd.R_alloc | apply Kd.R_drewN | apply Kd.R_drew)); exact HO_11.out) hb); have m2_ := Aside0.mk (Kd.R_below (by (with_reducible repeat (first | apply Kd.R_alloc | apply Kd.R_drewN | apply Kd.R_drew)); exact HO_12.out) hb); clear HO_11; clear HO_12; have HO_11 := m1_; have HO_12 := m2_; clear m1_ m2_; clear hb ho61; obtain ⟨Ao62, co62, eo62⟩ := Kd.N_slice HO260.out; subst eo62) | (go_at_call 16; (with_reducible refine (row_Join.calls kj26 _ _ y258 t261 _ ?side1 ?side2 A52.out).mono ?_); (case side1 => repeat (first | exact (Kd.N_reads' HO260.out).2.2 | (with_reducible refine Kd.C_alloc ?_ _) | (with_reducible refine Kd.C_drewN ?_ _) | (with_reducible refine Kd.C_drew ?_))); (case side2 => exact (Kd.N_reads' HO260.out).2.1); rintro e w63 ⟨v262, rfl, ho0, hb⟩; have m1_ := Aside0.mk (Kd.R_below (by (with_reducible repeat (first | apply Kd.R_alloc | apply Kd.R_drewN | apply Kd.R_drew)); exact HO_11.out) hb); have m2_ := Aside0.mk (Kd.R_below (by (with_reducible repeat (first | apply Kd.R_alloc | apply Kd.R_drewN | apply Kd.R_drew)); exact HO_12.out) hb); clear HO_11; clear HO_12; have HO_11 := m1_; have HO_12 := m2_; clear m1_ m2_; have n0_ := Aside0.mk (Kd.N_elder' (by (with_reducible repeat (first | apply Kd.N_alloc | apply Kd.N_drewN | apply Kd.N_drew)); exact HO260.out) (Kd.R_base ho0) hb); have n1_ := Aside0.mk (Kd.R_lower ho0 (below_size (by repeat (first | (with_reducible first | exact HB.out | apply below_alloc | apply pw_below_drewN | apply below_drew1) | exact HB.out)))); have n2_ := Aside0.mk (below_step (by repeat (first | (with_reducible first | exact HB.out | apply below_alloc | apply pw_below_drewN | apply below_drew1) | exact HB.out)) hb); clear HO260; clear HB; have HO260 := n0_; have HO263 := n1_; have HB := n2_; clear n0_ n1_ n2_; (try clear hb); (try clear hb2); (try clear hk); (try clear hi); (try clear ho0); obtain ⟨Ao64, co64, eo64⟩ := Kd.R_slice HO263.out; subst eo64) | (go_at_call 25; (with_reducible refine (runnelref03_Same.calls kj26 _ _ t261 _ _ l0 t264 _ ?side1 ?side2 ?side3 ?side4 A53.out).mono ?_); (case side1 => repeat (first | exact (Kd.R_reads' HO263.out).2.2 | (with_reducible refine Kd.C_alloc ?_ _) | (with_reducible refine Kd.C_drewN ?_ _) | (with_reducible refine Kd.C_drew ?_))); (case side2 => exact (Kd.R_reads' HO263.out).2.1); (case side3 => repeat (first | exact (Kd.C_below HR0.out HB.out) | (with_reducible refine Kd.C_alloc ?_ _) | (with_reducible refine Kd.C_drewN ?_ _) | (with_reducible refine Kd.C_drew ?_))); (case side4 => exact HC0.out); rintro e w65 ⟨rfl, hb⟩; have m1_ := Aside0.mk (Kd.R_below (by (with_reducible repeat (first | apply Kd.R_alloc | apply Kd.R_drewN | apply Kd.R_drew)); exact HO_11.out) hb); have m2_ := Aside0.mk (Kd.R_below (by (with_reducible repeat (first | apply Kd.R_alloc | apply Kd.R_drewN | apply Kd.R_drew)); exact HO_12.out) hb); clear HO_11; clear HO_12; have HO_11 := m1_; have HO_12 := m2_; clear m1_ m2_; have n0_ := Aside0.mk (Kd.N_below (by (with_reducible repeat (first | apply Kd.N_alloc | apply Kd.N_drewN | apply Kd.N_drew)); exact HO260.out) hb); have n1_ := Aside0.mk (Kd.R_below (by (with_reducible repeat (first | apply Kd.R_alloc | apply Kd.R_drewN | apply Kd.R_drew)); exact HO263.out) hb); have n2_ := Aside0.mk (below_step (by repeat (first | (with_reducible first | exact HB.out | apply below_alloc | apply pw_below_drewN | apply below_drew1) | exact HB.out)) hb); clear HO260; clear HO263; clear HB; have HO260 := n0_; have HO263 := n1_; have HB := n2_; clear n0_ n1_ n2_; (try clear hb); (try clear hb2); (try clear hk); (try clear hi)))
                                go_meet
                                case rel => exact ⟨_, (!t264), (by first | rfl | (simp; done) | (simp [*]; done)), H', ⟨by have := HJ3.out; have := HJ12.out; have := HJ26.out; first | omega | exact Nat.le_refl _⟩, ⟨by (with_reducible repeat (first | apply Kd.R_alloc | apply Kd.R_drewN | apply Kd.R_drew)); exact HO_11.out⟩, ⟨by (with_reducible repeat (first | apply Kd.R_alloc | apply Kd.R_drewN | apply Kd.R_drew)); exact HO_12.out⟩, ⟨by repeat (first | (with_reducible first | exact HB.out | apply below_alloc | apply pw_below_drewN | apply below_drew1) | exact HB.out)⟩⟩
                              · rw [if_neg c51] at H
                                have c51b0 : (t257 == 0) = false := beq_eq_false_iff_ne.mpr c51
                                have c51b1 : (t257 != 0) = true := bne_iff_ne.mpr c51
                                (first | rw [c51b0] | (simp only [i64_w, i32_w]; rw [c51b0]) | skip)
                                have H' := Aside0.mk H
                                clear H
                                have q66 : (a2 : Int) ≤ ((l0.length : Int) : Int) := of_decide_eq_true (by first | (with_reducible assumption) | assumption)
                                obtain ⟨i066, hi066, _, hsz66, _⟩ := info_parts info28
                                have hroom66 : l0.length ≤ c0 := HC0.out
                                have hC66 : Kd.C k28 _ A0 l0.length l0 := HR0.out
                                have hcut66 := cut_to (P := Try.prog) 23 28 .i64 Try.underlying23 hi066 A0 l0.length c0 a2 (of_decide_eq_true (by first | (with_reducible assumption) | assumption)) q66 hroom66
                                have hr66 := Kd.C_take (m := (a2 : Int).toNat) hC66 (by omega)
                                have hy66 : y247.length = (a2 : Int).toNat := (by rw [Ny247.out, List.length_take]; omega)
                                rw [← Ny247.out] at hr66
                                rw [← hy66] at hcut66
                                have HR250 := Aside0.mk hr66
                                have HC250 := Aside0.mk (show y247.length ≤ c0 from by omega)
                                clear hr66 hC66 hroom66 hi066 hsz66
                                have KY66 := Aside0.mk hy66
                                clear hy66
                                replace q66 := eq_true q66
                                obtain ⟨Ao67, co67, eo67⟩ := Kd.R_slice HO_11.out
                                subst eo67
                                go_wp2_with (first | ((with_reducible refine gate_callee (f := 25) rfl ?_); refine goesL_ (some 80) rfl rfl Try.func25 (by kernel_rfl) rfl #[.slice Ao67 t236.length co67, .slice A0 y247.length c0] rfl (by (try simp only [List.map_toArray, List.map_cons, List.map_nil]); first | done | rfl | (simp only [List.length_drop, List.length_take]; rfl)) ?_; (with_reducible refine (runnelref03_Same.calls kj26 _ _ t236 _ _ y247 true _ ?side1 ?side2 ?side3 ?side4 A44.out).mono ?_); (case side1 => repeat (first | exact (Kd.R_reads' HO_11.out).2.2 | (with_reducible refine Kd.C_alloc ?_ _) | (with_reducible refine Kd.C_drewN ?_ _) | (with_reducible refine Kd.C_drew ?_))); (case side2 => exact (Kd.R_reads' HO_11.out).2.1); (case side3 => repeat (first | exact (Kd.C_below HR250.out HB.out) | (with_reducible refine Kd.C_alloc ?_ _) | (with_reducible refine Kd.C_drewN ?_ _) | (with_reducible refine Kd.C_drew ?_))); (case side4 => exact HC250.out); rintro e w68 ⟨rfl, hb⟩; refine ⟨_, rfl, ?_⟩; have n0_ := Aside0.mk (Kd.R_below (by (with_reducible repeat (first | apply Kd.R_alloc | apply Kd.R_drewN | apply Kd.R_drew)); exact HO_11.out) hb); have n1_ := Aside0.mk (Kd.R_below (by (with_reducible repeat (first | apply Kd.R_alloc | apply Kd.R_drewN | apply Kd.R_drew)); exact HO_12.out) hb); have n2_ := Aside0.mk (below_step (by repeat (first | (with_reducible first | exact HB.out | apply below_alloc | apply pw_below_drewN | apply below_drew1) | exact HB.out)) hb); clear HO_11; clear HO_12; clear HB; have HO_11 := n0_; have HO_12 := n1_; have HB := n2_; clear n0_ n1_ n2_; (try clear hb); (try clear hb2); (try clear hk); (try clear hi); have q69 : (a2 : Int) ≤ ((l0.length : Int) : Int) := of_decide_eq_true (by first | (with_reducible assumption) | assumption); obtain ⟨i069, hi069, _, hsz69, _⟩ := info_parts info28; have hroom69 : l0.length ≤ c0 := HC0.out; have hC69 : Kd.C k28 _ A0 l0.length l0 := HR0.out; have q069 : (0 : Int) ≤ (a2 : Int) := of_decide_eq_true (by first | (with_reducible assumption) | assumption); have hcut69 := cut_from (P := Try.prog) 23 28 .i64 Try.underlying23 hi069 3 hsz69 A0 l0.length c0 a2 q069 q69; have hr69 := Kd.C_drop (m := (a2 : Int).toNat) (c := c0) hC69 (by omega) hroom69; obtain ⟨A69, hA69⟩ : ∃ A1, A1 = (if c0 = (a2 : Int).toNat then A0 else (A0 : Option Addr).map (·.add ((a2 : Int).toNat * 3))) := ⟨_, rfl⟩; obtain ⟨c69, hc69⟩ : ∃ c1, c1 = c0 - (a2 : Int).toNat := ⟨_, rfl⟩; have hy69 : y252.length = l0.length - (a2 : Int).toNat := (by rw [Ny252.out, List.length_drop] <;> omega); rw [show (l0).drop (a2 : Int).toNat = y252 from Ny252.out.symm] at hr69; replace hr69 : Kd.C k28 _ A69 y252.length y252 := (by rw [hA69]; exact hr69); rw [← hy69, ← hA69, ← hc69] at hcut69; have HR255 := Aside0.mk hr69; have HC255 := Aside0.mk (show y252.length ≤ c69 from by rw [hy69, hc69]; exact Nat.sub_le_sub_right hroom69 _); clear hr69 hC69 hroom69 hi069 hsz69 hc69; have KY69 := Aside0.mk hy69; have KA69 := Aside0.mk hA69; clear hy69 hA69; replace q69 := eq_true q69; obtain ⟨Ao70, co70, eo70⟩ := Kd.R_slice HO_12.out; subst eo70) | (go_at_call 25; (with_reducible refine (runnelref03_Same.calls kj26 _ _ t237 _ _ y252 true _ ?side1 ?side2 ?side3 ?side4 A48.out).mono ?_); (case side1 => repeat (first | exact (Kd.R_reads' HO_12.out).2.2 | (with_reducible refine Kd.C_alloc ?_ _) | (with_reducible refine Kd.C_drewN ?_ _) | (with_reducible refine Kd.C_drew ?_))); (case side2 => exact (Kd.R_reads' HO_12.out).2.1); (case side3 => repeat (first | exact (Kd.C_below HR255.out HB.out) | (with_reducible refine Kd.C_alloc ?_ _) | (with_reducible refine Kd.C_drewN ?_ _) | (with_reducible refine Kd.C_drew ?_))); (case side4 => exact HC255.out); rintro e w71 ⟨rfl, hb⟩; have n0_ := Aside0.mk (Kd.R_below (by (with_reducible repeat (first | apply Kd.R_alloc | apply Kd.R_drewN | apply Kd.R_drew)); exact HO_11.out) hb); have n1_ := Aside0.mk (Kd.R_below (by (with_reducible repeat (first | apply Kd.R_alloc | apply Kd.R_drewN | apply Kd.R_drew)); exact HO_12.out) hb); have n2_ := Aside0.mk (below_step (by repeat (first | (with_reducible first | exact HB.out | apply below_alloc | apply pw_below_drewN | apply below_drew1) | exact HB.out)) hb); clear HO_11; clear HO_12; clear HB; have HO_11 := n0_; have HO_12 := n1_; have HB := n2_; clear n0_ n1_ n2_; (try clear hb); (try clear hb2); (try clear hk); (try clear hi)) | (go_at_call 17; (with_reducible refine (runnellaw03_code.calls t238 t257 _ A50.out).mono ?_); rintro e w' ⟨rfl, ⟨nd, rfl⟩⟩))
                                go_meet
                                case rel => exact ⟨_, (true), (by first | rfl | (simp; done) | (simp [*]; done)), H', ⟨by have := HJ3.out; have := HJ12.out; have := HJ26.out; first | omega | exact Nat.le_refl _⟩, ⟨by (with_reducible repeat (first | apply Kd.R_alloc | apply Kd.R_drewN | apply Kd.R_drew)); exact HO_11.out⟩, ⟨by (with_reducible repeat (first | apply Kd.R_alloc | apply Kd.R_drewN | apply Kd.R_drew)); exact HO_12.out⟩, ⟨by repeat (first | (with_reducible first | exact HB.out | apply below_alloc | apply pw_below_drewN | apply below_drew1) | exact HB.out)⟩⟩
                            · replace c49 := Bool.eq_false_iff.mpr c49
                              subst c49
                              have H1 : (runnellaw03_RowParts.j3 kj26 l0 t236 t237 true) = some r := by rw [if_neg (show ¬ (false = true) by decide)] at H; exact H
                              clear H
                              have H := H1
                              clear H1
                              have H' := Aside0.mk H
                              clear H
                              have q72 : (a2 : Int) ≤ ((l0.length : Int) : Int) := of_decide_eq_true (by first | (with_reducible assumption) | assumption)
                              obtain ⟨i072, hi072, _, hsz72, _⟩ := info_parts info28
                              have hroom72 : l0.length ≤ c0 := HC0.out
                              have hC72 : Kd.C k28 _ A0 l0.length l0 := HR0.out
                              have hcut72 := cut_to (P := Try.prog) 23 28 .i64 Try.underlying23 hi072 A0 l0.length c0 a2 (of_decide_eq_true (by first | (with_reducible assumption) | assumption)) q72 hroom72
                              have hr72 := Kd.C_take (m := (a2 : Int).toNat) hC72 (by omega)
                              have hy72 : y247.length = (a2 : Int).toNat := (by rw [Ny247.out, List.length_take]; omega)
                              rw [← Ny247.out] at hr72
                              rw [← hy72] at hcut72
                              have HR250 := Aside0.mk hr72
                              have HC250 := Aside0.mk (show y247.length ≤ c0 from by omega)
                              clear hr72 hC72 hroom72 hi072 hsz72
                              have KY72 := Aside0.mk hy72
                              clear hy72
                              replace q72 := eq_true q72
                              obtain ⟨Ao73, co73, eo73⟩ := Kd.R_slice HO_11.out
                              subst eo73
                              go_wp2_with (first | ((with_reducible refine gate_callee (f := 25) rfl ?_); refine goesL_ (some 80) rfl rfl Try.func25 (by kernel_rfl) rfl #[.slice Ao73 t236.length co73, .slice A0 y247.length c0] rfl (by (try simp only [List.map_toArray, List.map_cons, List.map_nil]); first | done | rfl | (simp only [List.length_drop, List.length_take]; rfl)) ?_; (with_reducible refine (runnelref03_Same.calls kj26 _ _ t236 _ _ y247 true _ ?side1 ?side2 ?side3 ?side4 A44.out).mono ?_); (case side1 => repeat (first | exact (Kd.R_reads' HO_11.out).2.2 | (with_reducible refine Kd.C_alloc ?_ _) | (with_reducible refine Kd.C_drewN ?_ _) | (with_reducible refine Kd.C_drew ?_))); (case side2 => exact (Kd.R_reads' HO_11.out).2.1); (case side3 => repeat (first | exact (Kd.C_below HR250.out HB.out) | (with_reducible refine Kd.C_alloc ?_ _) | (with_reducible refine Kd.C_drewN ?_ _) | (with_reducible refine Kd.C_drew ?_))); (case side4 => exact HC250.out); rintro e w74 ⟨rfl, hb⟩; refine ⟨_, rfl, ?_⟩; have n0_ := Aside0.mk (Kd.R_below (by (with_reducible repeat (first | apply Kd.R_alloc | apply Kd.R_drewN | apply Kd.R_drew)); exact HO_11.out) hb); have n1_ := Aside0.mk (Kd.R_below (by (with_reducible repeat (first | apply Kd.R_alloc | apply Kd.R_drewN | apply Kd.R_drew)); exact HO_12.out) hb); have n2_ := Aside0.mk (below_step (by repeat (first | (with_reducible first | exact HB.out | apply below_alloc | apply pw_below_drewN | apply below_drew1) | exact HB.out)) hb); clear HO_11; clear HO_12; clear HB; have HO_11 := n0_; have HO_12 := n1_; have HB := n2_; clear n0_ n1_ n2_; (try clear hb); (try clear hb2); (try clear hk); (try clear hi); have q75 : (a2 : Int) ≤ ((l0.length : Int) : Int) := of_decide_eq_true (by first | (with_reducible assumption) | assumption); obtain ⟨i075, hi075, _, hsz75, _⟩ := info_parts info28; have hroom75 : l0.length ≤ c0 := HC0.out; have hC75 : Kd.C k28 _ A0 l0.length l0 := HR0.out; have q075 : (0 : Int) ≤ (a2 : Int) := of_decide_eq_true (by first | (with_reducible assumption) | assumption); have hcut75 := cut_from (P := Try.prog) 23 28 .i64 Try.underlying23 hi075 3 hsz75 A0 l0.length c0 a2 q075 q75; have hr75 := Kd.C_drop (m := (a2 : Int).toNat) (c := c0) hC75 (by omega) hroom75; obtain ⟨A75, hA75⟩ : ∃ A1, A1 = (if c0 = (a2 : Int).toNat then A0 else (A0 : Option Addr).map (·.add ((a2 : Int).toNat * 3))) := ⟨_, rfl⟩; obtain ⟨c75, hc75⟩ : ∃ c1, c1 = c0 - (a2 : Int).toNat := ⟨_, rfl⟩; have hy75 : y252.length = l0.length - (a2 : Int).toNat := (by rw [Ny252.out, List.length_drop] <;> omega); rw [show (l0).drop (a2 : Int).toNat = y252 from Ny252.out.symm] at hr75; replace hr75 : Kd.C k28 _ A75 y252.length y252 := (by rw [hA75]; exact hr75); rw [← hy75, ← hA75, ← hc75] at hcut75; have HR255 := Aside0.mk hr75; have HC255 := Aside0.mk (show y252.length ≤ c75 from by rw [hy75, hc75]; exact Nat.sub_le_sub_right hroom75 _); clear hr75 hC75 hroom75 hi075 hsz75 hc75; have KY75 := Aside0.mk hy75; have KA75 := Aside0.mk hA75; clear hy75 hA75; replace q75 := eq_true q75; obtain ⟨Ao76, co76, eo76⟩ := Kd.R_slice HO_12.out; subst eo76) | (go_at_call 25; (with_reducible refine (runnelref03_Same.calls kj26 _ _ t237 _ _ y252 false _ ?side1 ?side2 ?side3 ?side4 A48.out).mono ?_); (case side1 => repeat (first | exact (Kd.R_reads' HO_12.out).2.2 | (with_reducible refine Kd.C_alloc ?_ _) | (with_reducible refine Kd.C_drewN ?_ _) | (with_reducible refine Kd.C_drew ?_))); (case side2 => exact (Kd.R_reads' HO_12.out).2.1); (case side3 => repeat (first | exact (Kd.C_below HR255.out HB.out) | (with_reducible refine Kd.C_alloc ?_ _) | (with_reducible refine Kd.C_drewN ?_ _) | (with_reducible refine Kd.C_drew ?_))); (case side4 => exact HC255.out); rintro e w77 ⟨rfl, hb⟩; have n0_ := Aside0.mk (Kd.R_below (by (with_reducible repeat (first | apply Kd.R_alloc | apply Kd.R_drewN | apply Kd.R_drew)); exact HO_11.out) hb); have n1_ := Aside0.mk (Kd.R_below (by (with_reducible repeat (first | apply Kd.R_alloc | apply Kd.R_drewN | apply Kd.R_drew)); exact HO_12.out) hb); have n2_ := Aside0.mk (below_step (by repeat (first | (with_reducible first | exact HB.out | apply below_alloc | apply pw_below_drewN | apply below_drew1) | exact HB.out)) hb); clear HO_11; clear HO_12; clear HB; have HO_11 := n0_; have HO_12 := n1_; have HB := n2_; clear n0_ n1_ n2_; (try clear hb); (try clear hb2); (try clear hk); (try clear hi)))
                              go_meet
                              case rel => exact ⟨_, (true), (by first | rfl | (simp; done) | (simp [*]; done)), H', ⟨by have := HJ3.out; have := HJ12.out; have := HJ26.out; first | omega | exact Nat.le_refl _⟩, ⟨by (with_reducible repeat (first | apply Kd.R_alloc | apply Kd.R_drewN | apply Kd.R_drew)); exact HO_11.out⟩, ⟨by (with_reducible repeat (first | apply Kd.R_alloc | apply Kd.R_drewN | apply Kd.R_drew)); exact HO_12.out⟩, ⟨by repeat (first | (with_reducible first | exact HB.out | apply below_alloc | apply pw_below_drewN | apply below_drew1) | exact HB.out)⟩⟩
                          · replace c45 := Bool.eq_false_iff.mpr c45
                            subst c45
                            have H1 : (runnellaw03_RowParts.j3 kj26 l0 t236 t237 true) = some r := by rw [if_neg (show ¬ (false = true) by decide)] at H; exact H
                            clear H
                            have H := H1
                            clear H1
                            have H' := Aside0.mk H
                            clear H
                            have q78 : (a2 : Int) ≤ ((l0.length : Int) : Int) := of_decide_eq_true (by first | (with_reducible assumption) | assumption)
                            obtain ⟨i078, hi078, _, hsz78, _⟩ := info_parts info28
                            have hroom78 : l0.length ≤ c0 := HC0.out
                            have hC78 : Kd.C k28 _ A0 l0.length l0 := HR0.out
                            have hcut78 := cut_to (P := Try.prog) 23 28 .i64 Try.underlying23 hi078 A0 l0.length c0 a2 (of_decide_eq_true (by first | (with_reducible assumption) | assumption)) q78 hroom78
                            have hr78 := Kd.C_take (m := (a2 : Int).toNat) hC78 (by omega)
                            have hy78 : y247.length = (a2 : Int).toNat := (by rw [Ny247.out, List.length_take]; omega)
                            rw [← Ny247.out] at hr78
                            rw [← hy78] at hcut78
                            have HR250 := Aside0.mk hr78
                            have HC250 := Aside0.mk (show y247.length ≤ c0 from by omega)
                            clear hr78 hC78 hroom78 hi078 hsz78
                            have KY78 := Aside0.mk hy78
                            clear hy78
                            replace q78 := eq_true q78
                            obtain ⟨Ao79, co79, eo79⟩ := Kd.R_slice HO_11.out
                            subst eo79
                            go_wp2_with (first | ((with_reducible refine gate_callee (f := 25) rfl ?_); refine goesL_ (some 80) rfl rfl Try.func25 (by kernel_rfl) rfl #[.slice Ao79 t236.length co79, .slice A0 y247.length c0] rfl (by (try simp only [List.map_toArray, List.map_cons, List.map_nil]); first | done | rfl | (simp only [List.length_drop, List.length_take]; rfl)) ?_; (with_reducible refine (runnelref03_Same.calls kj26 _ _ t236 _ _ y247 false _ ?side1 ?side2 ?side3 ?side4 A44.out).mono ?_); (case side1 => repeat (first | exact (Kd.R_reads' HO_11.out).2.2 | (with_reducible refine Kd.C_alloc ?_ _) | (with_reducible refine Kd.C_drewN ?_ _) | (with_reducible refine Kd.C_drew ?_))); (case side2 => exact (Kd.R_reads' HO_11.out).2.1); (case side3 => repeat (first | exact (Kd.C_below HR250.out HB.out) | (with_reducible refine Kd.C_alloc ?_ _) | (with_reducible refine Kd.C_drewN ?_ _) | (with_reducible refine Kd.C_drew ?_))); (case side4 => exact HC250.out); rintro e w80 ⟨rfl, hb⟩; refine ⟨_, rfl, ?_⟩; have n0_ := Aside0.mk (Kd.R_below (by (with_reducible repeat (first | apply Kd.R_alloc | apply Kd.R_drewN | apply Kd.R_drew)); exact HO_11.out) hb); have n1_ := Aside0.mk (Kd.R_below (by (with_reducible repeat (first | apply Kd.R_alloc | apply Kd.R_drewN | apply Kd.R_drew)); exact HO_12.out) hb); have n2_ := Aside0.mk (below_step (by repeat (first | (with_reducible first | exact HB.out | apply below_alloc | apply pw_below_drewN | apply below_drew1) | exact HB.out)) hb); clear HO_11; clear HO_12; clear HB; have HO_11 := n0_; have HO_12 := n1_; have HB := n2_; clear n0_ n1_ n2_; (try clear hb); (try clear hb2); (try clear hk); (try clear hi)))
                            go_meet
                            case rel => exact ⟨_, (true), (by first | rfl | (simp; done) | (simp [*]; done)), H', ⟨by have := HJ3.out; have := HJ12.out; have := HJ26.out; first | omega | exact Nat.le_refl _⟩, ⟨by (with_reducible repeat (first | apply Kd.R_alloc | apply Kd.R_drewN | apply Kd.R_drew)); exact HO_11.out⟩, ⟨by (with_reducible repeat (first | apply Kd.R_alloc | apply Kd.R_drewN | apply Kd.R_drew)); exact HO_12.out⟩, ⟨by repeat (first | (with_reducible first | exact HB.out | apply below_alloc | apply pw_below_drewN | apply below_drew1) | exact HB.out)⟩⟩
                        · rw [if_neg c43] at H
                          exact absurd H (by simp)
                      · rw [if_neg c42] at H
                        exact absurd H (by simp)
                    case rest =>
                      clear HC41
                      try clear c1
                      try clear c2
                      try clear p2
                      try clear c3
                      try clear c4
                      try clear c5
                      try clear q5
                      try clear c6
                      try clear p6
                      try clear q6
                      try clear c7
                      try clear q7
                      try clear c9
                      try clear c10
                      try clear c18
                      try clear c22
                      try clear c23
                      try clear c24
                      try clear c25
                      try clear c26
                      try clear c28
                      try clear c28b0
                      try clear c29
                      try clear c30
                      try clear c30b0
                      try clear c30b1
                      try clear c32
                      try clear c32b0
                      try clear c32b1
                      try clear c42
                      try clear c42b0
                      try clear c42b1
                      try clear c43
                      try clear c43b0
                      try clear c43b1
                      try clear c45
                      try clear c46
                      try clear c46b0
                      try clear c47
                      try clear c47b0
                      try clear c49
                      try clear c51
                      try clear c51b0
                      try clear c51b1
                      try clear q54
                      try clear c57
                      try clear q57
                      try clear p64
                      try clear q66
                      try clear c69
                      try clear q69
                      try clear q72
                      try clear c75
                      try clear q75
                      try clear q78
                      try clear p2
                      try clear q057
                      try clear q069
                      try clear q075
                      try clear q54
                      try clear q57
                      try clear q66
                      try clear q69
                      try clear q72
                      try clear q75
                      try clear q78
                      obtain ⟨kq, x103_40, rfl, HA, HJ40, HO_11, HO_12, HB⟩ := hcut
                      cases kq with
                      | zero => exact absurd HA.out (by simp [runnellaw03_RowParts.j3])
                      | succ kj40 =>
                        have H := HA.out
                        clear HA
                        simp only [runnellaw03_RowParts.j3] at H
                        by_cases c81 : x103_40 = true
                        · subst c81
                          have H1 : (some false) = some r := by rw [if_pos rfl] at H; exact H
                          clear H
                          have H := H1
                          clear H1
                          obtain rfl := Option.some.inj H
                          go_wp2
                          go_ret
                          exact ⟨by first | rfl | (simp [errW_none, errW_some] <;> rfl) | (simp [*, errW_none, errW_some] <;> rfl), by repeat (first | (with_reducible first | exact HB.out | apply below_alloc | apply pw_below_drewN | apply below_drew1) | exact HB.out)⟩
                        · replace c81 := Bool.eq_false_iff.mpr c81
                          subst c81
                          have H1 : ((some (([] : List (S28)) : List (S28))).bind fun y265 => (if y265.length + l0.length < 4398046511104 then (runnellaw03_RowParts.l0 kj40 l0 t236 t237 (y265 ++ l0) 0) else (none))) = some r := by rw [if_neg (show ¬ (false = true) by decide)] at H; exact H
                          clear H
                          have H := H1
                          clear H1
                          obtain ⟨y265, hy265⟩ : ∃ y_ : List (S28), y_ = (([] : List (S28))) := ⟨_, rfl⟩
                          replace H : (if y265.length + l0.length < 4398046511104 then (runnellaw03_RowParts.l0 kj40 l0 t236 t237 (y265 ++ l0) 0) else (none)) = some r := by first | (rw [hy265]; with_reducible exact H) | (have H2_ := (Option.bind_some _ _).symm.trans H; rw [hy265]; with_reducible exact H2_) | (have H2_ := (Option.bind_some _ _).symm.trans H; with_reducible exact H2_) | with_reducible exact H | (rw [hy265]; exact H) | exact H
                          have Ny265 := Aside0.mk hy265
                          clear hy265
                          by_cases c82 : y265.length + l0.length < 4398046511104
                          · rw [if_pos c82] at H
                            have LMc82 := Aside0.mk c82
                            clear c82
                            obtain ⟨y268, hy268⟩ : ∃ y_ : List (S28), y_ = (y265 ++ l0) := ⟨_, rfl⟩
                            replace H : (runnellaw03_RowParts.l0 kj40 l0 t236 t237 y268 0) = some r := by first | (rw [hy268]; with_reducible exact H) | (have H2_ := (Option.bind_some _ _).symm.trans H; rw [hy268]; with_reducible exact H2_) | (have H2_ := (Option.bind_some _ _).symm.trans H; with_reducible exact H2_) | with_reducible exact H | (rw [hy268]; exact H) | exact H
                            have Ny268 := Aside0.mk hy268
                            clear hy268
                            have H' := Aside0.mk H
                            clear H
                            go_wp2_with (first | ((with_reducible refine gate_dst (N := 104) rfl ?_); (try (refine gate_guard (by rfl) ?_; dsimp only)); refine Kd.R_lit k28 _ 28 ?hg (N := 104) ?hd (xs := ([] : List (S28))) (inner := []) (ok := fun _ => True) (okp := fun _ => True) ?hr ?hp (fun _ hk => hk) trivial (Below.refl _ _) (Nat.le_refl _) (by simp) ?_; (case hd => rfl); (case hg => rfl); (case hr => first | (go_simp; done) | (go_simp; rfl)); (case hp => exact (Reps.none _ _)); intro v266 w83 ho84 hb hg_ hnew_; clear hg_ hnew_; (first | rw [← Ny265.out] at ho84 | (simp only [Int.reduceToNat] at ho84; rw [← Ny265.out] at ho84)); have n0_ := Aside0.mk (Kd.R_elder' (by (with_reducible repeat (first | apply Kd.R_alloc | apply Kd.R_drewN | apply Kd.R_drew)); exact HO_11.out) (Kd.R_base ho84) hb); have n1_ := Aside0.mk (Kd.R_elder' (by (with_reducible repeat (first | apply Kd.R_alloc | apply Kd.R_drewN | apply Kd.R_drew)); exact HO_12.out) (Kd.R_base ho84) hb); have n2_ := Aside0.mk (Kd.R_lower (Kd.R_new' (Kd.R_new' ho84 (Kd.R_lt (by (with_reducible repeat (first | apply Kd.R_alloc | apply Kd.R_drewN | apply Kd.R_drew)); exact HO_11.out))) (Kd.R_lt (by (with_reducible repeat (first | apply Kd.R_alloc | apply Kd.R_drewN | apply Kd.R_drew)); exact HO_12.out))) (below_size (by repeat (first | (with_reducible first | exact HB.out | apply below_alloc | apply pw_below_drewN | apply below_drew1) | exact HB.out)))); have n3_ := Aside0.mk (below_step (by repeat (first | (with_reducible first | exact HB.out | apply below_alloc | apply pw_below_drewN | apply below_drew1) | exact HB.out)) hb); clear HO_11; clear HO_12; clear HB; have HO_11 := n0_; have HO_12 := n1_; have HO267 := n2_; have HB := n3_; clear n0_ n1_ n2_ n3_; clear hb ho84) | ((with_reducible refine gate_builtin (b := .append) (xs := #[.tmp 104, .tmp 105]) rfl ?_); (try (refine gate_guard (by rfl) ?_; dsimp only)); at_builtin; refine Kd.R_append_rows k28 (w0 := w) w.heap.size rfl (.tmp 104) (.tmp 105) 23 28 (.agg #[(.int .i64 0), (.int .i64 0), (.string ⟨#[]⟩)]) 32 rfl Try.underlying23 info28 rfl (by decide) (by omega) v266 y265 l0 _ _ _ (fun k_ => some k_ ≠ (v239 : Value).ownBlock ∧ some k_ ≠ (v241 : Value).ownBlock) (fun _ => False) rfl rfl ?aO ?aR (fun _ _ h => h) (fun _ h => h.elim) ?aF ?aB ?aS ?aL ?_; (case aR => repeat (first | exact (Kd.C_below HR0.out HB.out) | (with_reducible refine Kd.C_alloc ?_ _) | (with_reducible refine Kd.C_drewN ?_ _) | (with_reducible refine Kd.C_drew ?_))); (case aB => exact (by repeat (first | (with_reducible first | exact HB.out | apply below_alloc | apply pw_below_drewN | apply below_drew1) | exact HB.out))); (case aF => exact (fun k_ hk => ⟨Kd.fresh' (Kd.R_lt (by (with_reducible repeat (first | apply Kd.R_alloc | apply Kd.R_drewN | apply Kd.R_drew)); exact HO_11.out)) k_ hk, Kd.fresh' (Kd.R_lt (by (with_reducible repeat (first | apply Kd.R_alloc | apply Kd.R_drewN | apply Kd.R_drew)); exact HO_12.out)) k_ hk⟩)); (case aO => exact (by (with_reducible repeat (first | apply Kd.R_alloc | apply Kd.R_drewN | apply Kd.R_drew)); exact Kd.R_mono HO267.out (fun _ hk => ⟨hk.1.2, hk.2⟩))); (case aS => exact (below_size (by repeat (first | (with_reducible first | exact HB.out | apply below_alloc | apply pw_below_drewN | apply below_drew1) | exact HB.out)))); (case aL => have := LMc82.out; omega); intro v269 w85 ho hb hg hat; rw [← Ny268.out] at ho; have n0_ := Aside0.mk (Kd.R_after (ok := (fun k_ => some k_ ≠ (v241 : Value).ownBlock)) (by (with_reducible repeat (first | apply Kd.R_alloc | apply Kd.R_drewN | apply Kd.R_drew)); exact HO_11.out) hg hat); have n1_ := Aside0.mk (Kd.R_after (ok := (fun k_ => some k_ ≠ (v239 : Value).ownBlock)) (by (with_reducible repeat (first | apply Kd.R_alloc | apply Kd.R_drewN | apply Kd.R_drew)); exact HO_12.out) hg hat); have n2_ := Aside0.mk (hb); have n3_ := Aside0.mk (ho); clear HO_11; clear HO_12; clear HB; clear HO267; have HO_11 := n0_; have HO_12 := n1_; have HB := n2_; have HO270 := n3_; clear n0_ n1_ n2_ n3_; clear ho hb hg hat))
                            go_loopg [15] kj40 (fun kq v15 w' => ∃ (x11_5 : List (S28)) (x15_5 : Int), v15 = .int .i64 x15_5 ∧ Aside0 (runnellaw03_RowParts.l0 kq l0 x11_5 t237 y268 x15_5 = some r) ∧ Aside0 (kq ≤ kj40) ∧ Aside0 (Kd.R k28 28 w' w.heap.size (fun k_ => some k_ ≠ (v241 : Value).ownBlock ∧ some k_ ≠ (v269 : Value).ownBlock) v239 x11_5) ∧ Aside0 (Kd.R k28 28 w' w.heap.size (fun k_ => some k_ ≠ (v239 : Value).ownBlock ∧ some k_ ≠ (v269 : Value).ownBlock) v241 t237) ∧ Aside0 (Kd.R k28 28 w' w.heap.size (fun k_ => some k_ ≠ (v239 : Value).ownBlock ∧ some k_ ≠ (v241 : Value).ownBlock) v269 y268) ∧ Aside0 (Below w.heap.size w w'))
                            case atStart => exact ⟨(t236), (0), (by first | rfl | (simp; done) | (simp [*]; done)), H', ⟨Nat.le_refl _⟩, ⟨by (with_reducible repeat (first | apply Kd.R_alloc | apply Kd.R_drewN | apply Kd.R_drew)); exact Kd.R_mono HO_11.out (fun _ hk => hk)⟩, ⟨by (with_reducible repeat (first | apply Kd.R_alloc | apply Kd.R_drewN | apply Kd.R_drew)); exact Kd.R_mono HO_12.out (fun _ hk => hk)⟩, ⟨by (with_reducible repeat (first | apply Kd.R_alloc | apply Kd.R_drewN | apply Kd.R_drew)); exact HO270.out⟩, ⟨by repeat (first | (with_reducible first | exact HB.out | apply below_alloc | apply pw_below_drewN | apply below_drew1) | exact HB.out)⟩⟩
                            case round =>
                              clear H'
                              try clear c1
                              try clear c2
                              try clear p2
                              try clear c3
                              try clear c4
                              try clear c5
                              try clear q5
                              try clear c6
                              try clear p6
                              try clear q6
                              try clear c7
                              try clear q7
                              try clear c8
                              try clear c9
                              try clear c10
                              try clear c18
                              try clear c22
                              try clear c23
                              try clear c24
                              try clear c25
                              try clear c26
                              try clear c28
                              try clear c28b0
                              try clear c29
                              try clear c30
                              try clear c30b0
                              try clear c30b1
                              try clear c32
                              try clear c32b0
                              try clear c32b1
                              try clear c42
                              try clear c42b0
                              try clear c42b1
                              try clear c43
                              try clear c43b0
                              try clear c43b1
                              try clear c45
                              try clear c46
                              try clear c46b0
                              try clear c47
                              try clear c47b0
                              try clear c49
                              try clear c51
                              try clear c51b0
                              try clear c51b1
                              try clear q54
                              try clear c57
                              try clear q57
                              try clear p64
                              try clear q66
                              try clear c69
                              try clear q69
                              try clear q72
                              try clear c75
                              try clear q75
                              try clear q78
                              try clear c81
                              try clear c82
                              try clear p2
                              try clear p6
                              try clear p64
                              try clear q057
                              try clear q069
                              try clear q075
                              try clear q5
                              try clear q54
                              try clear q57
                              try clear q6
                              try clear q66
                              try clear q69
                              try clear q7
                              try clear q72
                              try clear q75
                              try clear q78
                              obtain ⟨x11_5, x15_5, rfl, HA, HK5, HO_11, HO_12, HO_14, HB⟩ := hrel
                              cases gk with
                              | zero => exact absurd HA.out (by simp [runnellaw03_RowParts.l0])
                              | succ k5 =>
                                have H := HA.out
                                clear HA
                                simp only [runnellaw03_RowParts.l0] at H
                                by_cases c86 : x15_5 < (x11_5.length : Int)
                                · rw [if_pos c86] at H
                                  have c86b0 : decide (x15_5 < (x11_5.length : Int)) = true := decide_eq_true c86
                                  clear c86
                                  by_cases c87 : 0 ≤ x15_5
                                  · rw [if_pos c87] at H
                                    have c87b0 : decide (0 ≤ x15_5) = true := decide_eq_true c87
                                    clear c87
                                    obtain ⟨y272, hy272⟩ : ∃ y_ : List (S28), y_ = (x11_5.set (x15_5 : Int).toNat (⟨(rd_T28 x11_5 x15_5).f0, wrap64 (((rd_T28 x11_5 x15_5).f1) + 1), (rd_T28 x11_5 x15_5).f2⟩ : S28)) := ⟨_, rfl⟩
                                    replace H : (runnellaw03_RowParts.l0 k5 l0 y272 t237 y268 (wrap64 (x15_5 + 1))) = some r := by first | (rw [hy272]; with_reducible exact H) | (have H2_ := (Option.bind_some _ _).symm.trans H; rw [hy272]; with_reducible exact H2_) | (have H2_ := (Option.bind_some _ _).symm.trans H; with_reducible exact H2_) | with_reducible exact H | (rw [hy272]; exact H) | exact H
                                    have Ny272 := Aside0.mk hy272
                                    clear hy272
                                    have H' := Aside0.mk H
                                    clear H
                                    obtain ⟨Ao89, co89, eo89⟩ := Kd.R_slice HO_11.out
                                    subst eo89
                                    have p271 : 0 ≤ (x15_5 : Int) := of_decide_eq_true (by first | (with_reducible assumption) | assumption)
                                    have q271 : x15_5 < (x11_5.length : Int) := of_decide_eq_true (by first | (with_reducible assumption) | assumption)
                                    obtain ⟨ad271, e271, hx271_0, hx271_1, hx271_2⟩ := at_T28 (Kd.R_reads' HO_11.out).2.2 x15_5 p271 q271
                                    cases e271
                                    replace p271 := eq_true p271
                                    replace q271 := eq_true q271
                                    have p88 : 0 ≤ (x15_5 : Int) := of_decide_eq_true (by first | (with_reducible assumption) | assumption)
                                    have q88 : (x15_5 : Int) < ((x11_5.length : Int) : Int) := of_decide_eq_true (by first | (with_reducible assumption) | assumption)
                                    obtain ⟨go88, co88, eo88, gb88, gl88, cl88, HG88⟩ := Kd.R_form HO_11.out (by omega)
                                    (first | cases eo88 | (injection eo88 with ea_ en_ ec_; (first | subst ea_ | (injection ea_ with ea_; subst ea_)); subst ec_; clear en_))
                                    have GB88 := Aside0.mk gb88
                                    have GG88 := Aside0.mk HG88
                                    clear gb88 gl88 HG88
                                    (first | simp only [add_plain] at hx271_0 | skip)
                                    (first | simp only [add_plain] at hx271_1 | skip)
                                    (first | simp only [add_plain] at hx271_2 | skip)
                                    obtain ⟨ce88, hcl88, hM88, hcc88, hfr88⟩ := Kd.R_elem HO_11.out z28 (x15_5 : Int) p88 q88
                                    obtain rfl := k28_openM hM88
                                    have hx88_0 : wr.cell? ⟨go88, (x15_5 : Int).toNat * 3, none⟩ = some (.int .i64 ((rd_T28 x11_5 x15_5).f0)) := hcc88 0 _ rfl
                                    have hx88_1 : wr.cell? ⟨go88, (x15_5 : Int).toNat * 3 + 1, none⟩ = some (.int .i64 ((rd_T28 x11_5 x15_5).f1)) := hcc88 1 _ rfl
                                    have hx88_2 : wr.cell? ⟨go88, (x15_5 : Int).toNat * 3 + 2, none⟩ = some (.string ((rd_T28 x11_5 x15_5).f2)) := hcc88 2 _ rfl
                                    have hf88_0 : wr.frozen? ⟨go88, (x15_5 : Int).toNat * 3, none⟩ = false := hfr88 0
                                    have hf88_1 : wr.frozen? ⟨go88, (x15_5 : Int).toNat * 3 + 1, none⟩ = false := hfr88 1
                                    have hf88_2 : wr.frozen? ⟨go88, (x15_5 : Int).toNat * 3 + 2, none⟩ = false := hfr88 2
                                    clear hcl88 hcc88 hfr88 hM88
                                    replace p88 := eq_true p88
                                    replace q88 := eq_true q88
                                    have HX90 := Aside0.mk (show Kd.R k28 28 wr w.heap.size (fun k_ => some k_ ≠ (v241 : Value).ownBlock ∧ some k_ ≠ (v269 : Value).ownBlock) (.slice (some ⟨go88, 0, none⟩) x11_5.length co89) x11_5 from (by (with_reducible repeat (first | apply Kd.R_alloc | apply Kd.R_drewN | apply Kd.R_drew)); exact HO_11.out))
                                    obtain ⟨ce90, hcl90, hM90, hcc90, hfr90⟩ := Kd.R_elem HX90.out z28 (x15_5 : Int) (of_decide_eq_true (by first | (with_reducible assumption) | assumption)) (by have h_ : (x15_5 : Int) < ((x11_5.length : Int) : Int) := of_decide_eq_true (by first | (with_reducible assumption) | assumption); first | exact h_ | (have e_ := (Kd.R_reads' HO_11.out).1; omega) | simpa using h_)
                                    obtain rfl := k28_openM hM90
                                    have HP90 := Kd.R_seg HX90.out (x15_5 : Int) (of_decide_eq_true (by first | (with_reducible assumption) | assumption)) (by have h_ : (x15_5 : Int) < ((x11_5.length : Int) : Int) := of_decide_eq_true (by first | (with_reducible assumption) | assumption); first | exact h_ | (have e_ := (Kd.R_reads' HO_11.out).1; omega) | simpa using h_) (seg := [.int .i64 (wrap64 (((rd_T28 x11_5 x15_5).f1) + 1))]) (j := 1) hcl90 hcc90 (show 2 ≤ 3 from by decide) (x' := (⟨(rd_T28 x11_5 x15_5).f0, wrap64 (((rd_T28 x11_5 x15_5).f1) + 1), (rd_T28 x11_5 x15_5).f2⟩ : S28)) (k28_mkM _ _ _ (⟨(rd_T28 x11_5 x15_5).f0, wrap64 (((rd_T28 x11_5 x15_5).f1) + 1), (rd_T28 x11_5 x15_5).f2⟩ : S28) ) (fun _ hk => hk)
                                    have hx90_1 := hcc90 1 _ rfl
                                    (try simp only [show (k28).sz = 3 from rfl, Nat.mul_one, Nat.add_zero] at hx90_1)
                                    have hf90_1 := hfr90 1
                                    (try simp only [show (k28).sz = 3 from rfl, Nat.mul_one, Nat.add_zero] at hf90_1)
                                    clear hcl90 hcc90 hfr90 hM90
                                    go_wp2_with (first | ((with_reducible refine gate_store (t := 3) (p := 120) rfl ?_); refine store_event (t := 3) (p := 120) (v := ?vo_w91) (w1 := (wr.setCell ⟨go88, (x15_5 : Int).toNat * 3 + 1, none⟩ (.int .i64 (wrap64 (((rd_T28 x11_5 x15_5).f1) + 1))))) ?hg ?ho ?hn ?hr ?_; (case ho => rfl); (case hg => rfl); (case hn => rfl); (case hr => first | (go_simp; done) | (go_simp; rfl)); intro w91 hw; have hg : wr.grownBy w91 (some go88) := (by rw [hw]; exact HP90.2); have hp_ : Kd.R k28 28 w91 w.heap.size (fun k_ => some k_ ≠ (v241 : Value).ownBlock ∧ some k_ ≠ (v269 : Value).ownBlock) (.slice (some ⟨go88, 0, none⟩) x11_5.length co89) y272 := (by rw [hw, Ny272.out]; exact HP90.1); clear HP90; have n0_ := Aside0.mk (hp_); have n1_ := Aside0.mk (Kd.R_mono (ok' := (fun k_ => some k_ ≠ ((.slice (some ⟨go88, 0, none⟩) x11_5.length co89) : Value).ownBlock ∧ some k_ ≠ (v269 : Value).ownBlock)) (Kd.R_after (v := (.slice (some ⟨go88, 0, none⟩) x11_5.length co89)) (v1 := (.slice (some ⟨go88, 0, none⟩) x11_5.length co89)) (ok := (fun k_ => some k_ ≠ (v269 : Value).ownBlock)) (Kd.R_mono HO_12.out (fun _ hk => ⟨hk.2, hk.1⟩)) hg (.inl rfl)) (fun _ hk => ⟨hk.2, hk.1⟩)); have n2_ := Aside0.mk (Kd.R_after (v := (.slice (some ⟨go88, 0, none⟩) x11_5.length co89)) (v1 := (.slice (some ⟨go88, 0, none⟩) x11_5.length co89)) (ok := (fun k_ => some k_ ≠ (v241 : Value).ownBlock)) (by (with_reducible repeat (first | apply Kd.R_alloc | apply Kd.R_drewN | apply Kd.R_drew)); exact Kd.R_mono HO_14.out (fun _ hk => ⟨hk.2, hk.1⟩)) hg (.inl rfl)); have n3_ := Aside0.mk ((by rw [hw]; exact below_set (HB.out) GB88.out : Below w.heap.size w w91)); clear HO_11; clear HO_12; clear HO_14; clear HB; have HO_11 := n0_; have HO_12 := n1_; have HO_14 := n2_; have HB := n3_; clear n0_ n1_ n2_ n3_; clear hg hw hp_))
                                    go_roundg k5
                                    case measure => have := HJ3.out; have := HJ12.out; have := HJ26.out; have := HJ40.out; have := HK5.out; omega
                                    case rel => exact ⟨(y272), (wrap64 (x15_5 + 1)), (by first | rfl | (simp; done) | (simp [*]; done)), H', ⟨by have := HJ3.out; have := HJ12.out; have := HJ26.out; have := HJ40.out; have := HK5.out; omega⟩, ⟨by (with_reducible repeat (first | apply Kd.R_alloc | apply Kd.R_drewN | apply Kd.R_drew)); exact HO_11.out⟩, ⟨by (with_reducible repeat (first | apply Kd.R_alloc | apply Kd.R_drewN | apply Kd.R_drew)); exact HO_12.out⟩, ⟨by (with_reducible repeat (first | apply Kd.R_alloc | apply Kd.R_drewN | apply Kd.R_drew)); exact Kd.R_mono HO_14.out (fun _ hk => ⟨hk.2, hk.1⟩)⟩, ⟨by repeat (first | (with_reducible first | exact HB.out | apply below_alloc | apply pw_below_drewN | apply below_drew1) | exact HB.out)⟩⟩
                                  · rw [if_neg c87] at H
                                    exact absurd H (by simp)
                                · rw [if_neg c86] at H
                                  have c86b0 : decide (x15_5 < (x11_5.length : Int)) = false := decide_eq_false c86
                                  clear c86
                                  have H' := Aside0.mk H
                                  clear H
                                  obtain ⟨Ao92, co92, eo92⟩ := Kd.R_slice HO_11.out
                                  subst eo92
                                  go_wp2
                                  go_loopg [16] k5 (fun kq v16 w' => ∃ (x12_6 : List (S28)) (x16_6 : Int), v16 = .int .i64 x16_6 ∧ Aside0 (runnellaw03_RowParts.l1 kq l0 x12_6 y268 x16_6 = some r) ∧ Aside0 (kq ≤ k5) ∧ Aside0 (Kd.R k28 28 w' w.heap.size (fun k_ => some k_ ≠ (v269 : Value).ownBlock) v241 x12_6) ∧ Aside0 (Kd.R k28 28 w' w.heap.size (fun k_ => some k_ ≠ (v241 : Value).ownBlock) v269 y268) ∧ Aside0 (Below w.heap.size w w'))
                                  case atStart => exact ⟨(t237), (0), (by first | rfl | (simp; done) | (simp [*]; done)), H', ⟨Nat.le_refl _⟩, ⟨by (with_reducible repeat (first | apply Kd.R_alloc | apply Kd.R_drewN | apply Kd.R_drew)); exact Kd.R_mono HO_12.out (fun _ hk => hk.2)⟩, ⟨by (with_reducible repeat (first | apply Kd.R_alloc | apply Kd.R_drewN | apply Kd.R_drew)); exact Kd.R_mono HO_14.out (fun _ hk => hk.2)⟩, ⟨by repeat (first | (with_reducible first | exact HB.out | apply below_alloc | apply pw_below_drewN | apply below_drew1) | exact HB.out)⟩⟩
                                  case round =>
                                    clear H'
                                    try clear c1
                                    try clear c2
                                    try clear p2
                                    try clear q2
                                    try clear hx2
                                    try clear c3
                                    try clear c4
                                    try clear c5
                                    try clear q5
                                    try clear c6
                                    try clear p6
                                    try clear q6
                                    try clear c7
                                    try clear q7
                                    try clear c8
                                    try clear p8
                                    try clear q8
                                    try clear hx8
                                    try clear hf8
                                    try clear c9
                                    try clear hx9
                                    try clear hf9
                                    try clear c10
                                    try clear c18
                                    try clear c22
                                    try clear c23
                                    try clear c24
                                    try clear c25
                                    try clear c26
                                    try clear p27
                                    try clear q27
                                    try clear hx27
                                    try clear c28
                                    try clear c28b0
                                    try clear c29
                                    try clear c30
                                    try clear c30b0
                                    try clear c30b1
                                    try clear c32
                                    try clear c32b0
                                    try clear c32b1
                                    try clear c42
                                    try clear c42b0
                                    try clear c42b1
                                    try clear c43
                                    try clear c43b0
                                    try clear c43b1
                                    try clear c45
                                    try clear c46
                                    try clear c46b0
                                    try clear c47
                                    try clear c47b0
                                    try clear c49
                                    try clear c51
                                    try clear c51b0
                                    try clear c51b1
                                    try clear q54
                                    try clear c57
                                    try clear q57
                                    try clear p64
                                    try clear q66
                                    try clear c69
                                    try clear q69
                                    try clear q72
                                    try clear c75
                                    try clear q75
                                    try clear q78
                                    try clear c81
                                    try clear c82
                                    try clear c86
                                    try clear c86b0
                                    try clear c87
                                    try clear c87b0
                                    try clear c88
                                    try clear p88
                                    try clear q88
                                    try clear hx88
                                    try clear hf88
                                    try clear c90
                                    try clear hx90
                                    try clear hf90
                                    try clear hx271_0
                                    try clear hx271_1
                                    try clear hx271_2
                                    try clear hx88_0
                                    try clear hx88_1
                                    try clear hx88_2
                                    try clear hx90_1
                                    try clear p2
                                    try clear p271
                                    try clear p6
                                    try clear p64
                                    try clear p88
                                    try clear q057
                                    try clear q069
                                    try clear q075
                                    try clear q271
                                    try clear q5
                                    try clear q54
                                    try clear q57
                                    try clear q6
                                    try clear q66
                                    try clear q69
                                    try clear q7
                                    try clear q72
                                    try clear q75
                                    try clear q78
                                    try clear q88
                                    obtain ⟨x12_6, x16_6, rfl, HA, HK6, HO_12, HO_14, HB⟩ := hrel
                                    cases gk with
                                    | zero => exact absurd HA.out (by simp [runnellaw03_RowParts.l1])
                                    | succ k6 =>
                                      have H := HA.out
                                      clear HA
                                      simp only [runnellaw03_RowParts.l1] at H
                                      by_cases c93 : x16_6 < (x12_6.length : Int)
                                      · rw [if_pos c93] at H
                                        have c93b0 : decide (x16_6 < (x12_6.length : Int)) = true := decide_eq_true c93
                                        clear c93
                                        by_cases c94 : 0 ≤ x16_6
                                        · rw [if_pos c94] at H
                                          have c94b0 : decide (0 ≤ x16_6) = true := decide_eq_true c94
                                          clear c94
                                          obtain ⟨y274, hy274⟩ : ∃ y_ : List (S28), y_ = (x12_6.set (x16_6 : Int).toNat (⟨(rd_T28 x12_6 x16_6).f0, wrap64 (((rd_T28 x12_6 x16_6).f1) + 1), (rd_T28 x12_6 x16_6).f2⟩ : S28)) := ⟨_, rfl⟩
                                          replace H : (runnellaw03_RowParts.l1 k6 l0 y274 y268 (wrap64 (x16_6 + 1))) = some r := by first | (rw [hy274]; with_reducible exact H) | (have H2_ := (Option.bind_some _ _).symm.trans H; rw [hy274]; with_reducible exact H2_) | (have H2_ := (Option.bind_some _ _).symm.trans H; with_reducible exact H2_) | with_reducible exact H | (rw [hy274]; exact H) | exact H
                                          have Ny274 := Aside0.mk hy274
                                          clear hy274
                                          have H' := Aside0.mk H
                                          clear H
                                          obtain ⟨Ao96, co96, eo96⟩ := Kd.R_slice HO_12.out
                                          subst eo96
                                          have p273 : 0 ≤ (x16_6 : Int) := of_decide_eq_true (by first | (with_reducible assumption) | assumption)
                                          have q273 : x16_6 < (x12_6.length : Int) := of_decide_eq_true (by first | (with_reducible assumption) | assumption)
                                          obtain ⟨ad273, e273, hx273_0, hx273_1, hx273_2⟩ := at_T28 (Kd.R_reads' HO_12.out).2.2 x16_6 p273 q273
                                          cases e273
                                          replace p273 := eq_true p273
                                          replace q273 := eq_true q273
                                          have p95 : 0 ≤ (x16_6 : Int) := of_decide_eq_true (by first | (with_reducible assumption) | assumption)
                                          have q95 : (x16_6 : Int) < ((x12_6.length : Int) : Int) := of_decide_eq_true (by first | (with_reducible assumption) | assumption)
                                          obtain ⟨go95, co95, eo95, gb95, gl95, cl95, HG95⟩ := Kd.R_form HO_12.out (by omega)
                                          (first | cases eo95 | (injection eo95 with ea_ en_ ec_; (first | subst ea_ | (injection ea_ with ea_; subst ea_)); subst ec_; clear en_))
                                          have GB95 := Aside0.mk gb95
                                          have GG95 := Aside0.mk HG95
                                          clear gb95 gl95 HG95
                                          (first | simp only [add_plain] at hx273_0 | skip)
                                          (first | simp only [add_plain] at hx273_1 | skip)
                                          (first | simp only [add_plain] at hx273_2 | skip)
                                          obtain ⟨ce95, hcl95, hM95, hcc95, hfr95⟩ := Kd.R_elem HO_12.out z28 (x16_6 : Int) p95 q95
                                          obtain rfl := k28_openM hM95
                                          have hx95_0 : wr.cell? ⟨go95, (x16_6 : Int).toNat * 3, none⟩ = some (.int .i64 ((rd_T28 x12_6 x16_6).f0)) := hcc95 0 _ rfl
                                          have hx95_1 : wr.cell? ⟨go95, (x16_6 : Int).toNat * 3 + 1, none⟩ = some (.int .i64 ((rd_T28 x12_6 x16_6).f1)) := hcc95 1 _ rfl
                                          have hx95_2 : wr.cell? ⟨go95, (x16_6 : Int).toNat * 3 + 2, none⟩ = some (.string ((rd_T28 x12_6 x16_6).f2)) := hcc95 2 _ rfl
                                          have hf95_0 : wr.frozen? ⟨go95, (x16_6 : Int).toNat * 3, none⟩ = false := hfr95 0
                                          have hf95_1 : wr.frozen? ⟨go95, (x16_6 : Int).toNat * 3 + 1, none⟩ = false := hfr95 1
                                          have hf95_2 : wr.frozen? ⟨go95, (x16_6 : Int).toNat * 3 + 2, none⟩ = false := hfr95 2
                                          clear hcl95 hcc95 hfr95 hM95
                                          replace p95 := eq_true p95
                                          replace q95 := eq_true q95
                                          have HX97 := Aside0.mk (show Kd.R k28 28 wr w.heap.size (fun k_ => some k_ ≠ (v269 : Value).ownBlock) (.slice (some ⟨go95, 0, none⟩) x12_6.length co96) x12_6 from (by (with_reducible repeat (first | apply Kd.R_alloc | apply Kd.R_drewN | apply Kd.R_drew)); exact HO_12.out))
                                          obtain ⟨ce97, hcl97, hM97, hcc97, hfr97⟩ := Kd.R_elem HX97.out z28 (x16_6 : Int) (of_decide_eq_true (by first | (with_reducible assumption) | assumption)) (by have h_ : (x16_6 : Int) < ((x12_6.length : Int) : Int) := of_decide_eq_true (by first | (with_reducible assumption) | assumption); first | exact h_ | (have e_ := (Kd.R_reads' HO_12.out).1; omega) | simpa using h_)
                                          obtain rfl := k28_openM hM97
                                          have HP97 := Kd.R_seg HX97.out (x16_6 : Int) (of_decide_eq_true (by first | (with_reducible assumption) | assumption)) (by have h_ : (x16_6 : Int) < ((x12_6.length : Int) : Int) := of_decide_eq_true (by first | (with_reducible assumption) | assumption); first | exact h_ | (have e_ := (Kd.R_reads' HO_12.out).1; omega) | simpa using h_) (seg := [.int .i64 (wrap64 (((rd_T28 x12_6 x16_6).f1) + 1))]) (j := 1) hcl97 hcc97 (show 2 ≤ 3 from by decide) (x' := (⟨(rd_T28 x12_6 x16_6).f0, wrap64 (((rd_T28 x12_6 x16_6).f1) + 1), (rd_T28 x12_6 x16_6).f2⟩ : S28)) (k28_mkM _ _ _ (⟨(rd_T28 x12_6 x16_6).f0, wrap64 (((rd_T28 x12_6 x16_6).f1) + 1), (rd_T28 x12_6 x16_6).f2⟩ : S28) ) (fun _ hk => hk)
                                          have hx97_1 := hcc97 1 _ rfl
                                          (try simp only [show (k28).sz = 3 from rfl, Nat.mul_one, Nat.add_zero] at hx97_1)
                                          have hf97_1 := hfr97 1
                                          (try simp only [show (k28).sz = 3 from rfl, Nat.mul_one, Nat.add_zero] at hf97_1)
                                          clear hcl97 hcc97 hfr97 hM97
                                          go_wp2_with (first | ((with_reducible refine gate_store (t := 3) (p := 134) rfl ?_); refine store_event (t := 3) (p := 134) (v := ?vo_w98) (w1 := (wr.setCell ⟨go95, (x16_6 : Int).toNat * 3 + 1, none⟩ (.int .i64 (wrap64 (((rd_T28 x12_6 x16_6).f1) + 1))))) ?hg ?ho ?hn ?hr ?_; (case ho => rfl); (case hg => rfl); (case hn => rfl); (case hr => first | (go_simp; done) | (go_simp; rfl)); intro w98 hw; have hg : wr.grownBy w98 (some go95) := (by rw [hw]; exact HP97.2); have hp_ : Kd.R k28 28 w98 w.heap.size (fun k_ => some k_ ≠ (v269 : Value).ownBlock) (.slice (some ⟨go95, 0, none⟩) x12_6.length co96) y274 := (by rw [hw, Ny274.out]; exact HP97.1); clear HP97; have n0_ := Aside0.mk (hp_); have n1_ := Aside0.mk (Kd.R_after (v := (.slice (some ⟨go95, 0, none⟩) x12_6.length co96)) (v1 := (.slice (some ⟨go95, 0, none⟩) x12_6.length co96)) (ok := (fun _ => True)) (by (with_reducible repeat (first | apply Kd.R_alloc | apply Kd.R_drewN | apply Kd.R_drew)); exact Kd.R_mono HO_14.out (fun _ hk => ⟨trivial, hk⟩)) hg (.inl rfl)); have n2_ := Aside0.mk ((by rw [hw]; exact below_set (HB.out) GB95.out : Below w.heap.size w w98)); clear HO_12; clear HO_14; clear HB; have HO_12 := n0_; have HO_14 := n1_; have HB := n2_; clear n0_ n1_ n2_; clear hg hw hp_))
                                          go_roundg k6
                                          case measure => have := HJ3.out; have := HJ12.out; have := HJ26.out; have := HJ40.out; have := HK5.out; have := HK6.out; omega
                                          case rel => exact ⟨(y274), (wrap64 (x16_6 + 1)), (by first | rfl | (simp; done) | (simp [*]; done)), H', ⟨by have := HJ3.out; have := HJ12.out; have := HJ26.out; have := HJ40.out; have := HK5.out; have := HK6.out; omega⟩, ⟨by (with_reducible repeat (first | apply Kd.R_alloc | apply Kd.R_drewN | apply Kd.R_drew)); exact HO_12.out⟩, ⟨by (with_reducible repeat (first | apply Kd.R_alloc | apply Kd.R_drewN | apply Kd.R_drew)); exact Kd.R_mono HO_14.out (fun _ hk => hk.2)⟩, ⟨by repeat (first | (with_reducible first | exact HB.out | apply below_alloc | apply pw_below_drewN | apply below_drew1) | exact HB.out)⟩⟩
                                        · rw [if_neg c94] at H
                                          exact absurd H (by simp)
                                      · rw [if_neg c93] at H
                                        have c93b0 : decide (x16_6 < (x12_6.length : Int)) = false := decide_eq_false c93
                                        clear c93
                                        replace H := Option.bind_eq_some_iff.mp H
                                        obtain ⟨t275, A990, H⟩ := H
                                        replace H : (if t275 = true then ((runnellaw03_live.f k6).bind fun t276 => (some t276)) else (some false)) = some r := H
                                        have A99 := Aside0.mk A990
                                        clear A990
                                        by_cases c100 : t275 = true
                                        · subst c100
                                          have H1 : ((runnellaw03_live.f k6).bind fun t276 => (some t276)) = some r := by rw [if_pos rfl] at H; exact H
                                          clear H
                                          have H := H1
                                          clear H1
                                          replace H := Option.bind_eq_some_iff.mp H
                                          obtain ⟨t276, A1010, H⟩ := H
                                          replace H : (some t276) = some r := H
                                          have A101 := Aside0.mk A1010
                                          clear A1010
                                          obtain rfl := Option.some.inj H
                                          obtain ⟨Ao102, co102, eo102⟩ := Kd.R_slice HO_12.out
                                          subst eo102
                                          obtain ⟨Ao103, co103, eo103⟩ := Kd.R_slice HO_14.out
                                          subst eo103
                                          go_wp2_with (first | ((with_reducible refine gate_callee (f := 25) rfl ?_); refine goesL_ (some 137) rfl rfl Try.func25 (by kernel_rfl) rfl #[.slice Ao103 y268.length co103, .slice A0 l0.length c0] rfl (by (try simp only [List.map_toArray, List.map_cons, List.map_nil]); first | done | rfl | (simp only [List.length_drop, List.length_take]; rfl)) ?_; (with_reducible refine (runnelref03_Same.calls k6 _ _ y268 _ _ l0 true _ ?side1 ?side2 ?side3 ?side4 A99.out).mono ?_); (case side1 => repeat (first | exact (Kd.R_reads' HO_14.out).2.2 | (with_reducible refine Kd.C_alloc ?_ _) | (with_reducible refine Kd.C_drewN ?_ _) | (with_reducible refine Kd.C_drew ?_))); (case side2 => exact (Kd.R_reads' HO_14.out).2.1); (case side3 => repeat (first | exact (Kd.C_below HR0.out HB.out) | (with_reducible refine Kd.C_alloc ?_ _) | (with_reducible refine Kd.C_drewN ?_ _) | (with_reducible refine Kd.C_drew ?_))); (case side4 => exact HC0.out); rintro e w104 ⟨rfl, hb⟩; refine ⟨_, rfl, ?_⟩; have n0_ := Aside0.mk (Kd.R_below (by (with_reducible repeat (first | apply Kd.R_alloc | apply Kd.R_drewN | apply Kd.R_drew)); exact HO_12.out) hb); have n1_ := Aside0.mk (Kd.R_below (by (with_reducible repeat (first | apply Kd.R_alloc | apply Kd.R_drewN | apply Kd.R_drew)); exact HO_14.out) hb); have n2_ := Aside0.mk (below_step (by repeat (first | (with_reducible first | exact HB.out | apply below_alloc | apply pw_below_drewN | apply below_drew1) | exact HB.out)) hb); clear HO_12; clear HO_14; clear HB; have HO_12 := n0_; have HO_14 := n1_; have HB := n2_; clear n0_ n1_ n2_; (try clear hb); (try clear hb2); (try clear hk); (try clear hi)) | (go_at_call 10; (with_reducible refine (runnellaw03_live.calls k6  t276 _ A101.out).mono ?_); rintro e w105 ⟨rfl, hb⟩; have n0_ := Aside0.mk (Kd.R_below (by (with_reducible repeat (first | apply Kd.R_alloc | apply Kd.R_drewN | apply Kd.R_drew)); exact HO_12.out) hb); have n1_ := Aside0.mk (Kd.R_below (by (with_reducible repeat (first | apply Kd.R_alloc | apply Kd.R_drewN | apply Kd.R_drew)); exact HO_14.out) hb); have n2_ := Aside0.mk (below_step (by repeat (first | (with_reducible first | exact HB.out | apply below_alloc | apply pw_below_drewN | apply below_drew1) | exact HB.out)) hb); clear HO_12; clear HO_14; clear HB; have HO_12 := n0_; have HO_14 := n1_; have HB := n2_; clear n0_ n1_ n2_; (try clear hb); (try clear hb2); (try clear hk); (try clear hi)))
                                          go_ret
                                          exact ⟨by first | rfl | (simp [errW_none, errW_some] <;> rfl) | (simp [*, errW_none, errW_some] <;> rfl), by repeat (first | (with_reducible first | exact HB.out | apply below_alloc | apply pw_below_drewN | apply below_drew1) | exact HB.out)⟩
                                        · replace c100 := Bool.eq_false_iff.mpr c100
                                          subst c100
                                          have H1 : (some false) = some r := by rw [if_neg (show ¬ (false = true) by decide)] at H; exact H
                                          clear H
                                          have H := H1
                                          clear H1
                                          obtain rfl := Option.some.inj H
                                          obtain ⟨Ao106, co106, eo106⟩ := Kd.R_slice HO_12.out
                                          subst eo106
                                          obtain ⟨Ao107, co107, eo107⟩ := Kd.R_slice HO_14.out
                                          subst eo107
                                          go_wp2_with (first | ((with_reducible refine gate_callee (f := 25) rfl ?_); refine goesL_ (some 137) rfl rfl Try.func25 (by kernel_rfl) rfl #[.slice Ao107 y268.length co107, .slice A0 l0.length c0] rfl (by (try simp only [List.map_toArray, List.map_cons, List.map_nil]); first | done | rfl | (simp only [List.length_drop, List.length_take]; rfl)) ?_; (with_reducible refine (runnelref03_Same.calls k6 _ _ y268 _ _ l0 false _ ?side1 ?side2 ?side3 ?side4 A99.out).mono ?_); (case side1 => repeat (first | exact (Kd.R_reads' HO_14.out).2.2 | (with_reducible refine Kd.C_alloc ?_ _) | (with_reducible refine Kd.C_drewN ?_ _) | (with_reducible refine Kd.C_drew ?_))); (case side2 => exact (Kd.R_reads' HO_14.out).2.1); (case side3 => repeat (first | exact (Kd.C_below HR0.out HB.out) | (with_reducible refine Kd.C_alloc ?_ _) | (with_reducible refine Kd.C_drewN ?_ _) | (with_reducible refine Kd.C_drew ?_))); (case side4 => exact HC0.out); rintro e w108 ⟨rfl, hb⟩; refine ⟨_, rfl, ?_⟩; have n0_ := Aside0.mk (Kd.R_below (by (with_reducible repeat (first | apply Kd.R_alloc | apply Kd.R_drewN | apply Kd.R_drew)); exact HO_12.out) hb); have n1_ := Aside0.mk (Kd.R_below (by (with_reducible repeat (first | apply Kd.R_alloc | apply Kd.R_drewN | apply Kd.R_drew)); exact HO_14.out) hb); have n2_ := Aside0.mk (below_step (by repeat (first | (with_reducible first | exact HB.out | apply below_alloc | apply pw_below_drewN | apply below_drew1) | exact HB.out)) hb); clear HO_12; clear HO_14; clear HB; have HO_12 := n0_; have HO_14 := n1_; have HB := n2_; clear n0_ n1_ n2_; (try clear hb); (try clear hb2); (try clear hk); (try clear hi)))
                                          go_ret
                                          exact ⟨by first | rfl | (simp [errW_none, errW_some] <;> rfl) | (simp [*, errW_none, errW_some] <;> rfl), by repeat (first | (with_reducible first | exact HB.out | apply below_alloc | apply pw_below_drewN | apply below_drew1) | exact HB.out)⟩
                          · rw [if_neg c82] at H
                            exact absurd H (by simp)

end Go.Proofs.Ytdbpkfbjcmjkhaa.PRowParts
