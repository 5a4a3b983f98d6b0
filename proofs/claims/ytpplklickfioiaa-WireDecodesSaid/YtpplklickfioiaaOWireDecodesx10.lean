/- One piece of the machine's side of the law, written by a program over the translation; Lean checks it. -/
import Derived.Test.YtpplklickfioiaaOWireDecodesx0
import Derived.Test.YtpplklickfioiaaOWireDecodesx2
import Derived.Test.YtpplklickfioiaaOWireDecodesx8
import Derived.Test.YtpplklickfioiaaOWireDecodesx9
import Derived.Test.YtpplklickfioiaaShort
namespace Go.Proofs.Ytpplklickfioiaa.PWireDecodes
open Go.RowKit Go.Proofs.YtpplklickfioiaaW.PrintWords Go.Proofs.YtpplklickfioiaaW.PrintLast Go.Proofs.YtpplklickfioiaaW.PrintMore
attribute [local go_sem] max2_int min2_int max_two min_two max_three min_three max_four min_four   -- for this text's walks alone
set_option linter.unusedVariables false
set_option linter.unusedSimpArgs false

/-! ### wire_Get: function 14 -/
mutual
def wire_Get.j0 : Nat → List Int → Int → Bool → Int → Int → Int → Int → Int → Int → Option (Int × Int × (List (S103)) × Int × Int × Int × (List (S36)) × Int × List Int × Int × Int)
 | 0, _, _, _, _, _, _, _, _, _ => none
 | k + 1, x0, x1, x12, x337000, x337001, x337003, x337004, x337005, x337007 => if x12 = true then (some (0, 0, ([] : List (S103)), 0, 0, 0, ([] : List (S36)), 0, ([] : List Int), 0, 9)) else (if x1 = (x0.length : Int) then (some (0, 0, ([] : List (S103)), 0, 0, 0, ([] : List (S36)), 0, ([] : List Int), 0, 6)) else (if 0 ≤ x1 then (if x1 < (x0.length : Int) then ((wire_uses.f k (wrap64 (rd x0 x1))).bind fun t338 => (if t338 = 0 then (some (0, 0, ([] : List (S103)), 0, 0, 0, ([] : List (S36)), 0, ([] : List Int), 0, 6)) else ((wire_uses.f k (wrap64 (rd x0 x1))).bind fun t340 => (if (Go.bits .and .i64 t340 1) > 0 then ((wire_reader_int.f k x0 (wrap64 (x1 + 1)) 0).bind fun bt342 => (wire_Get.j1 k x0 t340 (wrap64 (rd x0 x1)) bt342.1 x337003 x337004 x337005 x337007 x0 bt342.2.1 bt342.2.2)) else (wire_Get.j1 k x0 t340 (wrap64 (rd x0 x1)) x337001 x337003 x337004 x337005 x337007 x0 (wrap64 (x1 + 1)) 0))))) else (none)) else (none)))
def wire_Get.j1 : Nat → List Int → Int → Int → Int → Int → Int → Int → Int → List Int → Int → Int → Option (Int × Int × (List (S103)) × Int × Int × Int × (List (S36)) × Int × List Int × Int × Int)
 | 0, _, _, _, _, _, _, _, _, _, _, _ => none
 | k + 1, x0, x7, x337000, x337001, x337003, x337004, x337005, x337007, x342000, x342001, x342002 => if (Go.bits .and .i64 x7 2) > 0 then ((wire_reader_int.f k x342000 x342001 x342002).bind fun bt345 => (wire_Get.j2 k x0 x7 x337000 x337001 x337003 x337004 x337005 bt345.1 x342000 bt345.2.1 bt345.2.2)) else (wire_Get.j2 k x0 x7 x337000 x337001 x337003 x337004 x337005 x337007 x342000 x342001 x342002)
def wire_Get.j2 : Nat → List Int → Int → Int → Int → Int → Int → Int → Int → List Int → Int → Int → Option (Int × Int × (List (S103)) × Int × Int × Int × (List (S36)) × Int × List Int × Int × Int)
 | 0, _, _, _, _, _, _, _, _, _, _, _ => none
 | k + 1, x0, x7, x337000, x337001, x337003, x337004, x337005, x337007, x342000, x342001, x342002 => if (Go.bits .and .i64 x7 4) > 0 then ((num_GetText.f k x0 x342001 65536).bind fun bt348 => ((wire_keep_string.f x342000 x342001 x342002 bt348.1 bt348.2.1 bt348.2.2).bind fun bt351 => ((main_main.f bt351.1).bind fun t354 => (wire_Get.j3 k x7 x337000 x337001 x337003 x337004 x337005 x337007 t354 x342000 bt351.2.1 bt351.2.2)))) else (wire_Get.j3 k x7 x337000 x337001 x337003 x337004 x337005 x337007 ([] : List Int) x342000 x342001 x342002)
def wire_Get.j3 : Nat → Int → Int → Int → Int → Int → Int → Int → List Int → List Int → Int → Int → Option (Int × Int × (List (S103)) × Int × Int × Int × (List (S36)) × Int × List Int × Int × Int)
 | 0, _, _, _, _, _, _, _, _, _, _, _ => none
 | k + 1, x7, x337000, x337001, x337003, x337004, x337005, x337007, x337008, x342000, x342001, x342002 => if (Go.bits .and .i64 x7 8) > 0 then ((wire_reader_up.f k x342000 x342001 x342002).bind fun bt357 => (wire_Get.j4 k x7 x337000 x337001 bt357.1 bt357.2.1 bt357.2.2.1 bt357.2.2.2.1 x337007 x337008 x342000 bt357.2.2.2.2.1 bt357.2.2.2.2.2)) else (wire_Get.j4 k x7 x337000 x337001 ([] : List (S103)) x337003 x337004 x337005 x337007 x337008 x342000 x342001 x342002)
def wire_Get.j4 : Nat → Int → Int → Int → List (S103) → Int → Int → Int → Int → List Int → List Int → Int → Int → Option (Int × Int × (List (S103)) × Int × Int × Int × (List (S36)) × Int × List Int × Int × Int)
 | 0, _, _, _, _, _, _, _, _, _, _, _, _ => none
 | k + 1, x7, x337000, x337001, x337002, x337003, x337004, x337005, x337007, x337008, x342000, x342001, x342002 => if (Go.bits .and .i64 x7 16) > 0 then ((wire_reader_time.f k x342000 x342001 x342002).bind fun bt365 => (wire_Get.j5 k x7 x337000 x337001 x337002 bt365.1 bt365.2.1 x337005 x337007 x337008 x342000 bt365.2.2.1 bt365.2.2.2)) else (wire_Get.j5 k x7 x337000 x337001 x337002 x337003 x337004 x337005 x337007 x337008 x342000 x342001 x342002)
def wire_Get.j5 : Nat → Int → Int → Int → List (S103) → Int → Int → Int → Int → List Int → List Int → Int → Int → Option (Int × Int × (List (S103)) × Int × Int × Int × (List (S36)) × Int × List Int × Int × Int)
 | 0, _, _, _, _, _, _, _, _, _, _, _, _ => none
 | k + 1, x7, x337000, x337001, x337002, x337003, x337004, x337005, x337007, x337008, x342000, x342001, x342002 => if (Go.bits .and .i64 x7 32) > 0 then ((wire_reader_front.f k x342000 x342001 x342002).bind fun bt369 => (if bt369.2.2 = 0 then (some (x337000, x337001, x337002, x337003, x337004, x337005, bt369.1, x337007, x337008, bt369.2.1, 0)) else (some (0, 0, ([] : List (S103)), 0, 0, 0, ([] : List (S36)), 0, ([] : List Int), 0, bt369.2.2)))) else (if x342002 = 0 then (some (x337000, x337001, x337002, x337003, x337004, x337005, ([] : List (S36)), x337007, x337008, x342001, 0)) else (some (0, 0, ([] : List (S103)), 0, 0, 0, ([] : List (S36)), 0, ([] : List Int), 0, x342002)))
end
def wire_Get.f (k : Nat) (l0 : List Int) (a1 : Int) : Option (Int × Int × (List (S103)) × Int × Int × Int × (List (S36)) × Int × List Int × Int × Int) := if a1 < 0 then (wire_Get.j0 k l0 a1 true 0 0 0 0 0 0) else (wire_Get.j0 k l0 a1 (decide (a1 > (l0.length : Int))) 0 0 0 0 0 0)
theorem wire_Get.mono_l : ∀ k, (∀ y0 y1 y2 y3 y4 y5 y6 y7 y8, LeO (wire_Get.j0 k y0 y1 y2 y3 y4 y5 y6 y7 y8) (wire_Get.j0 (k + 1) y0 y1 y2 y3 y4 y5 y6 y7 y8)) ∧ (∀ y0 y1 y2 y3 y4 y5 y6 y7 y8 y9 y10, LeO (wire_Get.j1 k y0 y1 y2 y3 y4 y5 y6 y7 y8 y9 y10) (wire_Get.j1 (k + 1) y0 y1 y2 y3 y4 y5 y6 y7 y8 y9 y10)) ∧ (∀ y0 y1 y2 y3 y4 y5 y6 y7 y8 y9 y10, LeO (wire_Get.j2 k y0 y1 y2 y3 y4 y5 y6 y7 y8 y9 y10) (wire_Get.j2 (k + 1) y0 y1 y2 y3 y4 y5 y6 y7 y8 y9 y10)) ∧ (∀ y0 y1 y2 y3 y4 y5 y6 y7 y8 y9 y10, LeO (wire_Get.j3 k y0 y1 y2 y3 y4 y5 y6 y7 y8 y9 y10) (wire_Get.j3 (k + 1) y0 y1 y2 y3 y4 y5 y6 y7 y8 y9 y10)) ∧ (∀ y0 y1 y2 y3 y4 y5 y6 y7 y8 y9 y10 y11, LeO (wire_Get.j4 k y0 y1 y2 y3 y4 y5 y6 y7 y8 y9 y10 y11) (wire_Get.j4 (k + 1) y0 y1 y2 y3 y4 y5 y6 y7 y8 y9 y10 y11)) ∧ (∀ y0 y1 y2 y3 y4 y5 y6 y7 y8 y9 y10 y11, LeO (wire_Get.j5 k y0 y1 y2 y3 y4 y5 y6 y7 y8 y9 y10 y11) (wire_Get.j5 (k + 1) y0 y1 y2 y3 y4 y5 y6 y7 y8 y9 y10 y11))
 | 0 => ⟨fun _ _ _ _ _ _ _ _ _ r h => by simp [wire_Get.j0] at h, fun _ _ _ _ _ _ _ _ _ _ _ r h => by simp [wire_Get.j1] at h, fun _ _ _ _ _ _ _ _ _ _ _ r h => by simp [wire_Get.j2] at h, fun _ _ _ _ _ _ _ _ _ _ _ r h => by simp [wire_Get.j3] at h, fun _ _ _ _ _ _ _ _ _ _ _ _ r h => by simp [wire_Get.j4] at h, fun _ _ _ _ _ _ _ _ _ _ _ _ r h => by simp [wire_Get.j5] at h⟩
 | k + 1 => by
  obtain ⟨ih0, ih1, ih2, ih3, ih4, ih5⟩ := wire_Get.mono_l k
  refine ⟨?_, ?_, ?_, ?_, ?_, ?_⟩
  ·
   intro y0 y1 y2 y3 y4 y5 y6 y7 y8
   unfold wire_Get.j0
   repeat' first
   | (with_reducible exact ih0 _ _ _ _ _ _ _ _ _)
   | (with_reducible exact ih1 _ _ _ _ _ _ _ _ _ _ _)
   | (with_reducible exact ih2 _ _ _ _ _ _ _ _ _ _ _)
   | (with_reducible exact ih3 _ _ _ _ _ _ _ _ _ _ _)
   | (with_reducible exact ih4 _ _ _ _ _ _ _ _ _ _ _ _)
   | (with_reducible exact ih5 _ _ _ _ _ _ _ _ _ _ _ _)
   | (with_reducible exact num_GetText.mono _ _ _ _)
   | (with_reducible exact wire_reader_front.mono _ _ _ _)
   | (with_reducible exact wire_reader_int.mono _ _ _ _)
   | (with_reducible exact wire_reader_time.mono _ _ _ _)
   | (with_reducible exact wire_reader_up.mono _ _ _ _)
   | (with_reducible exact wire_uses.mono _ _)
   | (with_reducible exact LeO.refl _)
   | (with_reducible exact LeO.none _)
   | (with_reducible refine LeO.ite ?_ ?_)
   | (with_reducible refine LeO.bind ?_ (fun _ => ?_))
   | exact ih0 _ _ _ _ _ _ _ _ _
   | exact ih1 _ _ _ _ _ _ _ _ _ _ _
   | exact ih2 _ _ _ _ _ _ _ _ _ _ _
   | exact ih3 _ _ _ _ _ _ _ _ _ _ _
   | exact ih4 _ _ _ _ _ _ _ _ _ _ _ _
   | exact ih5 _ _ _ _ _ _ _ _ _ _ _ _
   | exact num_GetText.mono _ _ _ _
   | exact wire_reader_front.mono _ _ _ _
   | exact wire_reader_int.mono _ _ _ _
   | exact wire_reader_time.mono _ _ _ _
   | exact wire_reader_up.mono _ _ _ _
   | exact wire_uses.mono _ _
   | exact LeO.none _
   | refine LeO.ite ?_ ?_
   | refine LeO.bind ?_ (fun _ => ?_)
  ·
   intro y0 y1 y2 y3 y4 y5 y6 y7 y8 y9 y10
   unfold wire_Get.j1
   repeat' first
   | (with_reducible exact ih0 _ _ _ _ _ _ _ _ _)
   | (with_reducible exact ih1 _ _ _ _ _ _ _ _ _ _ _)
   | (with_reducible exact ih2 _ _ _ _ _ _ _ _ _ _ _)
   | (with_reducible exact ih3 _ _ _ _ _ _ _ _ _ _ _)
   | (with_reducible exact ih4 _ _ _ _ _ _ _ _ _ _ _ _)
   | (with_reducible exact ih5 _ _ _ _ _ _ _ _ _ _ _ _)
   | (with_reducible exact num_GetText.mono _ _ _ _)
   | (with_reducible exact wire_reader_front.mono _ _ _ _)
   | (with_reducible exact wire_reader_int.mono _ _ _ _)
   | (with_reducible exact wire_reader_time.mono _ _ _ _)
   | (with_reducible exact wire_reader_up.mono _ _ _ _)
   | (with_reducible exact wire_uses.mono _ _)
   | (with_reducible exact LeO.refl _)
   | (with_reducible exact LeO.none _)
   | (with_reducible refine LeO.ite ?_ ?_)
   | (with_reducible refine LeO.bind ?_ (fun _ => ?_))
   | exact ih0 _ _ _ _ _ _ _ _ _
   | exact ih1 _ _ _ _ _ _ _ _ _ _ _
   | exact ih2 _ _ _ _ _ _ _ _ _ _ _
   | exact ih3 _ _ _ _ _ _ _ _ _ _ _
   | exact ih4 _ _ _ _ _ _ _ _ _ _ _ _
   | exact ih5 _ _ _ _ _ _ _ _ _ _ _ _
   | exact num_GetText.mono _ _ _ _
   | exact wire_reader_front.mono _ _ _ _
   | exact wire_reader_int.mono _ _ _ _
   | exact wire_reader_time.mono _ _ _ _
   | exact wire_reader_up.mono _ _ _ _
   | exact wire_uses.mono _ _
   | exact LeO.none _
   | refine LeO.ite ?_ ?_
   | refine LeO.bind ?_ (fun _ => ?_)
  ·
   intro y0 y1 y2 y3 y4 y5 y6 y7 y8 y9 y10
   unfold wire_Get.j2
   repeat' first
   | (with_reducible exact ih0 _ _ _ _ _ _ _ _ _)
   | (with_reducible exact ih1 _ _ _ _ _ _ _ _ _ _ _)
   | (with_reducible exact ih2 _ _ _ _ _ _ _ _ _ _ _)
   | (with_reducible exact ih3 _ _ _ _ _ _ _ _ _ _ _)
   | (with_reducible exact ih4 _ _ _ _ _ _ _ _ _ _ _ _)
   | (with_reducible exact ih5 _ _ _ _ _ _ _ _ _ _ _ _)
   | (with_reducible exact num_GetText.mono _ _ _ _)
   | (with_reducible exact wire_reader_front.mono _ _ _ _)
   | (with_reducible exact wire_reader_int.mono _ _ _ _)
   | (with_reducible exact wire_reader_time.mono _ _ _ _)
   | (with_reducible exact wire_reader_up.mono _ _ _ _)
   | (with_reducible exact wire_uses.mono _ _)
   | (with_reducible exact LeO.refl _)
   | (with_reducible exact LeO.none _)
   | (with_reducible refine LeO.ite ?_ ?_)
   | (with_reducible refine LeO.bind ?_ (fun _ => ?_))
   | exact ih0 _ _ _ _ _ _ _ _ _
   | exact ih1 _ _ _ _ _ _ _ _ _ _ _
   | exact ih2 _ _ _ _ _ _ _ _ _ _ _
   | exact ih3 _ _ _ _ _ _ _ _ _ _ _
   | exact ih4 _ _ _ _ _ _ _ _ _ _ _ _
   | exact ih5 _ _ _ _ _ _ _ _ _ _ _ _
   | exact num_GetText.mono _ _ _ _
   | exact wire_reader_front.mono _ _ _ _
   | exact wire_reader_int.mono _ _ _ _
   | exact wire_reader_time.mono _ _ _ _
   | exact wire_reader_up.mono _ _ _ _
   | exact wire_uses.mono _ _
   | exact LeO.none _
   | refine LeO.ite ?_ ?_
   | refine LeO.bind ?_ (fun _ => ?_)
  ·
   intro y0 y1 y2 y3 y4 y5 y6 y7 y8 y9 y10
   unfold wire_Get.j3
   repeat' first
   | (with_reducible exact ih0 _ _ _ _ _ _ _ _ _)
   | (with_reducible exact ih1 _ _ _ _ _ _ _ _ _ _ _)
   | (with_reducible exact ih2 _ _ _ _ _ _ _ _ _ _ _)
   | (with_reducible exact ih3 _ _ _ _ _ _ _ _ _ _ _)
   | (with_reducible exact ih4 _ _ _ _ _ _ _ _ _ _ _ _)
   | (with_reducible exact ih5 _ _ _ _ _ _ _ _ _ _ _ _)
   | (with_reducible exact num_GetText.mono _ _ _ _)
   | (with_reducible exact wire_reader_front.mono _ _ _ _)
   | (with_reducible exact wire_reader_int.mono _ _ _ _)
   | (with_reducible exact wire_reader_time.mono _ _ _ _)
   | (with_reducible exact wire_reader_up.mono _ _ _ _)
   | (with_reducible exact wire_uses.mono _ _)
   | (with_reducible exact LeO.refl _)
   | (with_reducible exact LeO.none _)
   | (with_reducible refine LeO.ite ?_ ?_)
   | (with_reducible refine LeO.bind ?_ (fun _ => ?_))
   | exact ih0 _ _ _ _ _ _ _ _ _
   | exact ih1 _ _ _ _ _ _ _ _ _ _ _
   | exact ih2 _ _ _ _ _ _ _ _ _ _ _
   | exact ih3 _ _ _ _ _ _ _ _ _ _ _
   | exact ih4 _ _ _ _ _ _ _ _ _ _ _ _
   | exact ih5 _ _ _ _ _ _ _ _ _ _ _ _
   | exact num_GetText.mono _ _ _ _
   | exact wire_reader_front.mono _ _ _ _
   | exact wire_reader_int.mono _ _ _ _
   | exact wire_reader_time.mono _ _ _ _
   | exact wire_reader_up.mono _ _ _ _
   | exact wire_uses.mono _ _
   | exact LeO.none _
   | refine LeO.ite ?_ ?_
   | refine LeO.bind ?_ (fun _ => ?_)
  ·
   intro y0 y1 y2 y3 y4 y5 y6 y7 y8 y9 y10 y11
   unfold wire_Get.j4
   repeat' first
   | (with_reducible exact ih0 _ _ _ _ _ _ _ _ _)
   | (with_reducible exact ih1 _ _ _ _ _ _ _ _ _ _ _)
   | (with_reducible exact ih2 _ _ _ _ _ _ _ _ _ _ _)
   | (with_reducible exact ih3 _ _ _ _ _ _ _ _ _ _ _)
   | (with_reducible exact ih4 _ _ _ _ _ _ _ _ _ _ _ _)
   | (with_reducible exact ih5 _ _ _ _ _ _ _ _ _ _ _ _)
   | (with_reducible exact num_GetText.mono _ _ _ _)
   | (with_reducible exact wire_reader_front.mono _ _ _ _)
   | (with_reducible exact wire_reader_int.mono _ _ _ _)
   | (with_reducible exact wire_reader_time.mono _ _ _ _)
   | (with_reducible exact wire_reader_up.mono _ _ _ _)
   | (with_reducible exact wire_uses.mono _ _)
   | (with_reducible exact LeO.refl _)
   | (with_reducible exact LeO.none _)
   | (with_reducible refine LeO.ite ?_ ?_)
   | (with_reducible refine LeO.bind ?_ (fun _ => ?_))
   | exact ih0 _ _ _ _ _ _ _ _ _
   | exact ih1 _ _ _ _ _ _ _ _ _ _ _
   | exact ih2 _ _ _ _ _ _ _ _ _ _ _
   | exact ih3 _ _ _ _ _ _ _ _ _ _ _
   | exact ih4 _ _ _ _ _ _ _ _ _ _ _ _
   | exact ih5 _ _ _ _ _ _ _ _ _ _ _ _
   | exact num_GetText.mono _ _ _ _
   | exact wire_reader_front.mono _ _ _ _
   | exact wire_reader_int.mono _ _ _ _
   | exact wire_reader_time.mono _ _ _ _
   | exact wire_reader_up.mono _ _ _ _
   | exact wire_uses.mono _ _
   | exact LeO.none _
   | refine LeO.ite ?_ ?_
   | refine LeO.bind ?_ (fun _ => ?_)
  ·
   intro y0 y1 y2 y3 y4 y5 y6 y7 y8 y9 y10 y11
   unfold wire_Get.j5
   repeat' first
   | (with_reducible exact ih0 _ _ _ _ _ _ _ _ _)
   | (with_reducible exact ih1 _ _ _ _ _ _ _ _ _ _ _)
   | (with_reducible exact ih2 _ _ _ _ _ _ _ _ _ _ _)
   | (with_reducible exact ih3 _ _ _ _ _ _ _ _ _ _ _)
   | (with_reducible exact ih4 _ _ _ _ _ _ _ _ _ _ _ _)
   | (with_reducible exact ih5 _ _ _ _ _ _ _ _ _ _ _ _)
   | (with_reducible exact num_GetText.mono _ _ _ _)
   | (with_reducible exact wire_reader_front.mono _ _ _ _)
   | (with_reducible exact wire_reader_int.mono _ _ _ _)
   | (with_reducible exact wire_reader_time.mono _ _ _ _)
   | (with_reducible exact wire_reader_up.mono _ _ _ _)
   | (with_reducible exact wire_uses.mono _ _)
   | (with_reducible exact LeO.refl _)
   | (with_reducible exact LeO.none _)
   | (with_reducible refine LeO.ite ?_ ?_)
   | (with_reducible refine LeO.bind ?_ (fun _ => ?_))
   | exact ih0 _ _ _ _ _ _ _ _ _
   | exact ih1 _ _ _ _ _ _ _ _ _ _ _
   | exact ih2 _ _ _ _ _ _ _ _ _ _ _
   | exact ih3 _ _ _ _ _ _ _ _ _ _ _
   | exact ih4 _ _ _ _ _ _ _ _ _ _ _ _
   | exact ih5 _ _ _ _ _ _ _ _ _ _ _ _
   | exact num_GetText.mono _ _ _ _
   | exact wire_reader_front.mono _ _ _ _
   | exact wire_reader_int.mono _ _ _ _
   | exact wire_reader_time.mono _ _ _ _
   | exact wire_reader_up.mono _ _ _ _
   | exact wire_uses.mono _ _
   | exact LeO.none _
   | refine LeO.ite ?_ ?_
   | refine LeO.bind ?_ (fun _ => ?_)
theorem wire_Get.mono : ∀ a0 a1 k, LeO (wire_Get.f k a0 a1) (wire_Get.f (k + 1) a0 a1) := by
 intro a0 a1 k
 obtain ⟨ih0, ih1, ih2, ih3, ih4, ih5⟩ := wire_Get.mono_l k
 unfold wire_Get.f
 repeat' first
   | (with_reducible exact ih0 _ _ _ _ _ _ _ _ _)
   | (with_reducible exact ih1 _ _ _ _ _ _ _ _ _ _ _)
   | (with_reducible exact ih2 _ _ _ _ _ _ _ _ _ _ _)
   | (with_reducible exact ih3 _ _ _ _ _ _ _ _ _ _ _)
   | (with_reducible exact ih4 _ _ _ _ _ _ _ _ _ _ _ _)
   | (with_reducible exact ih5 _ _ _ _ _ _ _ _ _ _ _ _)
   | (with_reducible exact num_GetText.mono _ _ _ _)
   | (with_reducible exact wire_reader_front.mono _ _ _ _)
   | (with_reducible exact wire_reader_int.mono _ _ _ _)
   | (with_reducible exact wire_reader_time.mono _ _ _ _)
   | (with_reducible exact wire_reader_up.mono _ _ _ _)
   | (with_reducible exact wire_uses.mono _ _)
   | (with_reducible exact LeO.refl _)
   | (with_reducible exact LeO.none _)
   | (with_reducible refine LeO.ite ?_ ?_)
   | (with_reducible refine LeO.bind ?_ (fun _ => ?_))
   | exact ih0 _ _ _ _ _ _ _ _ _
   | exact ih1 _ _ _ _ _ _ _ _ _ _ _
   | exact ih2 _ _ _ _ _ _ _ _ _ _ _
   | exact ih3 _ _ _ _ _ _ _ _ _ _ _
   | exact ih4 _ _ _ _ _ _ _ _ _ _ _ _
   | exact ih5 _ _ _ _ _ _ _ _ _ _ _ _
   | exact num_GetText.mono _ _ _ _
   | exact wire_reader_front.mono _ _ _ _
   | exact wire_reader_int.mono _ _ _ _
   | exact wire_reader_time.mono _ _ _ _
   | exact wire_reader_up.mono _ _ _ _
   | exact wire_uses.mono _ _
   | exact LeO.none _
   | refine LeO.ite ?_ ?_
   | refine LeO.bind ?_ (fun _ => ?_)
set_option maxHeartbeats 8000000 in
set_option maxRecDepth 100000 in
theorem wire_Get.calls (k : Nat) (A0 : Option Addr) (c0 : Nat) (l0 : List Int) (a1 : Int) (r1 : Int) (r2 : Int) (r3 : List (S103)) (r4 : Int) (r5 : Int) (r6 : Int) (r7 : List (S36)) (r8 : Int) (r9 : List Int) (r10 : Int) (r11 : Int) (w : World) (hr0 : Kd.C (Kd.int .u8) w A0 l0.length l0) (hc0 : l0.length ≤ c0) (h : wire_Get.f k l0 a1 = some (r1, r2, r3, r4, r5, r6, r7, r8, r9, r10, r11)) :
  Calls Try.prog 14 #[.slice A0 l0.length c0, .int .i64 a1] w fun e w' => ∃ v2_ v6_ v8_ : Value, e = .returned (.tuple #[.agg #[.int .i64 r1, .int .i64 r2, v2_, .int .i64 r4, .int .i64 r5, .int .i64 r6, v6_, .int .i64 r8, v8_], .int .i64 r10, .int .i64 r11]) ∧ Kd.R k103 103 w' w.heap.size (fun k_ => (w.heap.size ≤ k_)) v2_ r3 ∧ Kd.R k36 36 w' w.heap.size (fun k_ => (w.heap.size ≤ k_)) v6_ r7 ∧ Kd.V (Kd.int .u8) 5 w' w.heap.size (fun k_ => (w.heap.size ≤ k_) ∧ some k_ ≠ (v2_ : Value).ownBlock ∧ some k_ ≠ (v6_ : Value).ownBlock) v8_ r9 ∧ Below w.heap.size w w' := by
 have hu40 := Try.underlying40
 have hu73 := Try.underlying73
 have hu38 := Try.underlying38
 have hu36 := Try.underlying36
 have HR0 := Aside0.mk hr0
 have HC0 := Aside0.mk hc0
 clear hr0 hc0
 have HB := Aside0.mk (Below.refl w.heap.size w)
 have H : (if a1 < 0 then (wire_Get.j0 k l0 a1 true 0 0 0 0 0 0) else (wire_Get.j0 k l0 a1 (decide (a1 > (l0.length : Int))) 0 0 0 0 0 0)) = some (r1, r2, r3, r4, r5, r6, r7, r8, r9, r10, r11) := h
 clear h
 have HC3 := Aside0.mk H
 clear H
 go_enter Try.func14, Try.ntmps14
 go_upto_region 1 with (first | ((with_reducible refine gate_dst (N := 4) rfl ?_); (try (refine gate_guard (by rfl) ?_; dsimp only)); refine box_event ?hg (N := 4) ?hd (cs := #[.int .i64 0, .int .i64 0, .slice none 0 0, .int .i64 0, .int .i64 0, .int .i64 0, .slice none 0 0, .int .i64 0, .slice none 0 0]) (t := 40) ?hr ?_; (case hd => rfl); (case hg => rfl); (case hr => first | (go_simp; done) | (go_simp; rfl)); intro gb336 hg w4 hbox hb; have n0_ := Aside0.mk (below_step bl hb); have n1_ := Aside0.mk (hbox); have n2_ := Aside0.mk ((by rw [hg]; exact (below_size bl) : w.heap.size ≤ gb336)); have n3_ := Aside0.mk ((by rw [hg]; exact (below_size bl) : w.heap.size ≤ gb336)); clear HB; have HB := n0_; have BK336 := n1_; have GW336 := n2_; have GE336 := n3_; clear n0_ n1_ n2_ n3_; clear hb hbox hg))
 (try simp only [Act.put, List.setIfInBounds_toArray, List.set_cons_zero, List.set_cons_succ])
 go_cut [12] (fun v12 wc => ∃ (kq : Nat) (x12_2 : Bool), v12 = .bool x12_2 ∧ Aside0 (wire_Get.j0 kq l0 a1 x12_2 0 0 0 0 0 0 = some (r1, r2, r3, r4, r5, r6, r7, r8, r9, r10, r11)) ∧ Aside0 (kq ≤ k) ∧ Aside0 (wc.heap[gb336]? = some (.cells #[.int .i64 0, .int .i64 0, (.slice none 0 0), .int .i64 0, .int .i64 0, .int .i64 0, (.slice none 0 0), .int .i64 0, (.slice none 0 0)] 40 (0, 0))) ∧ Aside0 (Below w.heap.size w wc))
 case first =>
  have H := HC3.out
  clear HC3
  by_cases c5 : a1 < 0
  ·
   rw [if_pos c5] at H
   have c5b0 : decide (a1 < 0) = true := decide_eq_true c5
   clear c5
   (first | rw [c5b0] | (simp only [i64_w, i32_w]; rw [c5b0]) | skip)
   have H' := Aside0.mk H
   clear H
   go_wp2
   go_meet
   case rel => exact ⟨_, (true), (by first | rfl | (simp; done) | (simp [*]; done)), H', ⟨by first | omega | exact Nat.le_refl _⟩, ⟨by (with_reducible repeat (first | refine blk_drewN ?_ _ | refine blk_drew ?_ | refine blk_alloc ?_ _)); exact BK336.out⟩, ⟨bl⟩⟩
  ·
   rw [if_neg c5] at H
   have c5b0 : decide (a1 < 0) = false := decide_eq_false c5
   clear c5
   (first | rw [c5b0] | (simp only [i64_w, i32_w]; rw [c5b0]) | skip)
   have H' := Aside0.mk H
   clear H
   go_wp2
   go_meet
   case rel => exact ⟨_, (decide (a1 > (l0.length : Int))), (by first | rfl | (simp; done) | (simp [*]; done)), H', ⟨by first | omega | exact Nat.le_refl _⟩, ⟨by (with_reducible repeat (first | refine blk_drewN ?_ _ | refine blk_drew ?_ | refine blk_alloc ?_ _)); exact BK336.out⟩, ⟨bl⟩⟩
 case rest =>
  clear HC3
  obtain ⟨kq, x12_2, rfl, HA, HJ2, BK336, HB⟩ := hcut
  cases kq with
  | zero => exact absurd HA.out (by simp [wire_Get.j0])
  | succ kj2 =>
   have H := HA.out
   clear HA
   simp only [wire_Get.j0] at H
   by_cases c6 : x12_2 = true
   ·
    subst c6
    have H1 : (some (0, 0, ([] : List (S103)), 0, 0, 0, ([] : List (S36)), 0, ([] : List Int), 0, 9)) = some (r1, r2, r3, r4, r5, r6, r7, r8, r9, r10, r11) := by rw [if_pos rfl] at H; exact H
    clear H
    have H := H1
    clear H1
    simp only [Option.some.injEq, Prod.mk.injEq] at H
    obtain ⟨rfl, rfl, rfl, rfl, rfl, rfl, rfl, rfl, rfl, rfl, rfl⟩ := H
    obtain ⟨hcz7_0, hcz7_1, hcz7_2, hcz7_3, hcz7_4, hcz7_5, hcz7_6, hcz7_7, hcz7_8⟩ := cells9 BK336.out
    obtain ⟨hfz7_0, hfz7_1, hfz7_2, hfz7_3, hfz7_4, hfz7_5, hfz7_6, hfz7_7, hfz7_8⟩ := frz9 BK336.out
    go_wp2
    refine bodyPost_ret (results_ctt rfl _ _ gb336 40 #[.int .i64 0, .int .i64 0, .slice none 0 0, .int .i64 0, .int .i64 0, .int .i64 0, .slice none 0 0, .int .i64 0, .slice none 0 0] (0, 0) _ rfl bk Try.underlying40 rfl (by kernel_rfl)) rfl ?_
    exact ⟨_, _, _, erq, nlq, nlq, nlq, by repeat (first | (with_reducible first | exact HB.out | apply below_alloc | apply pw_below_drewN | apply below_drew1 | refine below_set ?_ GE336.out) | exact HB.out)⟩
   ·
    replace c6 := Bool.eq_false_iff.mpr c6
    subst c6
    have H1 : (if a1 = (l0.length : Int) then (some (0, 0, ([] : List (S103)), 0, 0, 0, ([] : List (S36)), 0, ([] : List Int), 0, 6)) else (if 0 ≤ a1 then (if a1 < (l0.length : Int) then ((wire_uses.f kj2 (wrap64 (rd l0 a1))).bind fun t338 => (if t338 = 0 then (some (0, 0, ([] : List (S103)), 0, 0, 0, ([] : List (S36)), 0, ([] : List Int), 0, 6)) else ((wire_uses.f kj2 (wrap64 (rd l0 a1))).bind fun t340 => (if (Go.bits .and .i64 t340 1) > 0 then ((wire_reader_int.f kj2 l0 (wrap64 (a1 + 1)) 0).bind fun bt342 => (wire_Get.j1 kj2 l0 t340 (wrap64 (rd l0 a1)) bt342.1 0 0 0 0 l0 bt342.2.1 bt342.2.2)) else (wire_Get.j1 kj2 l0 t340 (wrap64 (rd l0 a1)) 0 0 0 0 0 l0 (wrap64 (a1 + 1)) 0))))) else (none)) else (none))) = some (r1, r2, r3, r4, r5, r6, r7, r8, r9, r10, r11) := by rw [if_neg (show ¬ (false = true) by decide)] at H; exact H
    clear H
    have H := H1
    clear H1
    by_cases c8 : a1 = (l0.length : Int)
    ·
     rw [if_pos c8] at H
     have c8b0 : (a1 == (l0.length : Int)) = true := beq_iff_eq.mpr c8
     have c8b1 : (a1 != (l0.length : Int)) = false := bne_eq_false_iff_eq.mpr c8
     clear c8
     simp only [Option.some.injEq, Prod.mk.injEq] at H
     obtain ⟨rfl, rfl, rfl, rfl, rfl, rfl, rfl, rfl, rfl, rfl, rfl⟩ := H
     obtain ⟨hcz9_0, hcz9_1, hcz9_2, hcz9_3, hcz9_4, hcz9_5, hcz9_6, hcz9_7, hcz9_8⟩ := cells9 BK336.out
     obtain ⟨hfz9_0, hfz9_1, hfz9_2, hfz9_3, hfz9_4, hfz9_5, hfz9_6, hfz9_7, hfz9_8⟩ := frz9 BK336.out
     go_wp2
     refine bodyPost_ret (results_ctt rfl _ _ gb336 40 #[.int .i64 0, .int .i64 0, .slice none 0 0, .int .i64 0, .int .i64 0, .int .i64 0, .slice none 0 0, .int .i64 0, .slice none 0 0] (0, 0) _ rfl bk Try.underlying40 rfl (by kernel_rfl)) rfl ?_
     exact ⟨_, _, _, erq, nlq, nlq, nlq, by repeat (first | (with_reducible first | exact HB.out | apply below_alloc | apply pw_below_drewN | apply below_drew1 | refine below_set ?_ GE336.out) | exact HB.out)⟩
    ·
     rw [if_neg c8] at H
     have c8b0 : (a1 == (l0.length : Int)) = false := beq_eq_false_iff_ne.mpr c8
     have c8b1 : (a1 != (l0.length : Int)) = true := bne_iff_ne.mpr c8
     by_cases c10 : 0 ≤ a1
     ·
      rw [if_pos c10] at H
      have c10b0 : decide (0 ≤ a1) = true := decide_eq_true c10
      clear c10
      by_cases c11 : a1 < (l0.length : Int)
      ·
       rw [if_pos c11] at H
       have c11b0 : decide (a1 < (l0.length : Int)) = true := decide_eq_true c11
       clear c11
       replace H := Option.bind_eq_some_iff.mp H
       obtain ⟨t338, A120, H⟩ := H
       replace H : (if t338 = 0 then (some (0, 0, ([] : List (S103)), 0, 0, 0, ([] : List (S36)), 0, ([] : List Int), 0, 6)) else ((wire_uses.f kj2 (wrap64 (rd l0 a1))).bind fun t340 => (if (Go.bits .and .i64 t340 1) > 0 then ((wire_reader_int.f kj2 l0 (wrap64 (a1 + 1)) 0).bind fun bt342 => (wire_Get.j1 kj2 l0 t340 (wrap64 (rd l0 a1)) bt342.1 0 0 0 0 l0 bt342.2.1 bt342.2.2)) else (wire_Get.j1 kj2 l0 t340 (wrap64 (rd l0 a1)) 0 0 0 0 0 l0 (wrap64 (a1 + 1)) 0)))) = some (r1, r2, r3, r4, r5, r6, r7, r8, r9, r10, r11) := H
       have A12 := Aside0.mk A120
       clear A120
       by_cases c13 : t338 = 0
       ·
        rw [if_pos c13] at H
        have c13b0 : (t338 == 0) = true := beq_iff_eq.mpr c13
        have c13b1 : (t338 != 0) = false := bne_eq_false_iff_eq.mpr c13
        clear c13
        simp only [Option.some.injEq, Prod.mk.injEq] at H
        obtain ⟨rfl, rfl, rfl, rfl, rfl, rfl, rfl, rfl, rfl, rfl, rfl⟩ := H
        have p337 : 0 ≤ (a1 : Int) := of_decide_eq_true (by first | (with_reducible assumption) | assumption)
        have q337 : a1 < (l0.length : Int) := of_decide_eq_true (by first | (with_reducible assumption) | assumption)
        obtain ⟨ad337, e337, hx337_0⟩ := Kd.at_int HR0.out a1 p337 q337
        cases e337
        replace hx337_0 := bc HB.out hx337_0
        replace p337 := eq_true p337
        replace q337 := eq_true q337
        go_wp2_with (first | (go_at_call 35; (with_reducible refine (wire_uses.calls kj2 (wrap64 (rd l0 a1)) t338 _ A12.out).mono ?_); rintro e w' ⟨rfl, ⟨nd, rfl⟩⟩; (try (rw [drewN_self wc]; generalize hq_ : World.drewN wc _ = wc; have n0_ : Aside0 (wc.heap[gb336]? = some (.cells #[.int .i64 0, .int .i64 0, .slice none 0 0, .int .i64 0, .int .i64 0, .int .i64 0, .slice none 0 0, .int .i64 0, .slice none 0 0] 40 (0, 0))) := ⟨by rw [← hq_]; exact bk⟩; have n1_ : Aside0 (Below w.heap.size w wc) := ⟨by rw [← hq_]; exact bl⟩; clear BK336 HB hq_; have BK336 := n0_; have HB := n1_; clear n0_ n1_)); obtain ⟨hcz14_0, hcz14_1, hcz14_2, hcz14_3, hcz14_4, hcz14_5, hcz14_6, hcz14_7, hcz14_8⟩ := cells9 BK336.out; obtain ⟨hfz14_0, hfz14_1, hfz14_2, hfz14_3, hfz14_4, hfz14_5, hfz14_6, hfz14_7, hfz14_8⟩ := frz9 BK336.out))
        refine bodyPost_ret (results_ctt rfl _ _ gb336 40 #[.int .i64 0, .int .i64 0, .slice none 0 0, .int .i64 0, .int .i64 0, .int .i64 0, .slice none 0 0, .int .i64 0, .slice none 0 0] (0, 0) _ rfl bk Try.underlying40 rfl (by kernel_rfl)) rfl ?_
        exact ⟨_, _, _, erq, nlq, nlq, nlq, by repeat (first | (with_reducible first | exact HB.out | apply below_alloc | apply pw_below_drewN | apply below_drew1 | refine below_set ?_ GE336.out) | exact HB.out)⟩
       ·
        rw [if_neg c13] at H
        have c13b0 : (t338 == 0) = false := beq_eq_false_iff_ne.mpr c13
        have c13b1 : (t338 != 0) = true := bne_iff_ne.mpr c13
        replace H := Option.bind_eq_some_iff.mp H
        obtain ⟨t340, A150, H⟩ := H
        replace H : (if (Go.bits .and .i64 t340 1) > 0 then ((wire_reader_int.f kj2 l0 (wrap64 (a1 + 1)) 0).bind fun bt342 => (wire_Get.j1 kj2 l0 t340 (wrap64 (rd l0 a1)) bt342.1 0 0 0 0 l0 bt342.2.1 bt342.2.2)) else (wire_Get.j1 kj2 l0 t340 (wrap64 (rd l0 a1)) 0 0 0 0 0 l0 (wrap64 (a1 + 1)) 0)) = some (r1, r2, r3, r4, r5, r6, r7, r8, r9, r10, r11) := H
        have A15 := Aside0.mk A150
        clear A150
        have HC16 := Aside0.mk H
        clear H
        have p337 : 0 ≤ (a1 : Int) := of_decide_eq_true (by first | (with_reducible assumption) | assumption)
        have q337 : a1 < (l0.length : Int) := of_decide_eq_true (by first | (with_reducible assumption) | assumption)
        obtain ⟨ad337, e337, hx337_0⟩ := Kd.at_int HR0.out a1 p337 q337
        cases e337
        replace hx337_0 := bc HB.out hx337_0
        replace p337 := eq_true p337
        replace q337 := eq_true q337
        go_upto_if 53 with (first | (go_at_call 35; (with_reducible refine (wire_uses.calls kj2 (wrap64 (rd l0 a1)) t338 _ A12.out).mono ?_); rintro e w' ⟨rfl, ⟨nd, rfl⟩⟩; (try (rw [drewN_self wc]; generalize hq_ : World.drewN wc _ = wc; have n0_ : Aside0 (wc.heap[gb336]? = some (.cells #[.int .i64 0, .int .i64 0, .slice none 0 0, .int .i64 0, .int .i64 0, .int .i64 0, .slice none 0 0, .int .i64 0, .slice none 0 0] 40 (0, 0))) := ⟨by rw [← hq_]; exact bk⟩; have n1_ : Aside0 (Below w.heap.size w wc) := ⟨by rw [← hq_]; exact bl⟩; clear BK336 HB hq_; have BK336 := n0_; have HB := n1_; clear n0_ n1_)); have p339 : 0 ≤ (a1 : Int) := of_decide_eq_true (by first | (with_reducible assumption) | assumption); have q339 : a1 < (l0.length : Int) := of_decide_eq_true (by first | (with_reducible assumption) | assumption); obtain ⟨ad339, e339, hx339_0⟩ := Kd.at_int HR0.out a1 p339 q339; obtain rfl : ad337 = ad339 := (by injection e339); replace hx339_0 := bc HB.out hx339_0; replace p339 := eq_true p339; replace q339 := eq_true q339; obtain ⟨hcz17_0, hcz17_1, hcz17_2, hcz17_3, hcz17_4, hcz17_5, hcz17_6, hcz17_7, hcz17_8⟩ := cells9 BK336.out; have hfz17_0 := blk_frozen BK336.out 0; have hfz17_1 := blk_frozen BK336.out 1; have hfz17_2 := blk_frozen BK336.out 2; have hfz17_3 := blk_frozen BK336.out 3; have hfz17_4 := blk_frozen BK336.out 4; have hfz17_5 := blk_frozen BK336.out 5; have hfz17_6 := blk_frozen BK336.out 6; have hfz17_7 := blk_frozen BK336.out 7; have hfz17_8 := blk_frozen BK336.out 8) | ((with_reducible refine gate_callee (f := 35) rfl ?_); refine goesL_ (some 45) rfl rfl Try.func35 (by kernel_rfl) rfl #[.int .i64 (wrap64 (rd l0 a1))] rfl mpq ?_; (with_reducible refine (wire_uses.calls kj2 (wrap64 (rd l0 a1)) t340 _ A15.out).mono ?_); rintro e w' ⟨rfl, ⟨nd, rfl⟩⟩; refine ⟨_, rfl, ?_⟩) | ((with_reducible refine gate_dst (N := 50) rfl ?_); (try (refine gate_guard (by rfl) ?_; dsimp only)); refine box_event ?hg (N := 50) ?hd (cs := #[.slice (some ad337) l0.length c0, .int .i64 (wrap64 (a1 + 1)), .int .i64 0]) (t := 73) ?hr ?_; (case hd => rfl); (case hg => rfl); (case hr => first | (go_simp; done) | (go_simp; rfl)); intro gb341 hg w18 hbox hb; have n0_ := Aside0.mk (blk_below (g := gb336) (o := .cells #[.int .i64 (wrap64 (rd l0 a1)), .int .i64 0, .slice none 0 0, .int .i64 0, .int .i64 0, .int .i64 0, .slice none 0 0, .int .i64 0, .slice none 0 0] 40 (0, 0)) bk hb); have n1_ := Aside0.mk (below_step bl hb); have n2_ := Aside0.mk (hbox); have n3_ := Aside0.mk ((by rw [hg]; exact (below_size bl) : w.heap.size ≤ gb341)); have n4_ := Aside0.mk ((by rw [hg]; exact (below_size bl) : w.heap.size ≤ gb341)); have n5_ := Aside0.mk ((by rw [hg]; exact Nat.ne_of_lt blt : gb336 ≠ gb341)); have n6_ := Aside0.mk ((by rw [hg]; exact Nat.ne_of_gt blt : gb341 ≠ gb336)); clear BK336; clear HB; have BK336 := n0_; have HB := n1_; have BK341 := n2_; have GW341 := n3_; have GE341 := n4_; have NB336_341 := n5_; have NB341_336 := n6_; clear n0_ n1_ n2_ n3_ n4_ n5_ n6_; clear hb hbox hg; have HI341 := Aside0.mk (show IsS73 w _ gb341 l0 (wrap64 (a1 + 1)) 0 from ⟨_, _, by (with_reducible repeat (first | refine blk_drewN ?_ _ | refine blk_drew ?_ | refine blk_alloc ?_ _)); exact BK341.out, GE341.out, ⟨HR0.out, HC0.out⟩⟩)))
        (try simp only [Act.put, List.setIfInBounds_toArray, List.set_cons_zero, List.set_cons_succ])
        go_cut [] (fun wc => ∃ (kq : Nat) (x337001_15 : Int) (x342001_15 : Int) (x342002_15 : Int), Aside0 (wire_Get.j1 kq l0 t340 (wrap64 (rd l0 a1)) x337001_15 0 0 0 0 l0 x342001_15 x342002_15 = some (r1, r2, r3, r4, r5, r6, r7, r8, r9, r10, r11)) ∧ Aside0 (kq ≤ kj2) ∧ Aside0 (wc.heap[gb336]? = some (.cells #[.int .i64 (wrap64 (rd l0 a1)), .int .i64 x337001_15, (.slice none 0 0), .int .i64 0, .int .i64 0, .int .i64 0, (.slice none 0 0), .int .i64 0, (.slice none 0 0)] 40 (0, 0))) ∧ Aside0 (IsS73 w wc gb341 l0 x342001_15 x342002_15) ∧ Aside0 (Below w.heap.size w wc))
        case first =>
         have H := HC16.out
         clear HC16
         by_cases c19 : (Go.bits .and .i64 t340 1) > 0
         ·
          rw [if_pos c19] at H
          have c19b0 : decide (0 < (Go.bits .and .i64 t340 1)) = true := decide_eq_true c19
          clear c19
          (first | rw [c19b0] | (simp only [i64_w, i32_w]; rw [c19b0]) | skip)
          replace H := Option.bind_eq_some_iff.mp H
          obtain ⟨⟨t342, t343, t344⟩, A200, H⟩ := H
          replace H : (wire_Get.j1 kj2 l0 t340 (wrap64 (rd l0 a1)) t342 0 0 0 0 l0 t343 t344) = some (r1, r2, r3, r4, r5, r6, r7, r8, r9, r10, r11) := H
          have A20 := Aside0.mk A200
          clear A200
          have H' := Aside0.mk H
          clear H
          go_wp2_with (first | ((with_reducible refine gate_callee (f := 36) rfl ?_); refine goesL_ (some 55) rfl rfl Try.func36 (by kernel_rfl) rfl #[.pointer (some ⟨gb341, 0, none⟩)] rfl mpq ?_; (with_reducible refine (wire_reader_int.calls kj2 gb341 l0 (wrap64 (a1 + 1)) 0 t342 t343 t344 w _ ?side1 ?side2 A20.out).mono ?_); (case side1 => repeat (first | (with_reducible first | exact HI341.out | apply IsS73.alloc | apply IsS73.drewN | apply IsS73.drew | apply IsS73.set_1 | apply IsS73.set_2 | refine IsS73.far ?_ NB341_336.out _) | exact HI341.out)); (case side2 => repeat (first | (with_reducible first | exact HB.out | apply below_alloc | apply pw_below_drewN | apply below_drew1 | refine below_set ?_ (IsS73.ge HI341.out) | refine below_set ?_ GE336.out) | exact HB.out)); rintro e w21 ⟨rfl, hi, hb, hk⟩; refine ⟨_, rfl, ?_⟩; have n0_ := Aside0.mk (KeepBut.blk hk (g' := gb336) (o := .cells #[.int .i64 (wrap64 (rd l0 a1)), .int .i64 0, .slice none 0 0, .int .i64 0, .int .i64 0, .int .i64 0, .slice none 0 0, .int .i64 0, .slice none 0 0] 40 (0, 0)) bk NB336_341.out (by simp)); have n1_ := Aside0.mk (hb); have n2_ := Aside0.mk (hi); clear BK336; clear HB; clear HI341; have BK336 := n0_; have HB := n1_; have HI341 := n2_; clear n0_ n1_ n2_; (try clear hb); (try clear hb2); (try clear hk); (try clear hi); have hnb22 := NB336_341.out; have hnc22 := NB341_336.out; obtain ⟨hcz23_0, hcz23_1, hcz23_2, hcz23_3, hcz23_4, hcz23_5, hcz23_6, hcz23_7, hcz23_8⟩ := cells9 BK336.out; obtain ⟨hfz23_0, hfz23_1, hfz23_2, hfz23_3, hfz23_4, hfz23_5, hfz23_6, hfz23_7, hfz23_8⟩ := frz9 BK336.out))
          go_meet
          case rel => exact ⟨_, (t342), (t343), (t344), H', ⟨by have := HJ2.out; first | omega | exact Nat.le_refl _⟩, ⟨by (with_reducible repeat (first | refine blk_drewN ?_ _ | refine blk_drew ?_ | refine blk_alloc ?_ _)); refine blk_put (cs := #[.int .i64 (wrap64 (rd l0 a1)), .int .i64 0, .slice none 0 0, .int .i64 0, .int .i64 0, .int .i64 0, .slice none 0 0, .int .i64 0, .slice none 0 0]) ?_ 1 _ rfl; (with_reducible repeat (first | refine blk_drewN ?_ _ | refine blk_drew ?_ | refine blk_alloc ?_ _)); exact BK336.out⟩, ⟨by repeat (first | (with_reducible first | exact HI341.out | apply IsS73.alloc | apply IsS73.drewN | apply IsS73.drew | apply IsS73.set_1 | apply IsS73.set_2 | refine IsS73.far ?_ NB341_336.out _) | exact HI341.out)⟩, ⟨by repeat (first | (with_reducible first | exact HB.out | apply below_alloc | apply pw_below_drewN | apply below_drew1 | refine below_set ?_ (IsS73.ge HI341.out) | refine below_set ?_ GE336.out) | exact HB.out)⟩⟩
         ·
          rw [if_neg c19] at H
          have c19b0 : decide (0 < (Go.bits .and .i64 t340 1)) = false := decide_eq_false c19
          clear c19
          (first | rw [c19b0] | (simp only [i64_w, i32_w]; rw [c19b0]) | skip)
          have H' := Aside0.mk H
          clear H
          go_wp2
          go_meet
          case rel => exact ⟨_, (0), (wrap64 (a1 + 1)), (0), H', ⟨by have := HJ2.out; first | omega | exact Nat.le_refl _⟩, ⟨by (with_reducible repeat (first | refine blk_drewN ?_ _ | refine blk_drew ?_ | refine blk_alloc ?_ _)); exact BK336.out⟩, ⟨by repeat (first | (with_reducible first | exact HI341.out | apply IsS73.alloc | apply IsS73.drewN | apply IsS73.drew | apply IsS73.set_1 | apply IsS73.set_2 | refine IsS73.far ?_ NB341_336.out _) | exact HI341.out)⟩, ⟨by repeat (first | (with_reducible first | exact HB.out | apply below_alloc | apply pw_below_drewN | apply below_drew1 | refine below_set ?_ (IsS73.ge HI341.out) | refine below_set ?_ GE336.out) | exact HB.out)⟩⟩
        case rest =>
         clear HC16
         (try clear c6); (try clear c8); (try clear c8b0); (try clear c8b1); (try clear c10); (try clear c10b0); (try clear c11); (try clear c11b0); (try clear c13); (try clear c13b0); (try clear c13b1); (try clear hcz17_0); (try clear hcz17_1); (try clear hcz17_2); (try clear hcz17_3); (try clear hcz17_4); (try clear hcz17_5); (try clear hcz17_6); (try clear hcz17_7); (try clear hcz17_8); (try clear hfz17_0); (try clear hfz17_1); (try clear hfz17_2); (try clear hfz17_3); (try clear hfz17_4); (try clear hfz17_5); (try clear hfz17_6); (try clear hfz17_7); (try clear hfz17_8); (try clear hx337_0); (try clear hx339_0); (try clear p337); (try clear p339); (try clear q337); (try clear q339)
         obtain ⟨kq, x337001_15, x342001_15, x342002_15, HA, HJ15, BK336, HI341, HB⟩ := hcut
         cases kq with
         | zero => exact absurd HA.out (by simp [wire_Get.j1])
         | succ kj15 =>
          have H := HA.out
          clear HA
          simp only [wire_Get.j1] at H
          have HC24 := Aside0.mk H
          clear H
          go_upto_if 59 with (fail)
          go_cut [] (fun wc => ∃ (kq : Nat) (x337007_23 : Int) (x342001_23 : Int) (x342002_23 : Int), Aside0 (wire_Get.j2 kq l0 t340 (wrap64 (rd l0 a1)) x337001_15 0 0 0 x337007_23 l0 x342001_23 x342002_23 = some (r1, r2, r3, r4, r5, r6, r7, r8, r9, r10, r11)) ∧ Aside0 (kq ≤ kj15) ∧ Aside0 (wc.heap[gb336]? = some (.cells #[.int .i64 (wrap64 (rd l0 a1)), .int .i64 x337001_15, (.slice none 0 0), .int .i64 0, .int .i64 0, .int .i64 0, (.slice none 0 0), .int .i64 x337007_23, (.slice none 0 0)] 40 (0, 0))) ∧ Aside0 (IsS73 w wc gb341 l0 x342001_23 x342002_23) ∧ Aside0 (Below w.heap.size w wc))
          case first =>
           have H := HC24.out
           clear HC24
           by_cases c25 : (Go.bits .and .i64 t340 2) > 0
           ·
            rw [if_pos c25] at H
            have c25b0 : decide (0 < (Go.bits .and .i64 t340 2)) = true := decide_eq_true c25
            clear c25
            (first | rw [c25b0] | (simp only [i64_w, i32_w]; rw [c25b0]) | skip)
            replace H := Option.bind_eq_some_iff.mp H
            obtain ⟨⟨t345, t346, t347⟩, A260, H⟩ := H
            replace H : (wire_Get.j2 kj15 l0 t340 (wrap64 (rd l0 a1)) x337001_15 0 0 0 t345 l0 t346 t347) = some (r1, r2, r3, r4, r5, r6, r7, r8, r9, r10, r11) := H
            have A26 := Aside0.mk A260
            clear A260
            have H' := Aside0.mk H
            clear H
            go_wp2_with (first | ((with_reducible refine gate_callee (f := 36) rfl ?_); refine goesL_ (some 61) rfl rfl Try.func36 (by kernel_rfl) rfl #[.pointer (some ⟨gb341, 0, none⟩)] rfl mpq ?_; (with_reducible refine (wire_reader_int.calls kj15 gb341 l0 x342001_15 x342002_15 t345 t346 t347 w _ ?side1 ?side2 A26.out).mono ?_); (case side1 => repeat (first | (with_reducible first | exact HI341.out | apply IsS73.alloc | apply IsS73.drewN | apply IsS73.drew | apply IsS73.set_1 | apply IsS73.set_2 | refine IsS73.far ?_ NB341_336.out _) | exact HI341.out)); (case side2 => repeat (first | (with_reducible first | exact HB.out | apply below_alloc | apply pw_below_drewN | apply below_drew1 | refine below_set ?_ (IsS73.ge HI341.out) | refine below_set ?_ GE336.out) | exact HB.out)); rintro e w27 ⟨rfl, hi, hb, hk⟩; refine ⟨_, rfl, ?_⟩; have n0_ := Aside0.mk (KeepBut.blk hk (g' := gb336) (o := .cells #[.int .i64 (wrap64 (rd l0 a1)), .int .i64 x337001_15, .slice none 0 0, .int .i64 0, .int .i64 0, .int .i64 0, .slice none 0 0, .int .i64 0, .slice none 0 0] 40 (0, 0)) bk NB336_341.out (by simp)); have n1_ := Aside0.mk (hb); have n2_ := Aside0.mk (hi); clear BK336; clear HB; clear HI341; have BK336 := n0_; have HB := n1_; have HI341 := n2_; clear n0_ n1_ n2_; (try clear hb); (try clear hb2); (try clear hk); (try clear hi); have hnb28 := NB336_341.out; have hnc28 := NB341_336.out; obtain ⟨hcz29_0, hcz29_1, hcz29_2, hcz29_3, hcz29_4, hcz29_5, hcz29_6, hcz29_7, hcz29_8⟩ := cells9 BK336.out; obtain ⟨hfz29_0, hfz29_1, hfz29_2, hfz29_3, hfz29_4, hfz29_5, hfz29_6, hfz29_7, hfz29_8⟩ := frz9 BK336.out))
            go_meet
            case rel => exact ⟨_, (t345), (t346), (t347), H', ⟨by have := HJ2.out; have := HJ15.out; first | omega | exact Nat.le_refl _⟩, ⟨by (with_reducible repeat (first | refine blk_drewN ?_ _ | refine blk_drew ?_ | refine blk_alloc ?_ _)); refine blk_put (cs := #[.int .i64 (wrap64 (rd l0 a1)), .int .i64 x337001_15, .slice none 0 0, .int .i64 0, .int .i64 0, .int .i64 0, .slice none 0 0, .int .i64 0, .slice none 0 0]) ?_ 7 _ rfl; (with_reducible repeat (first | refine blk_drewN ?_ _ | refine blk_drew ?_ | refine blk_alloc ?_ _)); exact BK336.out⟩, ⟨by repeat (first | (with_reducible first | exact HI341.out | apply IsS73.alloc | apply IsS73.drewN | apply IsS73.drew | apply IsS73.set_1 | apply IsS73.set_2 | refine IsS73.far ?_ NB341_336.out _) | exact HI341.out)⟩, ⟨by repeat (first | (with_reducible first | exact HB.out | apply below_alloc | apply pw_below_drewN | apply below_drew1 | refine below_set ?_ (IsS73.ge HI341.out) | refine below_set ?_ GE336.out) | exact HB.out)⟩⟩
           ·
            rw [if_neg c25] at H
            have c25b0 : decide (0 < (Go.bits .and .i64 t340 2)) = false := decide_eq_false c25
            clear c25
            (first | rw [c25b0] | (simp only [i64_w, i32_w]; rw [c25b0]) | skip)
            have H' := Aside0.mk H
            clear H
            go_wp2
            go_meet
            case rel => exact ⟨_, (0), (x342001_15), (x342002_15), H', ⟨by have := HJ2.out; have := HJ15.out; first | omega | exact Nat.le_refl _⟩, ⟨by (with_reducible repeat (first | refine blk_drewN ?_ _ | refine blk_drew ?_ | refine blk_alloc ?_ _)); exact BK336.out⟩, ⟨by repeat (first | (with_reducible first | exact HI341.out | apply IsS73.alloc | apply IsS73.drewN | apply IsS73.drew | apply IsS73.set_1 | apply IsS73.set_2 | refine IsS73.far ?_ NB341_336.out _) | exact HI341.out)⟩, ⟨by repeat (first | (with_reducible first | exact HB.out | apply below_alloc | apply pw_below_drewN | apply below_drew1 | refine below_set ?_ (IsS73.ge HI341.out) | refine below_set ?_ GE336.out) | exact HB.out)⟩⟩
          case rest =>
           clear HC24
           (try clear c6); (try clear c8); (try clear c8b0); (try clear c8b1); (try clear c10); (try clear c10b0); (try clear c11); (try clear c11b0); (try clear c13); (try clear c13b0); (try clear c13b1); (try clear hcz17_0); (try clear hcz17_1); (try clear hcz17_2); (try clear hcz17_3); (try clear hcz17_4); (try clear hcz17_5); (try clear hcz17_6); (try clear hcz17_7); (try clear hcz17_8); (try clear hfz17_0); (try clear hfz17_1); (try clear hfz17_2); (try clear hfz17_3); (try clear hfz17_4); (try clear hfz17_5); (try clear hfz17_6); (try clear hfz17_7); (try clear hfz17_8); (try clear hx337_0); (try clear hx339_0); (try clear p337); (try clear p339); (try clear q337); (try clear q339)
           obtain ⟨kq, x337007_23, x342001_23, x342002_23, HA, HJ23, BK336, HI341, HB⟩ := hcut
           cases kq with
           | zero => exact absurd HA.out (by simp [wire_Get.j2])
           | succ kj23 =>
            have H := HA.out
            clear HA
            simp only [wire_Get.j2] at H
            have HC30 := Aside0.mk H
            clear H
            go_upto_if 65 with (fail)
            go_cut [] (fun wc => ∃ (kq : Nat) (x337008_29 : List Int) (x342001_29 : Int) (x342002_29 : Int) (u337008 : Value), Aside0 (wire_Get.j3 kq t340 (wrap64 (rd l0 a1)) x337001_15 0 0 0 x337007_23 x337008_29 l0 x342001_29 x342002_29 = some (r1, r2, r3, r4, r5, r6, r7, r8, r9, r10, r11)) ∧ Aside0 (kq ≤ kj23) ∧ Aside0 (Kd.V (Kd.int .u8) 5 wc w.heap.size (fun k_ => (w.heap.size ≤ k_) ∧ k_ ≠ gb336 ∧ k_ ≠ gb341) u337008 x337008_29) ∧ Aside0 (wc.heap[gb336]? = some (.cells #[.int .i64 (wrap64 (rd l0 a1)), .int .i64 x337001_15, (.slice none 0 0), .int .i64 0, .int .i64 0, .int .i64 0, (.slice none 0 0), .int .i64 x337007_23, u337008] 40 (0, 0))) ∧ Aside0 (IsS73 w wc gb341 l0 x342001_29 x342002_29) ∧ Aside0 (Below w.heap.size w wc))
            case first =>
             have H := HC30.out
             clear HC30
             by_cases c31 : (Go.bits .and .i64 t340 4) > 0
             ·
              rw [if_pos c31] at H
              have c31b0 : decide (0 < (Go.bits .and .i64 t340 4)) = true := decide_eq_true c31
              clear c31
              (first | rw [c31b0] | (simp only [i64_w, i32_w]; rw [c31b0]) | skip)
              replace H := Option.bind_eq_some_iff.mp H
              obtain ⟨⟨t348, t349, t350⟩, A320, H⟩ := H
              replace H : ((wire_keep_string.f l0 x342001_23 x342002_23 t348 t349 t350).bind fun bt351 => ((main_main.f bt351.1).bind fun t354 => (wire_Get.j3 kj23 t340 (wrap64 (rd l0 a1)) x337001_15 0 0 0 x337007_23 t354 l0 bt351.2.1 bt351.2.2))) = some (r1, r2, r3, r4, r5, r6, r7, r8, r9, r10, r11) := H
              have A32 := Aside0.mk A320
              clear A320
              replace H := Option.bind_eq_some_iff.mp H
              obtain ⟨⟨t351, t352, t353⟩, A330, H⟩ := H
              replace H : ((main_main.f t351).bind fun t354 => (wire_Get.j3 kj23 t340 (wrap64 (rd l0 a1)) x337001_15 0 0 0 x337007_23 t354 l0 t352 t353)) = some (r1, r2, r3, r4, r5, r6, r7, r8, r9, r10, r11) := H
              have A33 := Aside0.mk A330
              clear A330
              replace H := Option.bind_eq_some_iff.mp H
              obtain ⟨t354, A340, H⟩ := H
              replace H : (wire_Get.j3 kj23 t340 (wrap64 (rd l0 a1)) x337001_15 0 0 0 x337007_23 t354 l0 t352 t353) = some (r1, r2, r3, r4, r5, r6, r7, r8, r9, r10, r11) := H
              have A34 := Aside0.mk A340
              clear A340
              have H' := Aside0.mk H
              clear H
              obtain ⟨ASz35_0, cSz35_0, HGz35, hgz35, HSz35_0⟩ := HI341.out
              have hcz35_0 := cellS73_0 HGz35
              have hcz35_1 := cellS73_1 HGz35
              have hcz35_2 := cellS73_2 HGz35
              have hfz35_1 := blk_frozen HGz35 1
              have hfz35_2 := blk_frozen HGz35 2
              clear HGz35 hgz35
              go_wp2_with (first | ((with_reducible refine gate_callee (f := 37) rfl ?_); refine goesL_ (some 72) rfl rfl Try.func37 (by kernel_rfl) rfl #[.slice (some ad337) l0.length c0, .int .i64 x342001_23, .int .i64 65536] rfl mpq ?_; (with_reducible refine (num_GetText.calls kj23 _ _ l0 x342001_23 65536 t348 t349 t350 _ ?side1 ?side2 A32.out).mono ?_); (case side1 => repeat (first | exact (Kd.C_below HR0.out HB.out) | (with_reducible refine Kd.C_alloc ?_ _) | (with_reducible refine Kd.C_drewN ?_ _) | (with_reducible refine Kd.C_drew ?_))); (case side2 => exact HC0.out); rintro e w' ⟨rfl, ⟨nd, rfl⟩⟩; refine ⟨_, rfl, ?_⟩; (try (rw [drewN_self wc]; generalize hq_ : World.drewN wc _ = wc; have n0_ : Aside0 (wc.heap[gb336]? = some (.cells #[.int .i64 (wrap64 (rd l0 a1)), .int .i64 x337001_15, .slice none 0 0, .int .i64 0, .int .i64 0, .int .i64 0, .slice none 0 0, .int .i64 x337007_23, .slice none 0 0] 40 (0, 0))) := ⟨by rw [← hq_]; exact bk⟩; have n1_ : Aside0 (IsS73 w wc gb341 l0 x342001_23 x342002_23) := ⟨by rw [← hq_]; exact (by repeat (first | (with_reducible first | exact HI341.out | apply IsS73.alloc | apply IsS73.drewN | apply IsS73.drew | apply IsS73.set_1 | apply IsS73.set_2 | refine IsS73.far ?_ NB341_336.out _) | exact HI341.out))⟩; have n2_ : Aside0 (Below w.heap.size w wc) := ⟨by rw [← hq_]; exact (by repeat (first | (with_reducible first | exact HB.out | apply below_alloc | apply pw_below_drewN | apply below_drew1 | refine below_set ?_ (IsS73.ge HI341.out) | refine below_set ?_ GE336.out) | exact HB.out))⟩; clear BK336 HI341 HB hq_; have BK336 := n0_; have HI341 := n1_; have HB := n2_; clear n0_ n1_ n2_))) | ((with_reducible refine gate_callee (f := 38) rfl ?_); refine goesL_ (some 80) rfl rfl Try.func38 (by kernel_rfl) rfl #[.pointer (some ⟨gb341, 0, none⟩), .string t348, .int .i64 t349, .int .i64 t350] rfl mpq ?_; (with_reducible refine (wire_keep_string.calls gb341 l0 x342001_23 x342002_23 t348 t349 t350 t351 t352 t353 w _ ?side1 ?side2 A33.out).mono ?_); (case side1 => repeat (first | (with_reducible first | exact HI341.out | apply IsS73.alloc | apply IsS73.drewN | apply IsS73.drew | apply IsS73.set_1 | apply IsS73.set_2 | refine IsS73.far ?_ NB341_336.out _) | exact HI341.out)); (case side2 => repeat (first | (with_reducible first | exact HB.out | apply below_alloc | apply pw_below_drewN | apply below_drew1 | refine below_set ?_ (IsS73.ge HI341.out) | refine below_set ?_ GE336.out) | exact HB.out)); rintro e w36 ⟨rfl, hi, hb, hk⟩; refine ⟨_, rfl, ?_⟩; have n0_ := Aside0.mk (KeepBut.blk hk (g' := gb336) (o := .cells #[.int .i64 (wrap64 (rd l0 a1)), .int .i64 x337001_15, .slice none 0 0, .int .i64 0, .int .i64 0, .int .i64 0, .slice none 0 0, .int .i64 x337007_23, .slice none 0 0] 40 (0, 0)) bk NB336_341.out (by simp)); have n1_ := Aside0.mk (hb); have n2_ := Aside0.mk (hi); clear BK336; clear HB; clear HI341; have BK336 := n0_; have HB := n1_; have HI341 := n2_; clear n0_ n1_ n2_; (try clear hb); (try clear hb2); (try clear hk); (try clear hi)) | ((with_reducible refine gate_dst (N := 81) rfl ?_); refine conv_ 81 rfl rfl _ _ _ rfl t351 (by first | rfl | (go_simp; done) | (go_simp; rfl)) Try.underlying9 Try.underlying22 Try.underlying5 t354 A34.out ?_; intro v355 w37 ho0 hb; have n0_ := Aside0.mk (Kd.V_lower (Kd.V_mono (ok' := fun k_ => (w.heap.size ≤ k_) ∧ k_ ≠ gb336 ∧ k_ ≠ gb341) ho0 (fun k_ hk_ => ⟨(Nat.le_trans (below_size (by repeat (first | (with_reducible first | exact HB.out | apply below_alloc | apply pw_below_drewN | apply below_drew1 | refine below_set ?_ (IsS73.ge HI341.out) | refine below_set ?_ GE336.out) | exact HB.out))) hk_), (Kd.freshB (g := gb336) (o := .cells #[.int .i64 (wrap64 (rd l0 a1)), .int .i64 x337001_15, .slice none 0 0, .int .i64 0, .int .i64 0, .int .i64 0, .slice none 0 0, .int .i64 x337007_23, .slice none 0 0] 40 (0, 0)) bk k_ hk_), (IsS73.fresh (by repeat (first | (with_reducible first | exact HI341.out | apply IsS73.alloc | apply IsS73.drewN | apply IsS73.drew | apply IsS73.set_1 | apply IsS73.set_2 | refine IsS73.far ?_ NB341_336.out _) | exact HI341.out)) k_ hk_)⟩)) (below_size (by repeat (first | (with_reducible first | exact HB.out | apply below_alloc | apply pw_below_drewN | apply below_drew1 | refine below_set ?_ (IsS73.ge HI341.out) | refine below_set ?_ GE336.out) | exact HB.out)))); have n1_ := Aside0.mk (blk_below (g := gb336) (o := .cells #[.int .i64 (wrap64 (rd l0 a1)), .int .i64 x337001_15, .slice none 0 0, .int .i64 0, .int .i64 0, .int .i64 0, .slice none 0 0, .int .i64 x337007_23, .slice none 0 0] 40 (0, 0)) bk hb); have n2_ := Aside0.mk (IsS73.below (by repeat (first | (with_reducible first | exact HI341.out | apply IsS73.alloc | apply IsS73.drewN | apply IsS73.drew | apply IsS73.set_1 | apply IsS73.set_2 | refine IsS73.far ?_ NB341_336.out _) | exact HI341.out)) hb); have n3_ := Aside0.mk (below_step (by repeat (first | (with_reducible first | exact HB.out | apply below_alloc | apply pw_below_drewN | apply below_drew1 | refine below_set ?_ (IsS73.ge HI341.out) | refine below_set ?_ GE336.out) | exact HB.out)) hb); clear BK336; clear HI341; clear HB; have HO356 := n0_; have BK336 := n1_; have HI341 := n2_; have HB := n3_; clear n0_ n1_ n2_ n3_; (try clear hb); (try clear hb2); (try clear hk); (try clear hi); (try clear ho0); obtain ⟨Ao38, co38, eo38⟩ := Kd.V_slice HO356.out; subst eo38; have hnb39 := NB336_341.out; have hnc39 := NB341_336.out; obtain ⟨hcz40_0, hcz40_1, hcz40_2, hcz40_3, hcz40_4, hcz40_5, hcz40_6, hcz40_7, hcz40_8⟩ := cells9 BK336.out; obtain ⟨hfz40_0, hfz40_1, hfz40_2, hfz40_3, hfz40_4, hfz40_5, hfz40_6, hfz40_7, hfz40_8⟩ := frz9 BK336.out))
              go_meet
              case rel => exact ⟨_, (t354), (t352), (t353), (.slice Ao38 t354.length co38), H', ⟨by have := HJ2.out; have := HJ15.out; have := HJ23.out; first | omega | exact Nat.le_refl _⟩, ⟨by (with_reducible repeat (first | apply Kd.V_alloc | apply Kd.V_drewN | apply Kd.V_drew)); exact Kd.V_mono (Kd.V_far (p := ⟨gb336, 8, none⟩) (Kd.V_mono HO356.out (fun k_ hk => (⟨hk, hk.2.1⟩ : _ ∧ k_ ≠ gb336))) (fun _ hk => hk.2) (.slice Ao38 t354.length co38)) (fun _ hk => ⟨hk.1.1, ⟨hk.1.2.1, hk.1.2.2⟩⟩)⟩, ⟨by (with_reducible repeat (first | refine blk_drewN ?_ _ | refine blk_drew ?_ | refine blk_alloc ?_ _)); refine blk_put (cs := #[.int .i64 (wrap64 (rd l0 a1)), .int .i64 x337001_15, .slice none 0 0, .int .i64 0, .int .i64 0, .int .i64 0, .slice none 0 0, .int .i64 x337007_23, .slice none 0 0]) ?_ 8 _ rfl; (with_reducible repeat (first | refine blk_drewN ?_ _ | refine blk_drew ?_ | refine blk_alloc ?_ _)); exact BK336.out⟩, ⟨by repeat (first | (with_reducible first | exact HI341.out | apply IsS73.alloc | apply IsS73.drewN | apply IsS73.drew | apply IsS73.set_1 | apply IsS73.set_2 | refine IsS73.far ?_ NB341_336.out _) | exact HI341.out)⟩, ⟨by repeat (first | (with_reducible first | exact HB.out | apply below_alloc | apply pw_below_drewN | apply below_drew1 | refine below_set ?_ (IsS73.ge HI341.out) | refine below_set ?_ GE336.out) | exact HB.out)⟩⟩
             ·
              rw [if_neg c31] at H
              have c31b0 : decide (0 < (Go.bits .and .i64 t340 4)) = false := decide_eq_false c31
              clear c31
              (first | rw [c31b0] | (simp only [i64_w, i32_w]; rw [c31b0]) | skip)
              have H' := Aside0.mk H
              clear H
              go_wp2
              go_meet
              case rel => exact ⟨_, (([] : List Int)), (x342001_23), (x342002_23), (.slice none 0 0), H', ⟨by have := HJ2.out; have := HJ15.out; have := HJ23.out; first | omega | exact Nat.le_refl _⟩, ⟨nlq⟩, ⟨by (with_reducible repeat (first | refine blk_drewN ?_ _ | refine blk_drew ?_ | refine blk_alloc ?_ _)); exact BK336.out⟩, ⟨by repeat (first | (with_reducible first | exact HI341.out | apply IsS73.alloc | apply IsS73.drewN | apply IsS73.drew | apply IsS73.set_1 | apply IsS73.set_2 | refine IsS73.far ?_ NB341_336.out _) | exact HI341.out)⟩, ⟨by repeat (first | (with_reducible first | exact HB.out | apply below_alloc | apply pw_below_drewN | apply below_drew1 | refine below_set ?_ (IsS73.ge HI341.out) | refine below_set ?_ GE336.out) | exact HB.out)⟩⟩
            case rest =>
             clear HC30
             (try clear c6); (try clear c8); (try clear c8b0); (try clear c8b1); (try clear c10); (try clear c10b0); (try clear c11); (try clear c11b0); (try clear c13); (try clear c13b0); (try clear c13b1); (try clear hcz17_0); (try clear hcz17_1); (try clear hcz17_2); (try clear hcz17_3); (try clear hcz17_4); (try clear hcz17_5); (try clear hcz17_6); (try clear hcz17_7); (try clear hcz17_8); (try clear hfz17_0); (try clear hfz17_1); (try clear hfz17_2); (try clear hfz17_3); (try clear hfz17_4); (try clear hfz17_5); (try clear hfz17_6); (try clear hfz17_7); (try clear hfz17_8); (try clear hx337_0); (try clear hx339_0); (try clear p337); (try clear p339); (try clear q337); (try clear q339)
             obtain ⟨kq, x337008_29, x342001_29, x342002_29, u337008, HA, HJ29, HO_337008, BK336, HI341, HB⟩ := hcut
             cases kq with
             | zero => exact absurd HA.out (by simp [wire_Get.j3])
             | succ kj29 =>
              have H := HA.out
              clear HA
              simp only [wire_Get.j3] at H
              have HC41 := Aside0.mk H
              clear H
              go_upto_if 85 with (fail)
              go_cut [] (fun wc => ∃ (kq : Nat) (x337002_40 : List (S103)) (x337003_40 : Int) (x337004_40 : Int) (x337005_40 : Int) (x342001_40 : Int) (x342002_40 : Int) (u337002 : Value), Aside0 (wire_Get.j4 kq t340 (wrap64 (rd l0 a1)) x337001_15 x337002_40 x337003_40 x337004_40 x337005_40 x337007_23 x337008_29 l0 x342001_40 x342002_40 = some (r1, r2, r3, r4, r5, r6, r7, r8, r9, r10, r11)) ∧ Aside0 (kq ≤ kj29) ∧ Aside0 (Kd.R k103 103 wc w.heap.size (fun k_ => (w.heap.size ≤ k_)) u337002 x337002_40) ∧ Aside0 (Kd.V (Kd.int .u8) 5 wc w.heap.size (fun k_ => (w.heap.size ≤ k_) ∧ some k_ ≠ (u337002 : Value).ownBlock ∧ k_ ≠ gb336 ∧ k_ ≠ gb341) u337008 x337008_29) ∧ Aside0 (wc.heap[gb336]? = some (.cells #[.int .i64 (wrap64 (rd l0 a1)), .int .i64 x337001_15, u337002, .int .i64 x337003_40, .int .i64 x337004_40, .int .i64 x337005_40, (.slice none 0 0), .int .i64 x337007_23, u337008] 40 (0, 0))) ∧ Aside0 (IsS73 w wc gb341 l0 x342001_40 x342002_40) ∧ Aside0 (Below w.heap.size w wc))
              case first =>
               have H := HC41.out
               clear HC41
               by_cases c42 : (Go.bits .and .i64 t340 8) > 0
               ·
                rw [if_pos c42] at H
                have c42b0 : decide (0 < (Go.bits .and .i64 t340 8)) = true := decide_eq_true c42
                clear c42
                (first | rw [c42b0] | (simp only [i64_w, i32_w]; rw [c42b0]) | skip)
                replace H := Option.bind_eq_some_iff.mp H
                obtain ⟨⟨t357, t360, t361, t362, t363, t364⟩, A430, H⟩ := H
                replace H : (wire_Get.j4 kj29 t340 (wrap64 (rd l0 a1)) x337001_15 t357 t360 t361 t362 x337007_23 x337008_29 l0 t363 t364) = some (r1, r2, r3, r4, r5, r6, r7, r8, r9, r10, r11) := H
                have A43 := Aside0.mk A430
                clear A430
                have H' := Aside0.mk H
                clear H
                go_wp2_with (first | ((with_reducible refine gate_callee (f := 39) rfl ?_); refine goesL_ (some 87) rfl rfl Try.func39 (by kernel_rfl) rfl #[.pointer (some ⟨gb341, 0, none⟩)] rfl mpq ?_; (with_reducible refine (wire_reader_up.calls kj29 gb341 l0 x342001_29 x342002_29 t357 t360 t361 t362 t363 t364 w _ ?side1 ?side2 A43.out).mono ?_); (case side1 => repeat (first | (with_reducible first | exact HI341.out | apply IsS73.alloc | apply IsS73.drewN | apply IsS73.drew | apply IsS73.set_1 | apply IsS73.set_2 | refine IsS73.far ?_ NB341_336.out _) | exact HI341.out)); (case side2 => repeat (first | (with_reducible first | exact HB.out | apply below_alloc | apply pw_below_drewN | apply below_drew1 | refine below_set ?_ (IsS73.ge HI341.out) | refine below_set ?_ GE336.out) | exact HB.out)); rintro e w44 ⟨v358, rfl, ho0, hi, hb, hk⟩; refine ⟨_, rfl, ?_⟩; have n0_ := Aside0.mk (Kd.V_mono (Kd.V_told (Kd.V_oldK (Kd.V_mono (ok := fun k_ => (((w.heap.size ≤ k_)) ∧ (k_ ≠ gb336 ∧ k_ ≠ gb341))) (by (with_reducible repeat (first | apply Kd.V_alloc | apply Kd.V_drewN | apply Kd.V_drew)); exact HO_337008.out) (fun k_ hk_ => (⟨hk_, hk_.2.2⟩ : _ ∧ k_ ≠ gb341))) hk) (Kd.R_base ho0)) (fun _ h_ => h_.1)); have n1_ := Aside0.mk (KeepBut.blk hk (g' := gb336) (o := .cells #[.int .i64 (wrap64 (rd l0 a1)), .int .i64 x337001_15, .slice none 0 0, .int .i64 0, .int .i64 0, .int .i64 0, .slice none 0 0, .int .i64 x337007_23, u337008] 40 (0, 0)) bk NB336_341.out (by simp)); have n2_ := Aside0.mk (Kd.R_lower (Kd.R_newM (M := fun k_ => (w.heap.size ≤ k_)) ho0 (below_size (by repeat (first | (with_reducible first | exact HB.out | apply below_alloc | apply pw_below_drewN | apply below_drew1 | refine below_set ?_ (IsS73.ge HI341.out) | refine below_set ?_ GE336.out) | exact HB.out))) (fun k_ h_ => h_)) (below_size (by repeat (first | (with_reducible first | exact HB.out | apply below_alloc | apply pw_below_drewN | apply below_drew1 | refine below_set ?_ (IsS73.ge HI341.out) | refine below_set ?_ GE336.out) | exact HB.out)))); have n3_ := Aside0.mk (hb); have n4_ := Aside0.mk (hi); clear HO_337008; clear BK336; clear HB; clear HI341; have HO_337008 := n0_; have BK336 := n1_; have HO359 := n2_; have HB := n3_; have HI341 := n4_; clear n0_ n1_ n2_ n3_ n4_; (try clear hb); (try clear hb2); (try clear hk); (try clear hi); (try clear ho0); obtain ⟨Ao45, co45, eo45⟩ := Kd.R_slice HO359.out; subst eo45; have hnb46 := NB336_341.out; have hnc46 := NB341_336.out; obtain ⟨hcz47_0, hcz47_1, hcz47_2, hcz47_3, hcz47_4, hcz47_5, hcz47_6, hcz47_7, hcz47_8⟩ := cells9 BK336.out; obtain ⟨hfz47_0, hfz47_1, hfz47_2, hfz47_3, hfz47_4, hfz47_5, hfz47_6, hfz47_7, hfz47_8⟩ := frz9 BK336.out))
                go_meet
                case rel => exact ⟨_, (t357), (t360), (t361), (t362), (t363), (t364), (.slice Ao45 t357.length co45), H', ⟨by have := HJ2.out; have := HJ15.out; have := HJ23.out; have := HJ29.out; first | omega | exact Nat.le_refl _⟩, ⟨by (with_reducible repeat (first | apply Kd.R_alloc | apply Kd.R_drewN | apply Kd.R_drew)); exact Kd.R_mono (Kd.R_far (p := ⟨gb336, 5, none⟩) (Kd.R_far (p := ⟨gb336, 4, none⟩) (Kd.R_far (p := ⟨gb336, 3, none⟩) (Kd.R_far (p := ⟨gb336, 2, none⟩) (Kd.R_types HO359.out BK336.out (by decide)) (fun _ hk => hk.2) (.slice Ao45 t357.length co45)) (fun _ hk => hk.2) (.int .i64 t360)) (fun _ hk => hk.2) (.int .i64 t361)) (fun _ hk => hk.2) (.int .i64 t362)) (fun _ hk => hk.1.1)⟩, ⟨by (with_reducible repeat (first | apply Kd.V_alloc | apply Kd.V_drewN | apply Kd.V_drew)); exact Kd.V_mono (Kd.V_far (p := ⟨gb336, 5, none⟩) (Kd.V_far (p := ⟨gb336, 4, none⟩) (Kd.V_far (p := ⟨gb336, 3, none⟩) (Kd.V_far (p := ⟨gb336, 2, none⟩) (Kd.V_mono HO_337008.out (fun k_ hk => (⟨hk, hk.1.2.1⟩ : _ ∧ k_ ≠ gb336))) (fun _ hk => hk.2) (.slice Ao45 t357.length co45)) (fun _ hk => hk.2) (.int .i64 t360)) (fun _ hk => hk.2) (.int .i64 t361)) (fun _ hk => hk.2) (.int .i64 t362)) (fun _ hk => ⟨hk.1.1.1, ⟨hk.1.2, ⟨hk.1.1.2.1, hk.1.1.2.2⟩⟩⟩)⟩, ⟨by refine E_in ?_; (iterate 4 ((with_reducible repeat (first | refine E_drewN ?_ _ | refine E_drew ?_ | refine E_alloc ?_ _)); refine E_set ?_)); (with_reducible repeat (first | refine E_drewN ?_ _ | refine E_drew ?_ | refine E_alloc ?_ _)); exact ⟨_, BK336.out, rfl⟩⟩, ⟨by repeat (first | (with_reducible first | exact HI341.out | apply IsS73.alloc | apply IsS73.drewN | apply IsS73.drew | apply IsS73.set_1 | apply IsS73.set_2 | refine IsS73.far ?_ NB341_336.out _) | exact HI341.out)⟩, ⟨by repeat (first | (with_reducible first | exact HB.out | apply below_alloc | apply pw_below_drewN | apply below_drew1 | refine below_set ?_ (IsS73.ge HI341.out) | refine below_set ?_ GE336.out) | exact HB.out)⟩⟩
               ·
                rw [if_neg c42] at H
                have c42b0 : decide (0 < (Go.bits .and .i64 t340 8)) = false := decide_eq_false c42
                clear c42
                (first | rw [c42b0] | (simp only [i64_w, i32_w]; rw [c42b0]) | skip)
                have H' := Aside0.mk H
                clear H
                go_wp2
                go_meet
                case rel => exact ⟨_, (([] : List (S103))), (0), (0), (0), (x342001_29), (x342002_29), (.slice none 0 0), H', ⟨by have := HJ2.out; have := HJ15.out; have := HJ23.out; have := HJ29.out; first | omega | exact Nat.le_refl _⟩, ⟨nlq⟩, ⟨by (with_reducible repeat (first | apply Kd.V_alloc | apply Kd.V_drewN | apply Kd.V_drew)); exact Kd.V_mono HO_337008.out (fun _ hk => ⟨hk.1, ⟨(by simp [Value.ownBlock]), ⟨hk.2.1, hk.2.2⟩⟩⟩)⟩, ⟨by (with_reducible repeat (first | refine blk_drewN ?_ _ | refine blk_drew ?_ | refine blk_alloc ?_ _)); exact BK336.out⟩, ⟨by repeat (first | (with_reducible first | exact HI341.out | apply IsS73.alloc | apply IsS73.drewN | apply IsS73.drew | apply IsS73.set_1 | apply IsS73.set_2 | refine IsS73.far ?_ NB341_336.out _) | exact HI341.out)⟩, ⟨by repeat (first | (with_reducible first | exact HB.out | apply below_alloc | apply pw_below_drewN | apply below_drew1 | refine below_set ?_ (IsS73.ge HI341.out) | refine below_set ?_ GE336.out) | exact HB.out)⟩⟩
              case rest =>
               clear HC41
               (try clear c6); (try clear c8); (try clear c8b0); (try clear c8b1); (try clear c10); (try clear c10b0); (try clear c11); (try clear c11b0); (try clear c13); (try clear c13b0); (try clear c13b1); (try clear hcz17_0); (try clear hcz17_1); (try clear hcz17_2); (try clear hcz17_3); (try clear hcz17_4); (try clear hcz17_5); (try clear hcz17_6); (try clear hcz17_7); (try clear hcz17_8); (try clear hfz17_0); (try clear hfz17_1); (try clear hfz17_2); (try clear hfz17_3); (try clear hfz17_4); (try clear hfz17_5); (try clear hfz17_6); (try clear hfz17_7); (try clear hfz17_8); (try clear hx337_0); (try clear hx339_0); (try clear p337); (try clear p339); (try clear q337); (try clear q339)
               obtain ⟨kq, x337002_40, x337003_40, x337004_40, x337005_40, x342001_40, x342002_40, u337002, HA, HJ40, HO_337002, HO_337008, BK336, HI341, HB⟩ := hcut
               cases kq with
               | zero => exact absurd HA.out (by simp [wire_Get.j4])
               | succ kj40 =>
                have H := HA.out
                clear HA
                simp only [wire_Get.j4] at H
                have HC48 := Aside0.mk H
                clear H
                go_upto_if 91 with (fail)
                go_cut [] (fun wc => ∃ (kq : Nat) (x337003_47 : Int) (x337004_47 : Int) (x342001_47 : Int) (x342002_47 : Int), Aside0 (wire_Get.j5 kq t340 (wrap64 (rd l0 a1)) x337001_15 x337002_40 x337003_47 x337004_47 x337005_40 x337007_23 x337008_29 l0 x342001_47 x342002_47 = some (r1, r2, r3, r4, r5, r6, r7, r8, r9, r10, r11)) ∧ Aside0 (kq ≤ kj40) ∧ Aside0 (Kd.R k103 103 wc w.heap.size (fun k_ => (w.heap.size ≤ k_)) u337002 x337002_40) ∧ Aside0 (Kd.V (Kd.int .u8) 5 wc w.heap.size (fun k_ => (w.heap.size ≤ k_) ∧ some k_ ≠ (u337002 : Value).ownBlock ∧ k_ ≠ gb336 ∧ k_ ≠ gb341) u337008 x337008_29) ∧ Aside0 (wc.heap[gb336]? = some (.cells #[.int .i64 (wrap64 (rd l0 a1)), .int .i64 x337001_15, u337002, .int .i64 x337003_47, .int .i64 x337004_47, .int .i64 x337005_40, (.slice none 0 0), .int .i64 x337007_23, u337008] 40 (0, 0))) ∧ Aside0 (IsS73 w wc gb341 l0 x342001_47 x342002_47) ∧ Aside0 (Below w.heap.size w wc))
                case first =>
                 have H := HC48.out
                 clear HC48
                 by_cases c49 : (Go.bits .and .i64 t340 16) > 0
                 ·
                  rw [if_pos c49] at H
                  have c49b0 : decide (0 < (Go.bits .and .i64 t340 16)) = true := decide_eq_true c49
                  clear c49
                  (first | rw [c49b0] | (simp only [i64_w, i32_w]; rw [c49b0]) | skip)
                  replace H := Option.bind_eq_some_iff.mp H
                  obtain ⟨⟨t365, t366, t367, t368⟩, A500, H⟩ := H
                  replace H : (wire_Get.j5 kj40 t340 (wrap64 (rd l0 a1)) x337001_15 x337002_40 t365 t366 x337005_40 x337007_23 x337008_29 l0 t367 t368) = some (r1, r2, r3, r4, r5, r6, r7, r8, r9, r10, r11) := H
                  have A50 := Aside0.mk A500
                  clear A500
                  have H' := Aside0.mk H
                  clear H
                  go_wp2_with (first | ((with_reducible refine gate_callee (f := 32) rfl ?_); refine goesL_ (some 93) rfl rfl Try.func32 (by kernel_rfl) rfl #[.pointer (some ⟨gb341, 0, none⟩)] rfl mpq ?_; (with_reducible refine (wire_reader_time.calls kj40 gb341 l0 x342001_40 x342002_40 t365 t366 t367 t368 w _ ?side1 ?side2 A50.out).mono ?_); (case side1 => repeat (first | (with_reducible first | exact HI341.out | apply IsS73.alloc | apply IsS73.drewN | apply IsS73.drew | apply IsS73.set_1 | apply IsS73.set_2 | refine IsS73.far ?_ NB341_336.out _) | exact HI341.out)); (case side2 => repeat (first | (with_reducible first | exact HB.out | apply below_alloc | apply pw_below_drewN | apply below_drew1 | refine below_set ?_ (IsS73.ge HI341.out) | refine below_set ?_ GE336.out) | exact HB.out)); rintro e w51 ⟨rfl, hi, hb, hk⟩; refine ⟨_, rfl, ?_⟩; have n0_ := Aside0.mk (Kd.R_mono (Kd.R_keep (IsS73.apart (show IsS73 w _ gb341 l0 x342001_40 x342002_40 from by repeat (first | (with_reducible first | exact HI341.out | apply IsS73.alloc | apply IsS73.drewN | apply IsS73.drew | apply IsS73.set_1 | apply IsS73.set_2 | refine IsS73.far ?_ NB341_336.out _) | exact HI341.out)) (rp HO_337002.out) (by decide)) hk (fun _ h => h.2)) (fun _ h => h.1)); have n1_ := Aside0.mk (Kd.V_mono (Kd.V_keep (Kd.V_mono (ok := fun k_ => (((w.heap.size ≤ k_)) ∧ (some k_ ≠ (u337002 : Value).ownBlock ∧ (k_ ≠ gb336 ∧ k_ ≠ gb341)))) (by (with_reducible repeat (first | apply Kd.V_alloc | apply Kd.V_drewN | apply Kd.V_drew)); exact HO_337008.out) (fun k_ hk_ => (⟨hk_, hk_.2.2.2⟩ : _ ∧ k_ ≠ gb341))) hk (fun _ h => h.2)) (fun _ h => h.1)); have n2_ := Aside0.mk (KeepBut.blk hk (g' := gb336) (o := .cells #[.int .i64 (wrap64 (rd l0 a1)), .int .i64 x337001_15, u337002, .int .i64 x337003_40, .int .i64 x337004_40, .int .i64 x337005_40, .slice none 0 0, .int .i64 x337007_23, u337008] 40 (0, 0)) bk NB336_341.out (by simp)); have n3_ := Aside0.mk (hb); have n4_ := Aside0.mk (hi); clear HO_337002; clear HO_337008; clear BK336; clear HB; clear HI341; have HO_337002 := n0_; have HO_337008 := n1_; have BK336 := n2_; have HB := n3_; have HI341 := n4_; clear n0_ n1_ n2_ n3_ n4_; (try clear hb); (try clear hb2); (try clear hk); (try clear hi); have hnb52 := NB336_341.out; have hnc52 := NB341_336.out; obtain ⟨hcz53_0, hcz53_1, hcz53_2, hcz53_3, hcz53_4, hcz53_5, hcz53_6, hcz53_7, hcz53_8⟩ := cells9 BK336.out; obtain ⟨hfz53_0, hfz53_1, hfz53_2, hfz53_3, hfz53_4, hfz53_5, hfz53_6, hfz53_7, hfz53_8⟩ := frz9 BK336.out))
                  go_meet
                  case rel => exact ⟨_, (t365), (t366), (t367), (t368), H', ⟨by have := HJ2.out; have := HJ15.out; have := HJ23.out; have := HJ29.out; have := HJ40.out; first | omega | exact Nat.le_refl _⟩, ⟨by (with_reducible repeat (first | apply Kd.R_alloc | apply Kd.R_drewN | apply Kd.R_drew)); exact Kd.R_mono (Kd.R_far (p := ⟨gb336, 4, none⟩) (Kd.R_far (p := ⟨gb336, 3, none⟩) (Kd.R_types HO_337002.out BK336.out (by decide)) (fun _ hk => hk.2) (.int .i64 t365)) (fun _ hk => hk.2) (.int .i64 t366)) (fun _ hk => hk.1)⟩, ⟨by (with_reducible repeat (first | apply Kd.V_alloc | apply Kd.V_drewN | apply Kd.V_drew)); exact Kd.V_mono (Kd.V_far (p := ⟨gb336, 4, none⟩) (Kd.V_far (p := ⟨gb336, 3, none⟩) (Kd.V_mono HO_337008.out (fun k_ hk => (⟨hk, hk.2.2.1⟩ : _ ∧ k_ ≠ gb336))) (fun _ hk => hk.2) (.int .i64 t365)) (fun _ hk => hk.2) (.int .i64 t366)) (fun _ hk => ⟨hk.1.1, ⟨hk.1.2.1, ⟨hk.1.2.2.1, hk.1.2.2.2⟩⟩⟩)⟩, ⟨by refine E_in ?_; (iterate 2 ((with_reducible repeat (first | refine E_drewN ?_ _ | refine E_drew ?_ | refine E_alloc ?_ _)); refine E_set ?_)); (with_reducible repeat (first | refine E_drewN ?_ _ | refine E_drew ?_ | refine E_alloc ?_ _)); exact ⟨_, BK336.out, rfl⟩⟩, ⟨by repeat (first | (with_reducible first | exact HI341.out | apply IsS73.alloc | apply IsS73.drewN | apply IsS73.drew | apply IsS73.set_1 | apply IsS73.set_2 | refine IsS73.far ?_ NB341_336.out _) | exact HI341.out)⟩, ⟨by repeat (first | (with_reducible first | exact HB.out | apply below_alloc | apply pw_below_drewN | apply below_drew1 | refine below_set ?_ (IsS73.ge HI341.out) | refine below_set ?_ GE336.out) | exact HB.out)⟩⟩
                 ·
                  rw [if_neg c49] at H
                  have c49b0 : decide (0 < (Go.bits .and .i64 t340 16)) = false := decide_eq_false c49
                  clear c49
                  (first | rw [c49b0] | (simp only [i64_w, i32_w]; rw [c49b0]) | skip)
                  have H' := Aside0.mk H
                  clear H
                  go_wp2
                  go_meet
                  case rel => exact ⟨_, (x337003_40), (x337004_40), (x342001_40), (x342002_40), H', ⟨by have := HJ2.out; have := HJ15.out; have := HJ23.out; have := HJ29.out; have := HJ40.out; first | omega | exact Nat.le_refl _⟩, ⟨by (with_reducible repeat (first | apply Kd.R_alloc | apply Kd.R_drewN | apply Kd.R_drew)); exact HO_337002.out⟩, ⟨by (with_reducible repeat (first | apply Kd.V_alloc | apply Kd.V_drewN | apply Kd.V_drew)); exact HO_337008.out⟩, ⟨by (with_reducible repeat (first | refine blk_drewN ?_ _ | refine blk_drew ?_ | refine blk_alloc ?_ _)); exact BK336.out⟩, ⟨by repeat (first | (with_reducible first | exact HI341.out | apply IsS73.alloc | apply IsS73.drewN | apply IsS73.drew | apply IsS73.set_1 | apply IsS73.set_2 | refine IsS73.far ?_ NB341_336.out _) | exact HI341.out)⟩, ⟨by repeat (first | (with_reducible first | exact HB.out | apply below_alloc | apply pw_below_drewN | apply below_drew1 | refine below_set ?_ (IsS73.ge HI341.out) | refine below_set ?_ GE336.out) | exact HB.out)⟩⟩
                case rest =>
                 clear HC48
                 (try clear c6); (try clear c8); (try clear c8b0); (try clear c8b1); (try clear c10); (try clear c10b0); (try clear c11); (try clear c11b0); (try clear c13); (try clear c13b0); (try clear c13b1); (try clear hcz17_0); (try clear hcz17_1); (try clear hcz17_2); (try clear hcz17_3); (try clear hcz17_4); (try clear hcz17_5); (try clear hcz17_6); (try clear hcz17_7); (try clear hcz17_8); (try clear hfz17_0); (try clear hfz17_1); (try clear hfz17_2); (try clear hfz17_3); (try clear hfz17_4); (try clear hfz17_5); (try clear hfz17_6); (try clear hfz17_7); (try clear hfz17_8); (try clear hx337_0); (try clear hx339_0); (try clear p337); (try clear p339); (try clear q337); (try clear q339)
                 obtain ⟨kq, x337003_47, x337004_47, x342001_47, x342002_47, HA, HJ47, HO_337002, HO_337008, BK336, HI341, HB⟩ := hcut
                 cases kq with
                 | zero => exact absurd HA.out (by simp [wire_Get.j5])
                 | succ kj47 =>
                  have H := HA.out
                  clear HA
                  simp only [wire_Get.j5] at H
                  by_cases c54 : (Go.bits .and .i64 t340 32) > 0
                  ·
                   rw [if_pos c54] at H
                   have c54b0 : decide (0 < (Go.bits .and .i64 t340 32)) = true := decide_eq_true c54
                   clear c54
                   replace H := Option.bind_eq_some_iff.mp H
                   obtain ⟨⟨t369, t372, t373⟩, A550, H⟩ := H
                   replace H : (if t373 = 0 then (some ((wrap64 (rd l0 a1)), x337001_15, x337002_40, x337003_47, x337004_47, x337005_40, t369, x337007_23, x337008_29, t372, 0)) else (some (0, 0, ([] : List (S103)), 0, 0, 0, ([] : List (S36)), 0, ([] : List Int), 0, t373))) = some (r1, r2, r3, r4, r5, r6, r7, r8, r9, r10, r11) := H
                   have A55 := Aside0.mk A550
                   clear A550
                   by_cases c56 : t373 = 0
                   ·
                    rw [if_pos c56] at H
                    have c56b0 : (t373 == 0) = true := beq_iff_eq.mpr c56
                    have c56b1 : (t373 != 0) = false := bne_eq_false_iff_eq.mpr c56
                    clear c56
                    simp only [Option.some.injEq, Prod.mk.injEq] at H
                    obtain ⟨rfl, rfl, rfl, rfl, rfl, rfl, rfl, rfl, rfl, rfl, rfl⟩ := H
                    go_wp2_with (first | ((with_reducible refine gate_callee (f := 40) rfl ?_); refine goesL_ (some 100) rfl rfl Try.func40 (by kernel_rfl) rfl #[.pointer (some ⟨gb341, 0, none⟩)] rfl mpq ?_; (with_reducible refine (wire_reader_front.calls kj47 gb341 l0 x342001_47 x342002_47 t369 t372 t373 w _ ?side1 ?side2 A55.out).mono ?_); (case side1 => repeat (first | (with_reducible first | exact HI341.out | apply IsS73.alloc | apply IsS73.drewN | apply IsS73.drew | apply IsS73.set_1 | apply IsS73.set_2 | refine IsS73.far ?_ NB341_336.out _) | exact HI341.out)); (case side2 => repeat (first | (with_reducible first | exact HB.out | apply below_alloc | apply pw_below_drewN | apply below_drew1 | refine below_set ?_ (IsS73.ge HI341.out) | refine below_set ?_ GE336.out) | exact HB.out)); rintro e w57 ⟨v370, rfl, ho0, hi, hb, hk⟩; refine ⟨_, rfl, ?_⟩; have n0_ := Aside0.mk (Kd.R_mono (Kd.R_keep (IsS73.apart (show IsS73 w _ gb341 l0 x342001_47 x342002_47 from by repeat (first | (with_reducible first | exact HI341.out | apply IsS73.alloc | apply IsS73.drewN | apply IsS73.drew | apply IsS73.set_1 | apply IsS73.set_2 | refine IsS73.far ?_ NB341_336.out _) | exact HI341.out)) (rp HO_337002.out) (by decide)) hk (fun _ h => h.2)) (fun _ h => h.1)); have n1_ := Aside0.mk (Kd.V_mono (Kd.V_told (Kd.V_oldK (Kd.V_mono (ok := fun k_ => (((w.heap.size ≤ k_)) ∧ (some k_ ≠ (u337002 : Value).ownBlock ∧ (k_ ≠ gb336 ∧ k_ ≠ gb341)))) (by (with_reducible repeat (first | apply Kd.V_alloc | apply Kd.V_drewN | apply Kd.V_drew)); exact HO_337008.out) (fun k_ hk_ => (⟨hk_, hk_.2.2.2⟩ : _ ∧ k_ ≠ gb341))) hk) (Kd.R_base ho0)) (fun _ h_ => h_.1)); have n2_ := Aside0.mk (KeepBut.blk hk (g' := gb336) (o := .cells #[.int .i64 (wrap64 (rd l0 a1)), .int .i64 x337001_15, u337002, .int .i64 x337003_47, .int .i64 x337004_47, .int .i64 x337005_40, .slice none 0 0, .int .i64 x337007_23, u337008] 40 (0, 0)) bk NB336_341.out (by simp)); have n3_ := Aside0.mk (Kd.R_lower (Kd.R_newM (M := fun k_ => (w.heap.size ≤ k_)) ho0 (below_size (by repeat (first | (with_reducible first | exact HB.out | apply below_alloc | apply pw_below_drewN | apply below_drew1 | refine below_set ?_ (IsS73.ge HI341.out) | refine below_set ?_ GE336.out) | exact HB.out))) (fun k_ h_ => h_)) (below_size (by repeat (first | (with_reducible first | exact HB.out | apply below_alloc | apply pw_below_drewN | apply below_drew1 | refine below_set ?_ (IsS73.ge HI341.out) | refine below_set ?_ GE336.out) | exact HB.out)))); have n4_ := Aside0.mk (hb); have n5_ := Aside0.mk (hi); clear HO_337002; clear HO_337008; clear BK336; clear HB; clear HI341; have HO_337002 := n0_; have HO_337008 := n1_; have BK336 := n2_; have HO371 := n3_; have HB := n4_; have HI341 := n5_; clear n0_ n1_ n2_ n3_ n4_ n5_; (try clear hb); (try clear hb2); (try clear hk); (try clear hi); (try clear ho0); obtain ⟨Ao58, co58, eo58⟩ := Kd.R_slice HO371.out; subst eo58; have hnb59 := NB336_341.out; have hnc59 := NB341_336.out; obtain ⟨hcz60_0, hcz60_1, hcz60_2, hcz60_3, hcz60_4, hcz60_5, hcz60_6, hcz60_7, hcz60_8⟩ := cells9 BK336.out; obtain ⟨hfz60_0, hfz60_1, hfz60_2, hfz60_3, hfz60_4, hfz60_5, hfz60_6, hfz60_7, hfz60_8⟩ := frz9 BK336.out; obtain ⟨ASz61_0, cSz61_0, HGz61, hgz61, HSz61_0⟩ := HI341.out; have hcz61_0 := cellS73_0 HGz61; have hcz61_1 := cellS73_1 HGz61; have hcz61_2 := cellS73_2 HGz61; have hfz61_1 := blk_frozen HGz61 1; have hfz61_2 := blk_frozen HGz61 2; clear HGz61 hgz61; obtain ⟨Ao62, co62, eo62⟩ := Kd.R_slice HO_337002.out; subst eo62; obtain ⟨Ao63, co63, eo63⟩ := Kd.V_slice HO_337008.out; subst eo63))
                    refine start_ (n := 8) (S := fun w' => w'.cell? ⟨gb341, 1, none⟩ = some (.int .i64 t372)) (ds := []) #[false, false, false, false, false, false, false, false] (by kernel_rfl) rfl rfl (by first | exact hcz61_1 | exact cf (Aside0.out (by assumption)) hcz61_1) (fun hHeld => ?_)
                    refine pure_ (i := 1) (N := some 113) (v := ?_) (a' := ?_) #[false, true, false, false, false, false, false, false] rfl rfl (by kernel_rfl) (fun _ _ _ h => h) (Or.inl ⟨by rfl, ?_⟩) ?_ ?_
                    rotate_left
                    ·
                     intro w'
                     go_simp
                     with_reducible rfl
                    rotate_left
                    ·
                     simp only [Act.put, List.setIfInBounds_toArray, List.set_cons_zero, List.set_cons_succ, i64_w, i32_w]
                     rfl
                    refine pure_ (i := 2) (N := some 114) (v := ?_) (a' := ?_) #[false, true, true, false, false, false, false, false] rfl rfl (by kernel_rfl) (fun _ _ _ h => h) (Or.inl ⟨by rfl, ?_⟩) ?_ ?_
                    rotate_left
                    ·
                     intro w'
                     go_simp
                     with_reducible rfl
                    rotate_left
                    ·
                     simp only [Act.put, List.setIfInBounds_toArray, List.set_cons_zero, List.set_cons_succ, i64_w, i32_w]
                     rfl
                    refine pure_ (i := 3) (N := some 115) (v := ?_) (a' := ?_) #[false, true, true, true, false, false, false, false] rfl rfl (by kernel_rfl) (fun _ _ _ h => h) (Or.inl ⟨by rfl, ?_⟩) ?_ ?_
                    rotate_left
                    ·
                     intro w'
                     go_simp
                     with_reducible rfl
                    rotate_left
                    ·
                     simp only [Act.put, List.setIfInBounds_toArray, List.set_cons_zero, List.set_cons_succ, i64_w, i32_w]
                     rfl
                    refine take_ (i := 4) (N := some 116) (v := ?_) (a' := ?_) #[false, true, true, true, true, false, false, false] rfl rfl (by kernel_rfl) (fun _ _ _ h => h) (Or.inl ⟨by rfl, ?_⟩) hHeld ?_ ?_
                    rotate_left
                    ·
                     intro w' s0
                     go_simp
                     with_reducible rfl
                    rotate_left
                    ·
                     simp only [Act.put, List.setIfInBounds_toArray, List.set_cons_zero, List.set_cons_succ, i64_w, i32_w]
                     rfl
                    refine one_ (i := 0) (N := some 112) #[true, true, true, true, true, false, false, false] rfl rfl (by kernel_rfl) (by decide) (fun K hK => ?_)
                    refine value_ (w1 := ?_) (v := ?_) (by rfl) rfl ?_ ?_
                    rotate_left 2
                    ·
                     go_simp
                     constructor
                     ·
                      rfl
                     ·
                      rfl
                    refine hK.out _ _ hHeld (fun hHeld => ?_)
                    clear hK K
                    refine norm_ (a' := ?_) ?_ ?_
                    rotate_left
                    ·
                     show Act.put _ (some 112) _ = _
                     simp only [Act.put, List.setIfInBounds_toArray, List.set_cons_zero, List.set_cons_succ, i64_w, i32_w]
                     rfl
                    refine one_ (i := 5) (N := none) #[true, true, true, true, true, true, false, false] rfl rfl (by kernel_rfl) (by decide) (fun K hK => ?_)
                    refine skip_ (w1 := ?_) (by rfl) rfl ?_ ?_
                    rotate_left
                    ·
                     go_simp
                     rfl
                    refine hK.out _ _ (by refine (drew_cell_ _ _).trans ?_; (iterate 9 refine cf NB341_336.out ?_); exact hHeld) (fun hHeld => ?_)
                    clear hK K
                    refine pure_ (i := 6) (N := some 5) (v := ?_) (a' := ?_) #[true, true, true, true, true, true, true, false] rfl rfl (by kernel_rfl) (fun _ _ _ h => h) (Or.inl ⟨by rfl, ?_⟩) ?_ ?_
                    rotate_left
                    ·
                     intro w'
                     go_simp
                     with_reducible rfl
                    rotate_left
                    ·
                     simp only [Act.put, List.setIfInBounds_toArray, List.set_cons_zero, List.set_cons_succ, i64_w, i32_w]
                     rfl
                    refine pure_ (i := 7) (N := some 6) (v := ?_) (a' := ?_) #[true, true, true, true, true, true, true, true] rfl rfl (by kernel_rfl) (fun _ _ _ h => h) (Or.inl ⟨by rfl, ?_⟩) ?_ ?_
                    rotate_left
                    ·
                     intro w'
                     go_simp
                     with_reducible rfl
                    rotate_left
                    ·
                     simp only [Act.put, List.setIfInBounds_toArray, List.set_cons_zero, List.set_cons_succ, i64_w, i32_w]
                     rfl
                    refine done_ (by kernel_rfl) ?_
                    go_wp2
                    refine bodyPost_ret (results_ctt rfl _ _ gb336 40 #[.int .i64 (wrap64 (rd l0 a1)), .int .i64 x337001_15, .slice Ao62 x337002_40.length co62, .int .i64 x337003_47, .int .i64 x337004_47, .int .i64 x337005_40, .slice Ao58 t369.length co58, .int .i64 x337007_23, .slice Ao63 x337008_29.length co63] (0, 0) _ rfl bk Try.underlying40 rfl (by kernel_rfl)) rfl ?_
                    exact ⟨_, _, _, erq, by (with_reducible repeat (first | apply Kd.R_alloc | apply Kd.R_drewN | apply Kd.R_drew)); exact Kd.R_mono (Kd.R_step (Kd.R_types HO_337002.out BK336.out (by decide)) (fun k_ hk_ _ => by have hq_ := hk_.2; exact stp)) (fun _ hk => hk.1), by (with_reducible repeat (first | apply Kd.R_alloc | apply Kd.R_drewN | apply Kd.R_drew)); exact Kd.R_mono (Kd.R_step (Kd.R_types HO371.out BK336.out (by decide)) (fun k_ hk_ _ => by have hq_ := hk_.2; exact stp)) (fun _ hk => hk.1.1), by (with_reducible repeat (first | apply Kd.V_alloc | apply Kd.V_drewN | apply Kd.V_drew)); exact Kd.V_mono (Kd.V_step (Kd.V_mono HO_337008.out (fun k_ hk => (⟨hk, hk.1.2.2.1⟩ : _ ∧ k_ ≠ gb336))) (fun k_ hk_ _ => by have hq_ := hk_.2; exact stp)) (fun _ hk => ⟨hk.1.1.1, ⟨hk.1.1.2.1, hk.1.2⟩⟩), by repeat (first | (with_reducible first | exact HB.out | apply below_alloc | apply pw_below_drewN | apply below_drew1 | refine below_set ?_ (IsS73.ge HI341.out) | refine below_set ?_ GE336.out) | exact HB.out)⟩
                   ·
                    rw [if_neg c56] at H
                    have c56b0 : (t373 == 0) = false := beq_eq_false_iff_ne.mpr c56
                    have c56b1 : (t373 != 0) = true := bne_iff_ne.mpr c56
                    simp only [Option.some.injEq, Prod.mk.injEq] at H
                    obtain ⟨rfl, rfl, rfl, rfl, rfl, rfl, rfl, rfl, rfl, rfl, rfl⟩ := H
                    go_wp2_with (first | ((with_reducible refine gate_callee (f := 40) rfl ?_); refine goesL_ (some 100) rfl rfl Try.func40 (by kernel_rfl) rfl #[.pointer (some ⟨gb341, 0, none⟩)] rfl mpq ?_; (with_reducible refine (wire_reader_front.calls kj47 gb341 l0 x342001_47 x342002_47 t369 t372 t373 w _ ?side1 ?side2 A55.out).mono ?_); (case side1 => repeat (first | (with_reducible first | exact HI341.out | apply IsS73.alloc | apply IsS73.drewN | apply IsS73.drew | apply IsS73.set_1 | apply IsS73.set_2 | refine IsS73.far ?_ NB341_336.out _) | exact HI341.out)); (case side2 => repeat (first | (with_reducible first | exact HB.out | apply below_alloc | apply pw_below_drewN | apply below_drew1 | refine below_set ?_ (IsS73.ge HI341.out) | refine below_set ?_ GE336.out) | exact HB.out)); rintro e w64 ⟨v370, rfl, ho0, hi, hb, hk⟩; refine ⟨_, rfl, ?_⟩; have n0_ := Aside0.mk (Kd.R_mono (Kd.R_keep (IsS73.apart (show IsS73 w _ gb341 l0 x342001_47 x342002_47 from by repeat (first | (with_reducible first | exact HI341.out | apply IsS73.alloc | apply IsS73.drewN | apply IsS73.drew | apply IsS73.set_1 | apply IsS73.set_2 | refine IsS73.far ?_ NB341_336.out _) | exact HI341.out)) (rp HO_337002.out) (by decide)) hk (fun _ h => h.2)) (fun _ h => h.1)); have n1_ := Aside0.mk (Kd.V_mono (Kd.V_told (Kd.V_oldK (Kd.V_mono (ok := fun k_ => (((w.heap.size ≤ k_)) ∧ (some k_ ≠ (u337002 : Value).ownBlock ∧ (k_ ≠ gb336 ∧ k_ ≠ gb341)))) (by (with_reducible repeat (first | apply Kd.V_alloc | apply Kd.V_drewN | apply Kd.V_drew)); exact HO_337008.out) (fun k_ hk_ => (⟨hk_, hk_.2.2.2⟩ : _ ∧ k_ ≠ gb341))) hk) (Kd.R_base ho0)) (fun _ h_ => h_.1)); have n2_ := Aside0.mk (KeepBut.blk hk (g' := gb336) (o := .cells #[.int .i64 (wrap64 (rd l0 a1)), .int .i64 x337001_15, u337002, .int .i64 x337003_47, .int .i64 x337004_47, .int .i64 x337005_40, .slice none 0 0, .int .i64 x337007_23, u337008] 40 (0, 0)) bk NB336_341.out (by simp)); have n3_ := Aside0.mk (Kd.R_lower (Kd.R_newM (M := fun k_ => (w.heap.size ≤ k_)) ho0 (below_size (by repeat (first | (with_reducible first | exact HB.out | apply below_alloc | apply pw_below_drewN | apply below_drew1 | refine below_set ?_ (IsS73.ge HI341.out) | refine below_set ?_ GE336.out) | exact HB.out))) (fun k_ h_ => h_)) (below_size (by repeat (first | (with_reducible first | exact HB.out | apply below_alloc | apply pw_below_drewN | apply below_drew1 | refine below_set ?_ (IsS73.ge HI341.out) | refine below_set ?_ GE336.out) | exact HB.out)))); have n4_ := Aside0.mk (hb); have n5_ := Aside0.mk (hi); clear HO_337002; clear HO_337008; clear BK336; clear HB; clear HI341; have HO_337002 := n0_; have HO_337008 := n1_; have BK336 := n2_; have HO371 := n3_; have HB := n4_; have HI341 := n5_; clear n0_ n1_ n2_ n3_ n4_ n5_; (try clear hb); (try clear hb2); (try clear hk); (try clear hi); (try clear ho0); obtain ⟨Ao65, co65, eo65⟩ := Kd.R_slice HO371.out; subst eo65; have hnb66 := NB336_341.out; have hnc66 := NB341_336.out; obtain ⟨hcz67_0, hcz67_1, hcz67_2, hcz67_3, hcz67_4, hcz67_5, hcz67_6, hcz67_7, hcz67_8⟩ := cells9 BK336.out; obtain ⟨hfz67_0, hfz67_1, hfz67_2, hfz67_3, hfz67_4, hfz67_5, hfz67_6, hfz67_7, hfz67_8⟩ := frz9 BK336.out; obtain ⟨ASz68_0, cSz68_0, HGz68, hgz68, HSz68_0⟩ := HI341.out; have hcz68_0 := cellS73_0 HGz68; have hcz68_1 := cellS73_1 HGz68; have hcz68_2 := cellS73_2 HGz68; have hfz68_1 := blk_frozen HGz68 1; have hfz68_2 := blk_frozen HGz68 2; clear HGz68 hgz68))
                    refine start_ (n := 8) (S := fun w' => w'.cell? ⟨gb341, 2, none⟩ = some (.int .i64 t373)) (ds := []) #[false, false, false, false, false, false, false, false] (by kernel_rfl) rfl rfl (by first | exact hcz68_2 | exact cf (Aside0.out (by assumption)) hcz68_2) (fun hHeld => ?_)
                    refine pure_ (i := 1) (N := some 108) (v := ?_) (a' := ?_) #[false, true, false, false, false, false, false, false] rfl rfl (by kernel_rfl) (fun _ _ _ h => h) (Or.inl ⟨by rfl, ?_⟩) ?_ ?_
                    rotate_left
                    ·
                     intro w'
                     go_simp
                     with_reducible rfl
                    rotate_left
                    ·
                     simp only [Act.put, List.setIfInBounds_toArray, List.set_cons_zero, List.set_cons_succ, i64_w, i32_w]
                     rfl
                    refine pure_ (i := 2) (N := some 109) (v := ?_) (a' := ?_) #[false, true, true, false, false, false, false, false] rfl rfl (by kernel_rfl) (fun _ _ _ h => h) (Or.inl ⟨by rfl, ?_⟩) ?_ ?_
                    rotate_left
                    ·
                     intro w'
                     go_simp
                     with_reducible rfl
                    rotate_left
                    ·
                     simp only [Act.put, List.setIfInBounds_toArray, List.set_cons_zero, List.set_cons_succ, i64_w, i32_w]
                     rfl
                    refine pure_ (i := 3) (N := some 110) (v := ?_) (a' := ?_) #[false, true, true, true, false, false, false, false] rfl rfl (by kernel_rfl) (fun _ _ _ h => h) (Or.inl ⟨by rfl, ?_⟩) ?_ ?_
                    rotate_left
                    ·
                     intro w'
                     go_simp
                     with_reducible rfl
                    rotate_left
                    ·
                     simp only [Act.put, List.setIfInBounds_toArray, List.set_cons_zero, List.set_cons_succ, i64_w, i32_w]
                     rfl
                    refine take_ (i := 4) (N := some 111) (v := ?_) (a' := ?_) #[false, true, true, true, true, false, false, false] rfl rfl (by kernel_rfl) (fun _ _ _ h => h) (Or.inl ⟨by rfl, ?_⟩) hHeld ?_ ?_
                    rotate_left
                    ·
                     intro w' s0
                     go_simp
                     with_reducible rfl
                    rotate_left
                    ·
                     simp only [Act.put, List.setIfInBounds_toArray, List.set_cons_zero, List.set_cons_succ, i64_w, i32_w]
                     rfl
                    refine pure_ (i := 0) (N := some 107) (v := ?_) (a' := ?_) #[true, true, true, true, true, false, false, false] rfl rfl (by kernel_rfl) (fun _ _ _ h => h) (Or.inl ⟨by rfl, ?_⟩) ?_ ?_
                    rotate_left
                    ·
                     intro w'
                     go_simp
                     with_reducible rfl
                    rotate_left
                    ·
                     simp only [Act.put, List.setIfInBounds_toArray, List.set_cons_zero, List.set_cons_succ, i64_w, i32_w]
                     rfl
                    refine one_ (i := 5) (N := none) #[true, true, true, true, true, true, false, false] rfl rfl (by kernel_rfl) (by decide) (fun K hK => ?_)
                    refine skip_ (w1 := ?_) (by rfl) rfl ?_ ?_
                    rotate_left
                    ·
                     go_simp
                     rfl
                    refine hK.out _ _ (by refine (drew_cell_ _ _).trans ?_; (iterate 9 refine cf NB341_336.out ?_); exact hHeld) (fun hHeld => ?_)
                    clear hK K
                    refine pure_ (i := 6) (N := some 5) (v := ?_) (a' := ?_) #[true, true, true, true, true, true, true, false] rfl rfl (by kernel_rfl) (fun _ _ _ h => h) (Or.inl ⟨by rfl, ?_⟩) ?_ ?_
                    rotate_left
                    ·
                     intro w'
                     go_simp
                     with_reducible rfl
                    rotate_left
                    ·
                     simp only [Act.put, List.setIfInBounds_toArray, List.set_cons_zero, List.set_cons_succ, i64_w, i32_w]
                     rfl
                    refine pure_ (i := 7) (N := some 6) (v := ?_) (a' := ?_) #[true, true, true, true, true, true, true, true] rfl rfl (by kernel_rfl) (fun _ _ _ h => h) (Or.inl ⟨by rfl, ?_⟩) ?_ ?_
                    rotate_left
                    ·
                     intro w'
                     go_simp
                     with_reducible rfl
                    rotate_left
                    ·
                     simp only [Act.put, List.setIfInBounds_toArray, List.set_cons_zero, List.set_cons_succ, i64_w, i32_w]
                     rfl
                    refine done_ (by kernel_rfl) ?_
                    go_wp2
                    refine bodyPost_ret (results_ctt rfl _ _ gb336 40 #[.int .i64 0, .int .i64 0, .slice none 0 0, .int .i64 0, .int .i64 0, .int .i64 0, .slice none 0 0, .int .i64 0, .slice none 0 0] (0, 0) _ rfl bk Try.underlying40 rfl (by kernel_rfl)) rfl ?_
                    exact ⟨_, _, _, erq, nlq, nlq, nlq, by repeat (first | (with_reducible first | exact HB.out | apply below_alloc | apply pw_below_drewN | apply below_drew1 | refine below_set ?_ (IsS73.ge HI341.out) | refine below_set ?_ GE336.out) | exact HB.out)⟩
                  ·
                   rw [if_neg c54] at H
                   have c54b0 : decide (0 < (Go.bits .and .i64 t340 32)) = false := decide_eq_false c54
                   clear c54
                   by_cases c69 : x342002_47 = 0
                   ·
                    rw [if_pos c69] at H
                    have c69b0 : (x342002_47 == 0) = true := beq_iff_eq.mpr c69
                    have c69b1 : (x342002_47 != 0) = false := bne_eq_false_iff_eq.mpr c69
                    clear c69
                    simp only [Option.some.injEq, Prod.mk.injEq] at H
                    obtain ⟨rfl, rfl, rfl, rfl, rfl, rfl, rfl, rfl, rfl, rfl, rfl⟩ := H
                    obtain ⟨ASz70_0, cSz70_0, HGz70, hgz70, HSz70_0⟩ := HI341.out
                    have hcz70_0 := cellS73_0 HGz70
                    have hcz70_1 := cellS73_1 HGz70
                    have hcz70_2 := cellS73_2 HGz70
                    have hfz70_1 := blk_frozen HGz70 1
                    have hfz70_2 := blk_frozen HGz70 2
                    clear HGz70 hgz70
                    have hnb71 := NB336_341.out
                    have hnc71 := NB341_336.out
                    obtain ⟨hcz72_0, hcz72_1, hcz72_2, hcz72_3, hcz72_4, hcz72_5, hcz72_6, hcz72_7, hcz72_8⟩ := cells9 BK336.out
                    obtain ⟨hfz72_0, hfz72_1, hfz72_2, hfz72_3, hfz72_4, hfz72_5, hfz72_6, hfz72_7, hfz72_8⟩ := frz9 BK336.out
                    obtain ⟨Ao73, co73, eo73⟩ := Kd.R_slice HO_337002.out
                    subst eo73
                    obtain ⟨Ao74, co74, eo74⟩ := Kd.V_slice HO_337008.out
                    subst eo74
                    go_wp2
                    refine start_ (n := 8) (S := fun w' => w'.cell? ⟨gb341, 1, none⟩ = some (.int .i64 x342001_47)) (ds := []) #[false, false, false, false, false, false, false, false] (by kernel_rfl) rfl rfl (by first | exact hcz70_1 | exact cf (Aside0.out (by assumption)) hcz70_1) (fun hHeld => ?_)
                    refine pure_ (i := 1) (N := some 113) (v := ?_) (a' := ?_) #[false, true, false, false, false, false, false, false] rfl rfl (by kernel_rfl) (fun _ _ _ h => h) (Or.inl ⟨by rfl, ?_⟩) ?_ ?_
                    rotate_left
                    ·
                     intro w'
                     go_simp
                     with_reducible rfl
                    rotate_left
                    ·
                     simp only [Act.put, List.setIfInBounds_toArray, List.set_cons_zero, List.set_cons_succ, i64_w, i32_w]
                     rfl
                    refine pure_ (i := 2) (N := some 114) (v := ?_) (a' := ?_) #[false, true, true, false, false, false, false, false] rfl rfl (by kernel_rfl) (fun _ _ _ h => h) (Or.inl ⟨by rfl, ?_⟩) ?_ ?_
                    rotate_left
                    ·
                     intro w'
                     go_simp
                     with_reducible rfl
                    rotate_left
                    ·
                     simp only [Act.put, List.setIfInBounds_toArray, List.set_cons_zero, List.set_cons_succ, i64_w, i32_w]
                     rfl
                    refine pure_ (i := 3) (N := some 115) (v := ?_) (a' := ?_) #[false, true, true, true, false, false, false, false] rfl rfl (by kernel_rfl) (fun _ _ _ h => h) (Or.inl ⟨by rfl, ?_⟩) ?_ ?_
                    rotate_left
                    ·
                     intro w'
                     go_simp
                     with_reducible rfl
                    rotate_left
                    ·
                     simp only [Act.put, List.setIfInBounds_toArray, List.set_cons_zero, List.set_cons_succ, i64_w, i32_w]
                     rfl
                    refine take_ (i := 4) (N := some 116) (v := ?_) (a' := ?_) #[false, true, true, true, true, false, false, false] rfl rfl (by kernel_rfl) (fun _ _ _ h => h) (Or.inl ⟨by rfl, ?_⟩) hHeld ?_ ?_
                    rotate_left
                    ·
                     intro w' s0
                     go_simp
                     with_reducible rfl
                    rotate_left
                    ·
                     simp only [Act.put, List.setIfInBounds_toArray, List.set_cons_zero, List.set_cons_succ, i64_w, i32_w]
                     rfl
                    refine one_ (i := 0) (N := some 112) #[true, true, true, true, true, false, false, false] rfl rfl (by kernel_rfl) (by decide) (fun K hK => ?_)
                    refine value_ (w1 := ?_) (v := ?_) (by rfl) rfl ?_ ?_
                    rotate_left 2
                    ·
                     go_simp
                     constructor
                     ·
                      rfl
                     ·
                      rfl
                    refine hK.out _ _ hHeld (fun hHeld => ?_)
                    clear hK K
                    refine norm_ (a' := ?_) ?_ ?_
                    rotate_left
                    ·
                     show Act.put _ (some 112) _ = _
                     simp only [Act.put, List.setIfInBounds_toArray, List.set_cons_zero, List.set_cons_succ, i64_w, i32_w]
                     rfl
                    refine one_ (i := 5) (N := none) #[true, true, true, true, true, true, false, false] rfl rfl (by kernel_rfl) (by decide) (fun K hK => ?_)
                    refine skip_ (w1 := ?_) (by rfl) rfl ?_ ?_
                    rotate_left
                    ·
                     go_simp
                     rfl
                    refine hK.out _ _ (by refine (drew_cell_ _ _).trans ?_; (iterate 9 refine cf NB341_336.out ?_); exact hHeld) (fun hHeld => ?_)
                    clear hK K
                    refine pure_ (i := 6) (N := some 5) (v := ?_) (a' := ?_) #[true, true, true, true, true, true, true, false] rfl rfl (by kernel_rfl) (fun _ _ _ h => h) (Or.inl ⟨by rfl, ?_⟩) ?_ ?_
                    rotate_left
                    ·
                     intro w'
                     go_simp
                     with_reducible rfl
                    rotate_left
                    ·
                     simp only [Act.put, List.setIfInBounds_toArray, List.set_cons_zero, List.set_cons_succ, i64_w, i32_w]
                     rfl
                    refine pure_ (i := 7) (N := some 6) (v := ?_) (a' := ?_) #[true, true, true, true, true, true, true, true] rfl rfl (by kernel_rfl) (fun _ _ _ h => h) (Or.inl ⟨by rfl, ?_⟩) ?_ ?_
                    rotate_left
                    ·
                     intro w'
                     go_simp
                     with_reducible rfl
                    rotate_left
                    ·
                     simp only [Act.put, List.setIfInBounds_toArray, List.set_cons_zero, List.set_cons_succ, i64_w, i32_w]
                     rfl
                    refine done_ (by kernel_rfl) ?_
                    go_wp2
                    refine bodyPost_ret (results_ctt rfl _ _ gb336 40 #[.int .i64 (wrap64 (rd l0 a1)), .int .i64 x337001_15, .slice Ao73 x337002_40.length co73, .int .i64 x337003_47, .int .i64 x337004_47, .int .i64 x337005_40, .slice none 0 0, .int .i64 x337007_23, .slice Ao74 x337008_29.length co74] (0, 0) _ rfl bk Try.underlying40 rfl (by kernel_rfl)) rfl ?_
                    exact ⟨_, _, _, erq, by (with_reducible repeat (first | apply Kd.R_alloc | apply Kd.R_drewN | apply Kd.R_drew)); exact Kd.R_mono (Kd.R_step (Kd.R_types HO_337002.out BK336.out (by decide)) (fun k_ hk_ _ => by have hq_ := hk_.2; exact stp)) (fun _ hk => hk.1), nlq, by (with_reducible repeat (first | apply Kd.V_alloc | apply Kd.V_drewN | apply Kd.V_drew)); exact Kd.V_mono (Kd.V_step (Kd.V_mono HO_337008.out (fun k_ hk => (⟨hk, hk.2.2.1⟩ : _ ∧ k_ ≠ gb336))) (fun k_ hk_ _ => by have hq_ := hk_.2; exact stp)) (fun _ hk => ⟨hk.1.1, ⟨hk.1.2.1, (by simp [Value.ownBlock])⟩⟩), by repeat (first | (with_reducible first | exact HB.out | apply below_alloc | apply pw_below_drewN | apply below_drew1 | refine below_set ?_ (IsS73.ge HI341.out) | refine below_set ?_ GE336.out) | exact HB.out)⟩
                   ·
                    rw [if_neg c69] at H
                    have c69b0 : (x342002_47 == 0) = false := beq_eq_false_iff_ne.mpr c69
                    have c69b1 : (x342002_47 != 0) = true := bne_iff_ne.mpr c69
                    simp only [Option.some.injEq, Prod.mk.injEq] at H
                    obtain ⟨rfl, rfl, rfl, rfl, rfl, rfl, rfl, rfl, rfl, rfl, rfl⟩ := H
                    obtain ⟨ASz75_0, cSz75_0, HGz75, hgz75, HSz75_0⟩ := HI341.out
                    have hcz75_0 := cellS73_0 HGz75
                    have hcz75_1 := cellS73_1 HGz75
                    have hcz75_2 := cellS73_2 HGz75
                    have hfz75_1 := blk_frozen HGz75 1
                    have hfz75_2 := blk_frozen HGz75 2
                    clear HGz75 hgz75
                    have hnb76 := NB336_341.out
                    have hnc76 := NB341_336.out
                    obtain ⟨hcz77_0, hcz77_1, hcz77_2, hcz77_3, hcz77_4, hcz77_5, hcz77_6, hcz77_7, hcz77_8⟩ := cells9 BK336.out
                    obtain ⟨hfz77_0, hfz77_1, hfz77_2, hfz77_3, hfz77_4, hfz77_5, hfz77_6, hfz77_7, hfz77_8⟩ := frz9 BK336.out
                    go_wp2
                    refine start_ (n := 8) (S := fun w' => w'.cell? ⟨gb341, 2, none⟩ = some (.int .i64 x342002_47)) (ds := []) #[false, false, false, false, false, false, false, false] (by kernel_rfl) rfl rfl (by first | exact hcz75_2 | exact cf (Aside0.out (by assumption)) hcz75_2) (fun hHeld => ?_)
                    refine pure_ (i := 1) (N := some 108) (v := ?_) (a' := ?_) #[false, true, false, false, false, false, false, false] rfl rfl (by kernel_rfl) (fun _ _ _ h => h) (Or.inl ⟨by rfl, ?_⟩) ?_ ?_
                    rotate_left
                    ·
                     intro w'
                     go_simp
                     with_reducible rfl
                    rotate_left
                    ·
                     simp only [Act.put, List.setIfInBounds_toArray, List.set_cons_zero, List.set_cons_succ, i64_w, i32_w]
                     rfl
                    refine pure_ (i := 2) (N := some 109) (v := ?_) (a' := ?_) #[false, true, true, false, false, false, false, false] rfl rfl (by kernel_rfl) (fun _ _ _ h => h) (Or.inl ⟨by rfl, ?_⟩) ?_ ?_
                    rotate_left
                    ·
                     intro w'
                     go_simp
                     with_reducible rfl
                    rotate_left
                    ·
                     simp only [Act.put, List.setIfInBounds_toArray, List.set_cons_zero, List.set_cons_succ, i64_w, i32_w]
                     rfl
                    refine pure_ (i := 3) (N := some 110) (v := ?_) (a' := ?_) #[false, true, true, true, false, false, false, false] rfl rfl (by kernel_rfl) (fun _ _ _ h => h) (Or.inl ⟨by rfl, ?_⟩) ?_ ?_
                    rotate_left
                    ·
                     intro w'
                     go_simp
                     with_reducible rfl
                    rotate_left
                    ·
                     simp only [Act.put, List.setIfInBounds_toArray, List.set_cons_zero, List.set_cons_succ, i64_w, i32_w]
                     rfl
                    refine take_ (i := 4) (N := some 111) (v := ?_) (a' := ?_) #[false, true, true, true, true, false, false, false] rfl rfl (by kernel_rfl) (fun _ _ _ h => h) (Or.inl ⟨by rfl, ?_⟩) hHeld ?_ ?_
                    rotate_left
                    ·
                     intro w' s0
                     go_simp
                     with_reducible rfl
                    rotate_left
                    ·
                     simp only [Act.put, List.setIfInBounds_toArray, List.set_cons_zero, List.set_cons_succ, i64_w, i32_w]
                     rfl
                    refine pure_ (i := 0) (N := some 107) (v := ?_) (a' := ?_) #[true, true, true, true, true, false, false, false] rfl rfl (by kernel_rfl) (fun _ _ _ h => h) (Or.inl ⟨by rfl, ?_⟩) ?_ ?_
                    rotate_left
                    ·
                     intro w'
                     go_simp
                     with_reducible rfl
                    rotate_left
                    ·
                     simp only [Act.put, List.setIfInBounds_toArray, List.set_cons_zero, List.set_cons_succ, i64_w, i32_w]
                     rfl
                    refine one_ (i := 5) (N := none) #[true, true, true, true, true, true, false, false] rfl rfl (by kernel_rfl) (by decide) (fun K hK => ?_)
                    refine skip_ (w1 := ?_) (by rfl) rfl ?_ ?_
                    rotate_left
                    ·
                     go_simp
                     rfl
                    refine hK.out _ _ (by refine (drew_cell_ _ _).trans ?_; (iterate 9 refine cf NB341_336.out ?_); exact hHeld) (fun hHeld => ?_)
                    clear hK K
                    refine pure_ (i := 6) (N := some 5) (v := ?_) (a' := ?_) #[true, true, true, true, true, true, true, false] rfl rfl (by kernel_rfl) (fun _ _ _ h => h) (Or.inl ⟨by rfl, ?_⟩) ?_ ?_
                    rotate_left
                    ·
                     intro w'
                     go_simp
                     with_reducible rfl
                    rotate_left
                    ·
                     simp only [Act.put, List.setIfInBounds_toArray, List.set_cons_zero, List.set_cons_succ, i64_w, i32_w]
                     rfl
                    refine pure_ (i := 7) (N := some 6) (v := ?_) (a' := ?_) #[true, true, true, true, true, true, true, true] rfl rfl (by kernel_rfl) (fun _ _ _ h => h) (Or.inl ⟨by rfl, ?_⟩) ?_ ?_
                    rotate_left
                    ·
                     intro w'
                     go_simp
                     with_reducible rfl
                    rotate_left
                    ·
                     simp only [Act.put, List.setIfInBounds_toArray, List.set_cons_zero, List.set_cons_succ, i64_w, i32_w]
                     rfl
                    refine done_ (by kernel_rfl) ?_
                    go_wp2
                    refine bodyPost_ret (results_ctt rfl _ _ gb336 40 #[.int .i64 0, .int .i64 0, .slice none 0 0, .int .i64 0, .int .i64 0, .int .i64 0, .slice none 0 0, .int .i64 0, .slice none 0 0] (0, 0) _ rfl bk Try.underlying40 rfl (by kernel_rfl)) rfl ?_
                    exact ⟨_, _, _, erq, nlq, nlq, nlq, by repeat (first | (with_reducible first | exact HB.out | apply below_alloc | apply pw_below_drewN | apply below_drew1 | refine below_set ?_ (IsS73.ge HI341.out) | refine below_set ?_ GE336.out) | exact HB.out)⟩
      ·
       rw [if_neg c11] at H
       exact absurd H (by simp)
     ·
      rw [if_neg c10] at H
      exact absurd H (by simp)

end Go.Proofs.Ytpplklickfioiaa.PWireDecodes
