/- One piece of the machine's side of the law, written by a program over the translation; Lean checks it. -/
import Derived.Test.YtbdpnecnnokkkaaOSheetSamex0
import Derived.Test.YtbdpnecnnokkkaaOSheetSamex1
import Derived.Test.YtbdpnecnnokkkaaOSheetSamex9
import Derived.Test.YtbdpnecnnokkkaaShort
namespace Go.Proofs.Ytbdpnecnnokkkaa.PSheetSame
open Go.RowKit Go.Proofs.YtbdpnecnnokkkaaW.PrintWords Go.Proofs.YtbdpnecnnokkkaaW.PrintLast Go.Proofs.YtbdpnecnnokkkaaW.PrintMore
attribute [local go_sem] max2_int min2_int max_two min_two max_three min_three max_four min_four   -- for this text's walks alone
set_option linter.unusedVariables false
set_option linter.unusedSimpArgs false

attribute [local go_sem high] eqA52
/-! ### runnelref17_Same: function 9 -/
mutual
def runnelref17_Same.j0 : Nat → Bool → List (S44) → List Int → Int → List (S44) → List Int → Int → Option (Bool)
 | 0, _, _, _, _, _, _, _ => none
 | k + 1, x31, x275000, x275001, x275002, x276000, x276001, x276002 => if x31 = true then (some false) else (runnelref17_Same.l0 k 0 x275000 x275001 x275002 x276000 x276001 x276002)
def runnelref17_Same.l0 : Nat → Int → List (S44) → List Int → Int → List (S44) → List Int → Int → Option (Bool)
 | 0, _, _, _, _, _, _, _ => none
 | k + 1, x5, x275000, x275001, x275002, x276000, x276001, x276002 => if x5 < (x275000.length : Int) then (if 0 ≤ x5 then (if x5 < (x276000.length : Int) then (if ((rd_T44 x275000 x5).f0) = ((rd_T44 x276000 x5).f0) then (if ((rd_T44 x275000 x5).f5) = ((rd_T44 x276000 x5).f5) then (if ((rd_T44 x275000 x5).f6) = ((rd_T44 x276000 x5).f6) then (if ((rd_T44 x275000 x5).f7) = ((rd_T44 x276000 x5).f7) then (if ((rd_T44 x275000 x5).f8) = ((rd_T44 x276000 x5).f8) then ((runnelref16_Same.f k ((rd_T44 x275000 x5).f1) ((rd_T44 x276000 x5).f1)).bind fun t281 => (if t281 = true then ((runnelref16_Same.f k ((rd_T44 x275000 x5).f2) ((rd_T44 x276000 x5).f2)).bind fun t282 => (if t282 = true then ((runnelref16_Same.f k ((rd_T44 x275000 x5).f4) ((rd_T44 x276000 x5).f4)).bind fun t283 => (if t283 = true then (runnelref17_Same.j2 k x5 ((((rd_T44 x275000 x5).f3).length : Int) != (((rd_T44 x276000 x5).f3).length : Int)) x275000 x275001 x275002 x276000 x276001 x276002 ((rd_T44 x275000 x5).f0) ((rd_T44 x275000 x5).f1) ((rd_T44 x275000 x5).f2) ((rd_T44 x275000 x5).f3) ((rd_T44 x275000 x5).f4) ((rd_T44 x275000 x5).f5) ((rd_T44 x275000 x5).f6) ((rd_T44 x275000 x5).f7) ((rd_T44 x275000 x5).f8) ((rd_T44 x276000 x5).f0) ((rd_T44 x276000 x5).f1) ((rd_T44 x276000 x5).f2) ((rd_T44 x276000 x5).f3) ((rd_T44 x276000 x5).f4) ((rd_T44 x276000 x5).f5) ((rd_T44 x276000 x5).f6) ((rd_T44 x276000 x5).f7) ((rd_T44 x276000 x5).f8)) else (runnelref17_Same.j2 k x5 true x275000 x275001 x275002 x276000 x276001 x276002 ((rd_T44 x275000 x5).f0) ((rd_T44 x275000 x5).f1) ((rd_T44 x275000 x5).f2) ((rd_T44 x275000 x5).f3) ((rd_T44 x275000 x5).f4) ((rd_T44 x275000 x5).f5) ((rd_T44 x275000 x5).f6) ((rd_T44 x275000 x5).f7) ((rd_T44 x275000 x5).f8) ((rd_T44 x276000 x5).f0) ((rd_T44 x276000 x5).f1) ((rd_T44 x276000 x5).f2) ((rd_T44 x276000 x5).f3) ((rd_T44 x276000 x5).f4) ((rd_T44 x276000 x5).f5) ((rd_T44 x276000 x5).f6) ((rd_T44 x276000 x5).f7) ((rd_T44 x276000 x5).f8)))) else (runnelref17_Same.j2 k x5 true x275000 x275001 x275002 x276000 x276001 x276002 ((rd_T44 x275000 x5).f0) ((rd_T44 x275000 x5).f1) ((rd_T44 x275000 x5).f2) ((rd_T44 x275000 x5).f3) ((rd_T44 x275000 x5).f4) ((rd_T44 x275000 x5).f5) ((rd_T44 x275000 x5).f6) ((rd_T44 x275000 x5).f7) ((rd_T44 x275000 x5).f8) ((rd_T44 x276000 x5).f0) ((rd_T44 x276000 x5).f1) ((rd_T44 x276000 x5).f2) ((rd_T44 x276000 x5).f3) ((rd_T44 x276000 x5).f4) ((rd_T44 x276000 x5).f5) ((rd_T44 x276000 x5).f6) ((rd_T44 x276000 x5).f7) ((rd_T44 x276000 x5).f8)))) else (runnelref17_Same.j2 k x5 true x275000 x275001 x275002 x276000 x276001 x276002 ((rd_T44 x275000 x5).f0) ((rd_T44 x275000 x5).f1) ((rd_T44 x275000 x5).f2) ((rd_T44 x275000 x5).f3) ((rd_T44 x275000 x5).f4) ((rd_T44 x275000 x5).f5) ((rd_T44 x275000 x5).f6) ((rd_T44 x275000 x5).f7) ((rd_T44 x275000 x5).f8) ((rd_T44 x276000 x5).f0) ((rd_T44 x276000 x5).f1) ((rd_T44 x276000 x5).f2) ((rd_T44 x276000 x5).f3) ((rd_T44 x276000 x5).f4) ((rd_T44 x276000 x5).f5) ((rd_T44 x276000 x5).f6) ((rd_T44 x276000 x5).f7) ((rd_T44 x276000 x5).f8)))) else (runnelref17_Same.j2 k x5 true x275000 x275001 x275002 x276000 x276001 x276002 ((rd_T44 x275000 x5).f0) ((rd_T44 x275000 x5).f1) ((rd_T44 x275000 x5).f2) ((rd_T44 x275000 x5).f3) ((rd_T44 x275000 x5).f4) ((rd_T44 x275000 x5).f5) ((rd_T44 x275000 x5).f6) ((rd_T44 x275000 x5).f7) ((rd_T44 x275000 x5).f8) ((rd_T44 x276000 x5).f0) ((rd_T44 x276000 x5).f1) ((rd_T44 x276000 x5).f2) ((rd_T44 x276000 x5).f3) ((rd_T44 x276000 x5).f4) ((rd_T44 x276000 x5).f5) ((rd_T44 x276000 x5).f6) ((rd_T44 x276000 x5).f7) ((rd_T44 x276000 x5).f8))) else (runnelref17_Same.j2 k x5 true x275000 x275001 x275002 x276000 x276001 x276002 ((rd_T44 x275000 x5).f0) ((rd_T44 x275000 x5).f1) ((rd_T44 x275000 x5).f2) ((rd_T44 x275000 x5).f3) ((rd_T44 x275000 x5).f4) ((rd_T44 x275000 x5).f5) ((rd_T44 x275000 x5).f6) ((rd_T44 x275000 x5).f7) ((rd_T44 x275000 x5).f8) ((rd_T44 x276000 x5).f0) ((rd_T44 x276000 x5).f1) ((rd_T44 x276000 x5).f2) ((rd_T44 x276000 x5).f3) ((rd_T44 x276000 x5).f4) ((rd_T44 x276000 x5).f5) ((rd_T44 x276000 x5).f6) ((rd_T44 x276000 x5).f7) ((rd_T44 x276000 x5).f8))) else (runnelref17_Same.j2 k x5 true x275000 x275001 x275002 x276000 x276001 x276002 ((rd_T44 x275000 x5).f0) ((rd_T44 x275000 x5).f1) ((rd_T44 x275000 x5).f2) ((rd_T44 x275000 x5).f3) ((rd_T44 x275000 x5).f4) ((rd_T44 x275000 x5).f5) ((rd_T44 x275000 x5).f6) ((rd_T44 x275000 x5).f7) ((rd_T44 x275000 x5).f8) ((rd_T44 x276000 x5).f0) ((rd_T44 x276000 x5).f1) ((rd_T44 x276000 x5).f2) ((rd_T44 x276000 x5).f3) ((rd_T44 x276000 x5).f4) ((rd_T44 x276000 x5).f5) ((rd_T44 x276000 x5).f6) ((rd_T44 x276000 x5).f7) ((rd_T44 x276000 x5).f8))) else (runnelref17_Same.j2 k x5 true x275000 x275001 x275002 x276000 x276001 x276002 ((rd_T44 x275000 x5).f0) ((rd_T44 x275000 x5).f1) ((rd_T44 x275000 x5).f2) ((rd_T44 x275000 x5).f3) ((rd_T44 x275000 x5).f4) ((rd_T44 x275000 x5).f5) ((rd_T44 x275000 x5).f6) ((rd_T44 x275000 x5).f7) ((rd_T44 x275000 x5).f8) ((rd_T44 x276000 x5).f0) ((rd_T44 x276000 x5).f1) ((rd_T44 x276000 x5).f2) ((rd_T44 x276000 x5).f3) ((rd_T44 x276000 x5).f4) ((rd_T44 x276000 x5).f5) ((rd_T44 x276000 x5).f6) ((rd_T44 x276000 x5).f7) ((rd_T44 x276000 x5).f8))) else (runnelref17_Same.j2 k x5 true x275000 x275001 x275002 x276000 x276001 x276002 ((rd_T44 x275000 x5).f0) ((rd_T44 x275000 x5).f1) ((rd_T44 x275000 x5).f2) ((rd_T44 x275000 x5).f3) ((rd_T44 x275000 x5).f4) ((rd_T44 x275000 x5).f5) ((rd_T44 x275000 x5).f6) ((rd_T44 x275000 x5).f7) ((rd_T44 x275000 x5).f8) ((rd_T44 x276000 x5).f0) ((rd_T44 x276000 x5).f1) ((rd_T44 x276000 x5).f2) ((rd_T44 x276000 x5).f3) ((rd_T44 x276000 x5).f4) ((rd_T44 x276000 x5).f5) ((rd_T44 x276000 x5).f6) ((rd_T44 x276000 x5).f7) ((rd_T44 x276000 x5).f8))) else (none)) else (none)) else (some true)
def runnelref17_Same.j2 : Nat → Int → Bool → List (S44) → List Int → Int → List (S44) → List Int → Int → Int → List Int → List Int → List (List (S52)) → List Int → Int → Int → Int → Int → Int → List Int → List Int → List (List (S52)) → List Int → Int → Int → Int → Int → Option (Bool)
 | 0, _, _, _, _, _, _, _, _, _, _, _, _, _, _, _, _, _, _, _, _, _, _, _, _, _, _ => none
 | k + 1, x5, x114, x275000, x275001, x275002, x276000, x276001, x276002, x280000, x280001, x280002, x280003, x280004, x280005, x280006, x280007, x280008, x281000, x281001, x281002, x281003, x281004, x281005, x281006, x281007, x281008 => if x114 = true then (some false) else (runnelref17_Same.l1 k x5 0 x275000 x275001 x275002 x276000 x276001 x276002 x280000 x280001 x280002 x280003 x280004 x280005 x280006 x280007 x280008 x281000 x281001 x281002 x281003 x281004 x281005 x281006 x281007 x281008)
def runnelref17_Same.l1 : Nat → Int → Int → List (S44) → List Int → Int → List (S44) → List Int → Int → Int → List Int → List Int → List (List (S52)) → List Int → Int → Int → Int → Int → Int → List Int → List Int → List (List (S52)) → List Int → Int → Int → Int → Int → Option (Bool)
 | 0, _, _, _, _, _, _, _, _, _, _, _, _, _, _, _, _, _, _, _, _, _, _, _, _, _, _ => none
 | k + 1, x5, x8, x275000, x275001, x275002, x276000, x276001, x276002, x280000, x280001, x280002, x280003, x280004, x280005, x280006, x280007, x280008, x281000, x281001, x281002, x281003, x281004, x281005, x281006, x281007, x281008 => if x8 < (x280003.length : Int) then (if 0 ≤ x8 then (if x8 < (x281003.length : Int) then (if ((rd_L4 x280003 x8).length : Int) = ((rd_L4 x281003 x8).length : Int) then (runnelref17_Same.l2 k x5 x8 0 x275000 x275001 x275002 x276000 x276001 x276002 x280000 x280001 x280002 x280003 x280004 x280005 x280006 x280007 x280008 x281000 x281001 x281002 x281003 x281004 x281005 x281006 x281007 x281008) else (some false)) else (none)) else (none)) else (runnelref17_Same.l0 k (wrap64 (x5 + 1)) x275000 x275001 x275002 x276000 x276001 x276002)
def runnelref17_Same.l2 : Nat → Int → Int → Int → List (S44) → List Int → Int → List (S44) → List Int → Int → Int → List Int → List Int → List (List (S52)) → List Int → Int → Int → Int → Int → Int → List Int → List Int → List (List (S52)) → List Int → Int → Int → Int → Int → Option (Bool)
 | 0, _, _, _, _, _, _, _, _, _, _, _, _, _, _, _, _, _, _, _, _, _, _, _, _, _, _, _ => none
 | k + 1, x5, x8, x9, x275000, x275001, x275002, x276000, x276001, x276002, x280000, x280001, x280002, x280003, x280004, x280005, x280006, x280007, x280008, x281000, x281001, x281002, x281003, x281004, x281005, x281006, x281007, x281008 => if 0 ≤ x8 then (if x8 < (x280003.length : Int) then (if x9 < ((rd_L4 x280003 x8).length : Int) then (if 0 ≤ x9 then (if x8 < (x281003.length : Int) then (if x9 < ((rd_L4 x281003 x8).length : Int) then (if (!(((rd_T52 (rd_L4 x280003 x8) x9).f0) == ((rd_T52 (rd_L4 x281003 x8) x9).f0)) || (!(((rd_T52 (rd_L4 x280003 x8) x9).f1) == ((rd_T52 (rd_L4 x281003 x8) x9).f1)) || (!((((rd_T52 (rd_L4 x280003 x8) x9).f2).toList) == (((rd_T52 (rd_L4 x281003 x8) x9).f2).toList))))) = true then (some false) else (runnelref17_Same.l2 k x5 x8 (wrap64 (x9 + 1)) x275000 x275001 x275002 x276000 x276001 x276002 x280000 x280001 x280002 x280003 x280004 x280005 x280006 x280007 x280008 x281000 x281001 x281002 x281003 x281004 x281005 x281006 x281007 x281008)) else (none)) else (none)) else (none)) else (runnelref17_Same.l1 k x5 (wrap64 (x8 + 1)) x275000 x275001 x275002 x276000 x276001 x276002 x280000 x280001 x280002 x280003 x280004 x280005 x280006 x280007 x280008 x281000 x281001 x281002 x281003 x281004 x281005 x281006 x281007 x281008)) else (none)) else (none)
end
def runnelref17_Same.f (k : Nat) (l0_0 : List (S44)) (l0_1 : List Int) (a0_2 : Int) (l1_0 : List (S44)) (l1_1 : List Int) (a1_2 : Int) : Option (Bool) := if a0_2 = a1_2 then ((runnelref16_Same.f k l0_1 l1_1).bind fun t276 => (if t276 = true then (runnelref17_Same.j0 k ((l0_0.length : Int) != (l1_0.length : Int)) l0_0 l0_1 a0_2 l1_0 l1_1 a1_2) else (runnelref17_Same.j0 k true l0_0 l0_1 a0_2 l1_0 l1_1 a1_2))) else (runnelref17_Same.j0 k true l0_0 l0_1 a0_2 l1_0 l1_1 a1_2)
theorem runnelref17_Same.mono_l : ∀ k, (∀ y0 y1 y2 y3 y4 y5 y6, LeO (runnelref17_Same.j0 k y0 y1 y2 y3 y4 y5 y6) (runnelref17_Same.j0 (k + 1) y0 y1 y2 y3 y4 y5 y6)) ∧ (∀ y0 y1 y2 y3 y4 y5 y6, LeO (runnelref17_Same.l0 k y0 y1 y2 y3 y4 y5 y6) (runnelref17_Same.l0 (k + 1) y0 y1 y2 y3 y4 y5 y6)) ∧ (∀ y0 y1 y2 y3 y4 y5 y6 y7 y8 y9 y10 y11 y12 y13 y14 y15 y16 y17 y18 y19 y20 y21 y22 y23 y24 y25, LeO (runnelref17_Same.j2 k y0 y1 y2 y3 y4 y5 y6 y7 y8 y9 y10 y11 y12 y13 y14 y15 y16 y17 y18 y19 y20 y21 y22 y23 y24 y25) (runnelref17_Same.j2 (k + 1) y0 y1 y2 y3 y4 y5 y6 y7 y8 y9 y10 y11 y12 y13 y14 y15 y16 y17 y18 y19 y20 y21 y22 y23 y24 y25)) ∧ (∀ y0 y1 y2 y3 y4 y5 y6 y7 y8 y9 y10 y11 y12 y13 y14 y15 y16 y17 y18 y19 y20 y21 y22 y23 y24 y25, LeO (runnelref17_Same.l1 k y0 y1 y2 y3 y4 y5 y6 y7 y8 y9 y10 y11 y12 y13 y14 y15 y16 y17 y18 y19 y20 y21 y22 y23 y24 y25) (runnelref17_Same.l1 (k + 1) y0 y1 y2 y3 y4 y5 y6 y7 y8 y9 y10 y11 y12 y13 y14 y15 y16 y17 y18 y19 y20 y21 y22 y23 y24 y25)) ∧ (∀ y0 y1 y2 y3 y4 y5 y6 y7 y8 y9 y10 y11 y12 y13 y14 y15 y16 y17 y18 y19 y20 y21 y22 y23 y24 y25 y26, LeO (runnelref17_Same.l2 k y0 y1 y2 y3 y4 y5 y6 y7 y8 y9 y10 y11 y12 y13 y14 y15 y16 y17 y18 y19 y20 y21 y22 y23 y24 y25 y26) (runnelref17_Same.l2 (k + 1) y0 y1 y2 y3 y4 y5 y6 y7 y8 y9 y10 y11 y12 y13 y14 y15 y16 y17 y18 y19 y20 y21 y22 y23 y24 y25 y26))
 | 0 => ⟨fun _ _ _ _ _ _ _ r h => by simp [runnelref17_Same.j0] at h, fun _ _ _ _ _ _ _ r h => by simp [runnelref17_Same.l0] at h, fun _ _ _ _ _ _ _ _ _ _ _ _ _ _ _ _ _ _ _ _ _ _ _ _ _ _ r h => by simp [runnelref17_Same.j2] at h, fun _ _ _ _ _ _ _ _ _ _ _ _ _ _ _ _ _ _ _ _ _ _ _ _ _ _ r h => by simp [runnelref17_Same.l1] at h, fun _ _ _ _ _ _ _ _ _ _ _ _ _ _ _ _ _ _ _ _ _ _ _ _ _ _ _ r h => by simp [runnelref17_Same.l2] at h⟩
 | k + 1 => by
  obtain ⟨ih0, ih1, ih2, ih3, ih4⟩ := runnelref17_Same.mono_l k
  refine ⟨?_, ?_, ?_, ?_, ?_⟩
  ·
   intro y0 y1 y2 y3 y4 y5 y6
   unfold runnelref17_Same.j0
   repeat' first
   | (with_reducible exact ih0 _ _ _ _ _ _ _)
   | (with_reducible exact ih1 _ _ _ _ _ _ _)
   | (with_reducible exact ih2 _ _ _ _ _ _ _ _ _ _ _ _ _ _ _ _ _ _ _ _ _ _ _ _ _ _)
   | (with_reducible exact ih3 _ _ _ _ _ _ _ _ _ _ _ _ _ _ _ _ _ _ _ _ _ _ _ _ _ _)
   | (with_reducible exact ih4 _ _ _ _ _ _ _ _ _ _ _ _ _ _ _ _ _ _ _ _ _ _ _ _ _ _ _)
   | (with_reducible exact runnelref16_Same.mono _ _ _)
   | (with_reducible exact LeO.refl _)
   | (with_reducible exact LeO.none _)
   | (with_reducible refine LeO.ite ?_ ?_)
   | (with_reducible refine LeO.bind ?_ (fun _ => ?_))
   | exact ih0 _ _ _ _ _ _ _
   | exact ih1 _ _ _ _ _ _ _
   | exact ih2 _ _ _ _ _ _ _ _ _ _ _ _ _ _ _ _ _ _ _ _ _ _ _ _ _ _
   | exact ih3 _ _ _ _ _ _ _ _ _ _ _ _ _ _ _ _ _ _ _ _ _ _ _ _ _ _
   | exact ih4 _ _ _ _ _ _ _ _ _ _ _ _ _ _ _ _ _ _ _ _ _ _ _ _ _ _ _
   | exact runnelref16_Same.mono _ _ _
   | exact LeO.none _
   | refine LeO.ite ?_ ?_
   | refine LeO.bind ?_ (fun _ => ?_)
  ·
   intro y0 y1 y2 y3 y4 y5 y6
   unfold runnelref17_Same.l0
   repeat' first
   | (with_reducible exact ih0 _ _ _ _ _ _ _)
   | (with_reducible exact ih1 _ _ _ _ _ _ _)
   | (with_reducible exact ih2 _ _ _ _ _ _ _ _ _ _ _ _ _ _ _ _ _ _ _ _ _ _ _ _ _ _)
   | (with_reducible exact ih3 _ _ _ _ _ _ _ _ _ _ _ _ _ _ _ _ _ _ _ _ _ _ _ _ _ _)
   | (with_reducible exact ih4 _ _ _ _ _ _ _ _ _ _ _ _ _ _ _ _ _ _ _ _ _ _ _ _ _ _ _)
   | (with_reducible exact runnelref16_Same.mono _ _ _)
   | (with_reducible exact LeO.refl _)
   | (with_reducible exact LeO.none _)
   | (with_reducible refine LeO.ite ?_ ?_)
   | (with_reducible refine LeO.bind ?_ (fun _ => ?_))
   | exact ih0 _ _ _ _ _ _ _
   | exact ih1 _ _ _ _ _ _ _
   | exact ih2 _ _ _ _ _ _ _ _ _ _ _ _ _ _ _ _ _ _ _ _ _ _ _ _ _ _
   | exact ih3 _ _ _ _ _ _ _ _ _ _ _ _ _ _ _ _ _ _ _ _ _ _ _ _ _ _
   | exact ih4 _ _ _ _ _ _ _ _ _ _ _ _ _ _ _ _ _ _ _ _ _ _ _ _ _ _ _
   | exact runnelref16_Same.mono _ _ _
   | exact LeO.none _
   | refine LeO.ite ?_ ?_
   | refine LeO.bind ?_ (fun _ => ?_)
  ·
   intro y0 y1 y2 y3 y4 y5 y6 y7 y8 y9 y10 y11 y12 y13 y14 y15 y16 y17 y18 y19 y20 y21 y22 y23 y24 y25
   unfold runnelref17_Same.j2
   repeat' first
   | (with_reducible exact ih0 _ _ _ _ _ _ _)
   | (with_reducible exact ih1 _ _ _ _ _ _ _)
   | (with_reducible exact ih2 _ _ _ _ _ _ _ _ _ _ _ _ _ _ _ _ _ _ _ _ _ _ _ _ _ _)
   | (with_reducible exact ih3 _ _ _ _ _ _ _ _ _ _ _ _ _ _ _ _ _ _ _ _ _ _ _ _ _ _)
   | (with_reducible exact ih4 _ _ _ _ _ _ _ _ _ _ _ _ _ _ _ _ _ _ _ _ _ _ _ _ _ _ _)
   | (with_reducible exact runnelref16_Same.mono _ _ _)
   | (with_reducible exact LeO.refl _)
   | (with_reducible exact LeO.none _)
   | (with_reducible refine LeO.ite ?_ ?_)
   | (with_reducible refine LeO.bind ?_ (fun _ => ?_))
   | exact ih0 _ _ _ _ _ _ _
   | exact ih1 _ _ _ _ _ _ _
   | exact ih2 _ _ _ _ _ _ _ _ _ _ _ _ _ _ _ _ _ _ _ _ _ _ _ _ _ _
   | exact ih3 _ _ _ _ _ _ _ _ _ _ _ _ _ _ _ _ _ _ _ _ _ _ _ _ _ _
   | exact ih4 _ _ _ _ _ _ _ _ _ _ _ _ _ _ _ _ _ _ _ _ _ _ _ _ _ _ _
   | exact runnelref16_Same.mono _ _ _
   | exact LeO.none _
   | refine LeO.ite ?_ ?_
   | refine LeO.bind ?_ (fun _ => ?_)
  ·
   intro y0 y1 y2 y3 y4 y5 y6 y7 y8 y9 y10 y11 y12 y13 y14 y15 y16 y17 y18 y19 y20 y21 y22 y23 y24 y25
   unfold runnelref17_Same.l1
   repeat' first
   | (with_reducible exact ih0 _ _ _ _ _ _ _)
   | (with_reducible exact ih1 _ _ _ _ _ _ _)
   | (with_reducible exact ih2 _ _ _ _ _ _ _ _ _ _ _ _ _ _ _ _ _ _ _ _ _ _ _ _ _ _)
   | (with_reducible exact ih3 _ _ _ _ _ _ _ _ _ _ _ _ _ _ _ _ _ _ _ _ _ _ _ _ _ _)
   | (with_reducible exact ih4 _ _ _ _ _ _ _ _ _ _ _ _ _ _ _ _ _ _ _ _ _ _ _ _ _ _ _)
   | (with_reducible exact runnelref16_Same.mono _ _ _)
   | (with_reducible exact LeO.refl _)
   | (with_reducible exact LeO.none _)
   | (with_reducible refine LeO.ite ?_ ?_)
   | (with_reducible refine LeO.bind ?_ (fun _ => ?_))
   | exact ih0 _ _ _ _ _ _ _
   | exact ih1 _ _ _ _ _ _ _
   | exact ih2 _ _ _ _ _ _ _ _ _ _ _ _ _ _ _ _ _ _ _ _ _ _ _ _ _ _
   | exact ih3 _ _ _ _ _ _ _ _ _ _ _ _ _ _ _ _ _ _ _ _ _ _ _ _ _ _
   | exact ih4 _ _ _ _ _ _ _ _ _ _ _ _ _ _ _ _ _ _ _ _ _ _ _ _ _ _ _
   | exact runnelref16_Same.mono _ _ _
   | exact LeO.none _
   | refine LeO.ite ?_ ?_
   | refine LeO.bind ?_ (fun _ => ?_)
  ·
   intro y0 y1 y2 y3 y4 y5 y6 y7 y8 y9 y10 y11 y12 y13 y14 y15 y16 y17 y18 y19 y20 y21 y22 y23 y24 y25 y26
   unfold runnelref17_Same.l2
   repeat' first
   | (with_reducible exact ih0 _ _ _ _ _ _ _)
   | (with_reducible exact ih1 _ _ _ _ _ _ _)
   | (with_reducible exact ih2 _ _ _ _ _ _ _ _ _ _ _ _ _ _ _ _ _ _ _ _ _ _ _ _ _ _)
   | (with_reducible exact ih3 _ _ _ _ _ _ _ _ _ _ _ _ _ _ _ _ _ _ _ _ _ _ _ _ _ _)
   | (with_reducible exact ih4 _ _ _ _ _ _ _ _ _ _ _ _ _ _ _ _ _ _ _ _ _ _ _ _ _ _ _)
   | (with_reducible exact runnelref16_Same.mono _ _ _)
   | (with_reducible exact LeO.refl _)
   | (with_reducible exact LeO.none _)
   | (with_reducible refine LeO.ite ?_ ?_)
   | (with_reducible refine LeO.bind ?_ (fun _ => ?_))
   | exact ih0 _ _ _ _ _ _ _
   | exact ih1 _ _ _ _ _ _ _
   | exact ih2 _ _ _ _ _ _ _ _ _ _ _ _ _ _ _ _ _ _ _ _ _ _ _ _ _ _
   | exact ih3 _ _ _ _ _ _ _ _ _ _ _ _ _ _ _ _ _ _ _ _ _ _ _ _ _ _
   | exact ih4 _ _ _ _ _ _ _ _ _ _ _ _ _ _ _ _ _ _ _ _ _ _ _ _ _ _ _
   | exact runnelref16_Same.mono _ _ _
   | exact LeO.none _
   | refine LeO.ite ?_ ?_
   | refine LeO.bind ?_ (fun _ => ?_)
theorem runnelref17_Same.mono : ∀ a0 a1 a2 a3 a4 a5 k, LeO (runnelref17_Same.f k a0 a1 a2 a3 a4 a5) (runnelref17_Same.f (k + 1) a0 a1 a2 a3 a4 a5) := by
 intro a0 a1 a2 a3 a4 a5 k
 obtain ⟨ih0, ih1, ih2, ih3, ih4⟩ := runnelref17_Same.mono_l k
 unfold runnelref17_Same.f
 repeat' first
   | (with_reducible exact ih0 _ _ _ _ _ _ _)
   | (with_reducible exact ih1 _ _ _ _ _ _ _)
   | (with_reducible exact ih2 _ _ _ _ _ _ _ _ _ _ _ _ _ _ _ _ _ _ _ _ _ _ _ _ _ _)
   | (with_reducible exact ih3 _ _ _ _ _ _ _ _ _ _ _ _ _ _ _ _ _ _ _ _ _ _ _ _ _ _)
   | (with_reducible exact ih4 _ _ _ _ _ _ _ _ _ _ _ _ _ _ _ _ _ _ _ _ _ _ _ _ _ _ _)
   | (with_reducible exact runnelref16_Same.mono _ _ _)
   | (with_reducible exact LeO.refl _)
   | (with_reducible exact LeO.none _)
   | (with_reducible refine LeO.ite ?_ ?_)
   | (with_reducible refine LeO.bind ?_ (fun _ => ?_))
   | exact ih0 _ _ _ _ _ _ _
   | exact ih1 _ _ _ _ _ _ _
   | exact ih2 _ _ _ _ _ _ _ _ _ _ _ _ _ _ _ _ _ _ _ _ _ _ _ _ _ _
   | exact ih3 _ _ _ _ _ _ _ _ _ _ _ _ _ _ _ _ _ _ _ _ _ _ _ _ _ _
   | exact ih4 _ _ _ _ _ _ _ _ _ _ _ _ _ _ _ _ _ _ _ _ _ _ _ _ _ _ _
   | exact runnelref16_Same.mono _ _ _
   | exact LeO.none _
   | refine LeO.ite ?_ ?_
   | refine LeO.bind ?_ (fun _ => ?_)
def runnelref17_Same.T6 : Bool × List (List Nat × List Nat) := (true, [([], []), ([0], [0]), ([], []), ([1, 2], [1, 2]), ([3], [3]), ([], []), ([5], [5]), ([], []), ([6, 7], [6, 7]), ([8], [8]), ([], []), ([], []), ([10, 4, 0, 1, 2, 3, 4, 10, 11], [4, 10]), ([11, 9, 12, 0, 1, 2, 3, 4, 5, 6, 7, 8, 9, 10, 11, 12], [9, 11])])
def runnelref17_Same.B6 : List Nat := [0, 1, 0, 7, 15, 0, 32, 0, 224, 480, 0, 0, 3103, 8191]
theorem runnelref17_Same.tab6 : rtab .any (opsOf Try.f9 6) = runnelref17_Same.T6 := by kernel_rfl
theorem runnelref17_Same.bits6 : waitsOk runnelref17_Same.T6.2 runnelref17_Same.B6 = true := by kernel_rfl
def runnelref17_Same.T12 : Bool × List (List Nat × List Nat) := (true, [([], []), ([0], [0]), ([], []), ([1, 2], [1, 2]), ([3], [3]), ([4], [4]), ([], []), ([6], [6]), ([], []), ([7, 8], [7, 8]), ([9], [9]), ([10], [10]), ([5, 11], [5, 11])])
def runnelref17_Same.B12 : List Nat := [0, 1, 0, 7, 15, 31, 0, 64, 0, 448, 960, 1984, 4095]
theorem runnelref17_Same.tab12 : rtab .any (opsOf Try.f9 12) = runnelref17_Same.T12 := by kernel_rfl
theorem runnelref17_Same.bits12 : waitsOk runnelref17_Same.T12.2 runnelref17_Same.B12 = true := by kernel_rfl
def runnelref17_Same.T17 : Bool × List (List Nat × List Nat) := (true, [([], []), ([0], [0]), ([], []), ([1, 2], [1, 2]), ([3], [3]), ([], []), ([4, 5], [4, 5]), ([6], [6]), ([], []), ([8], [8]), ([], []), ([9, 10], [9, 10]), ([11], [11]), ([], []), ([12, 13], [12, 13]), ([14], [14]), ([7, 15], [7, 15])])
def runnelref17_Same.B17 : List Nat := [0, 1, 0, 7, 15, 0, 63, 127, 0, 256, 0, 1792, 3840, 0, 16128, 32512, 65535]
theorem runnelref17_Same.tab17 : rtab .any (opsOf Try.f9 17) = runnelref17_Same.T17 := by kernel_rfl
theorem runnelref17_Same.bits17 : waitsOk runnelref17_Same.T17.2 runnelref17_Same.B17 = true := by kernel_rfl
/-- A statement that hides another. -/
structure runnelref17_Same.calls.Hid (P : Prop) : Prop where
 out : P
set_option maxHeartbeats 80000000 in
set_option maxRecDepth 100000 in
noncomputable def runnelref17_Same.calls.pre : (P0 : Prop) ×' (P1 : Prop) ×' (P2 : Prop) ×' (P3 : Prop) ×' (runnelref17_Same.calls.Hid P0 → runnelref17_Same.calls.Hid P1 → runnelref17_Same.calls.Hid P2 → runnelref17_Same.calls.Hid P3 → ∀ (k : Nat) (A0_0 : Option Addr) (c0_0 : Nat) (l0_0 : List (S44)) (A0_1 : Option Addr) (c0_1 : Nat) (l0_1 : List Int) (a0_2 : Int) (A1_0 : Option Addr) (c1_0 : Nat) (l1_0 : List (S44)) (A1_1 : Option Addr) (c1_1 : Nat) (l1_1 : List Int) (a1_2 : Int) (r : Bool) (w : World) (hr0_0 : Kd.C k44 w A0_0 l0_0.length l0_0) (hc0_0 : l0_0.length ≤ c0_0) (hr0_1 : Kd.C (Kd.int .i64) w A0_1 l0_1.length l0_1) (hc0_1 : l0_1.length ≤ c0_1) (hr1_0 : Kd.C k44 w A1_0 l1_0.length l1_0) (hc1_0 : l1_0.length ≤ c1_0) (hr1_1 : Kd.C (Kd.int .i64) w A1_1 l1_1.length l1_1) (hc1_1 : l1_1.length ≤ c1_1) (h : runnelref17_Same.f k l0_0 l0_1 a0_2 l1_0 l1_1 a1_2 = some r), Calls Try.prog 9 #[.agg #[.slice A0_0 l0_0.length c0_0, .slice A0_1 l0_1.length c0_1, .int .i64 a0_2], .agg #[.slice A1_0 l1_0.length c1_0, .slice A1_1 l1_1.length c1_1, .int .i64 a1_2]] w fun e w' => e = .returned (.bool r) ∧ Below w.heap.size w w') := by
 apply PSigma.mk
 apply PSigma.mk
 apply PSigma.mk
 apply PSigma.mk
 · intro hl_0 hl_1 hl_2 hl_3 k A0_0 c0_0 l0_0 A0_1 c0_1 l0_1 a0_2 A1_0 c1_0 l1_0 A1_1 c1_1 l1_1 a1_2 r w hr0_0 hc0_0 hr0_1 hc0_1 hr1_0 hc1_0 hr1_1 hc1_1 h
   have hu25 := Try.underlying25
   have hu44 := Try.underlying44
   have hu52 := Try.underlying52
   have HR0_0 := am hr0_0
   have HC0_0 := am hc0_0
   clear hr0_0 hc0_0
   have HR0_1 := am hr0_1
   have HC0_1 := am hc0_1
   clear hr0_1 hc0_1
   have HR1_0 := am hr1_0
   have HC1_0 := am hc1_0
   clear hr1_0 hc1_0
   have HR1_1 := am hr1_1
   have HC1_1 := am hc1_1
   clear hr1_1 hc1_1
   have HB := am (Below.refl w.heap.size w)
   have H : (if a0_2 = a1_2 then ((runnelref16_Same.f k l0_1 l1_1).bind fun t276 => (if t276 = true then (runnelref17_Same.j0 k ((l0_0.length : Int) != (l1_0.length : Int)) l0_0 l0_1 a0_2 l1_0 l1_1 a1_2) else (runnelref17_Same.j0 k true l0_0 l0_1 a0_2 l1_0 l1_1 a1_2))) else (runnelref17_Same.j0 k true l0_0 l0_1 a0_2 l1_0 l1_1 a1_2)) = some r := h
   clear h
   have HC3 := am H
   clear H
   go_enter Try.func9, Try.ntmps9
   go_upto_region 1 with (first | ((with_reducible refine gate_dst (N := 2) rfl ?_); (try (refine gate_guard (by rfl) ?_; dsimp only)); refine box_event ?hg (N := 2) ?hd (cs := #[.slice A0_0 l0_0.length c0_0, .slice A0_1 l0_1.length c0_1, .int .i64 a0_2]) (t := 25) ?hr ?_; (case hd => rfl); (case hg => rfl); (case hr => first | (go_simp; done) | (go_simp; rfl)); intro gb274 hg w4 hbox hb; have n0_ := am (below_step (by repeat (first | (with_reducible first | exact HB.out | apply c1 | apply c2 | apply c3) | exact HB.out)) hb); have n1_ := am (hbox); have n2_ := am ((by rw [hg]; exact (below_size (by repeat (first | (with_reducible first | exact HB.out | apply c1 | apply c2 | apply c3) | exact HB.out))) : w.heap.size ≤ gb274)); have n3_ := am ((by rw [hg]; exact (below_size (by repeat (first | (with_reducible first | exact HB.out | apply c1 | apply c2 | apply c3) | exact HB.out))) : w.heap.size ≤ gb274)); clear HB; have HB := n0_; have BK274 := n1_; have GW274 := n2_; have GE274 := n3_; clear n0_ n1_ n2_ n3_; clear hb hbox hg) | ((with_reducible refine gate_dst (N := 3) rfl ?_); (try (refine gate_guard (by rfl) ?_; dsimp only)); refine box_event ?hg (N := 3) ?hd (cs := #[.slice A1_0 l1_0.length c1_0, .slice A1_1 l1_1.length c1_1, .int .i64 a1_2]) (t := 25) ?hr ?_; (case hd => rfl); (case hg => rfl); (case hr => first | (go_simp; done) | (go_simp; rfl)); intro gb275 hg w5 hbox hb; have n0_ := am (b5 (g := gb274) (o := .cells #[.slice A0_0 l0_0.length c0_0, .slice A0_1 l0_1.length c0_1, .int .i64 a0_2] 25 (0, 0)) (by (with_reducible repeat (first | refine b1 ?_ _ | refine b2 ?_ | refine b3 ?_ _)); exact BK274.out) hb); have n1_ := am (below_step (by repeat (first | (with_reducible first | exact HB.out | apply c1 | apply c2 | apply c3 | refine c4 ?_ GE274.out) | exact HB.out)) hb); have n2_ := am (hbox); have n3_ := am ((by rw [hg]; exact (below_size (by repeat (first | (with_reducible first | exact HB.out | apply c1 | apply c2 | apply c3 | refine c4 ?_ GE274.out) | exact HB.out))) : w.heap.size ≤ gb275)); have n4_ := am ((by rw [hg]; exact (below_size (by repeat (first | (with_reducible first | exact HB.out | apply c1 | apply c2 | apply c3 | refine c4 ?_ GE274.out) | exact HB.out))) : w.heap.size ≤ gb275)); have n5_ := am ((by rw [hg]; exact Nat.ne_of_lt (blk_lt (g := gb274) (o := .cells #[.slice A0_0 l0_0.length c0_0, .slice A0_1 l0_1.length c0_1, .int .i64 a0_2] 25 (0, 0)) (by (with_reducible repeat (first | refine b1 ?_ _ | refine b2 ?_ | refine b3 ?_ _)); exact BK274.out)) : gb274 ≠ gb275)); have n6_ := am ((by rw [hg]; exact Nat.ne_of_gt (blk_lt (g := gb274) (o := .cells #[.slice A0_0 l0_0.length c0_0, .slice A0_1 l0_1.length c0_1, .int .i64 a0_2] 25 (0, 0)) (by (with_reducible repeat (first | refine b1 ?_ _ | refine b2 ?_ | refine b3 ?_ _)); exact BK274.out)) : gb275 ≠ gb274)); clear BK274; clear HB; have BK274 := n0_; have HB := n1_; have BK275 := n2_; have GW275 := n3_; have GE275 := n4_; have NB274_275 := n5_; have NB275_274 := n6_; clear n0_ n1_ n2_ n3_ n4_ n5_ n6_; clear hb hbox hg))
   (try simp only [Act.put, List.setIfInBounds_toArray, List.set_cons_zero, List.set_cons_succ])
   go_cut [31] (fun v31 wc => ∃ (kq : Nat) (x31_2 : Bool), v31 = .bool x31_2 ∧ Aside0 (runnelref17_Same.j0 kq x31_2 l0_0 l0_1 a0_2 l1_0 l1_1 a1_2 = some r) ∧ Aside0 (kq ≤ k) ∧ Aside0 (wc.heap[gb274]? = some (.cells #[(.slice A0_0 l0_0.length c0_0), (.slice A0_1 l0_1.length c0_1), .int .i64 a0_2] 25 (0, 0))) ∧ Aside0 (wc.heap[gb275]? = some (.cells #[(.slice A1_0 l1_0.length c1_0), (.slice A1_1 l1_1.length c1_1), .int .i64 a1_2] 25 (0, 0))) ∧ Aside0 (Below w.heap.size w wc))
   case first =>
    revert hu25
    revert hu44
    revert hu52
    repeat revert ‹Value›
    repeat revert ‹Exit → Act → World → Prop›
    repeat revert ‹Nat → Act → World → Prop›
    repeat revert ‹Act → World → Prop›
    repeat revert ‹World → Prop›
    repeat revert ‹World›
    repeat revert ‹Nat›
    repeat revert ‹Int›
    repeat revert ‹Bool›
    repeat revert ‹Option Addr›
    repeat revert ‹Addr›
    repeat revert ‹List Int›
    repeat revert ‹List Nat›
    repeat revert ‹String›
    repeat revert ‹List Bool›
    repeat revert ‹List (List Int)›
    repeat revert ‹Exit›
    repeat revert ‹S44›
    repeat revert ‹List (S44)›
    exact hl_0.out
   case rest =>
    clear HC3
    obtain ⟨kq, x31_2, rfl, HA, HJ2, BK274, BK275, HB⟩ := hcut
    cases kq with
    | zero => exact absurd HA.out (by simp [runnelref17_Same.j0])
    | succ kj2 =>
     have H := HA.out
     clear HA
     simp only [runnelref17_Same.j0] at H
     by_cases c18 : x31_2 = true
     ·
      subst c18
      have H1 : (some false) = some r := by rw [if_pos rfl] at H; exact H
      clear H
      have H := H1
      clear H1
      obtain rfl := Option.some.inj H
      go_wp2
      go_ret
      exact ⟨by first | rfl | (simp [errW_none, errW_some] <;> rfl) | (simp [*, errW_none, errW_some] <;> rfl), by repeat (first | (with_reducible first | exact HB.out | apply c1 | apply c2 | apply c3 | refine c4 ?_ GE274.out | refine c4 ?_ GE275.out) | exact HB.out)⟩
     ·
      replace c18 := Bool.eq_false_iff.mpr c18
      subst c18
      have H1 : (runnelref17_Same.l0 kj2 0 l0_0 l0_1 a0_2 l1_0 l1_1 a1_2) = some r := by rw [if_neg (show ¬ (false = true) by decide)] at H; exact H
      clear H
      have H := H1
      clear H1
      have H' := am H
      clear H
      go_wp2
      go_loopg [5] kj2 (fun kq v5 w' => ∃ (x5_2 : Int), v5 = .int .i64 x5_2 ∧ Aside0 (runnelref17_Same.l0 kq x5_2 l0_0 l0_1 a0_2 l1_0 l1_1 a1_2 = some r) ∧ Aside0 (kq ≤ kj2) ∧ Aside0 (w'.heap[gb274]? = some (.cells #[(.slice A0_0 l0_0.length c0_0), (.slice A0_1 l0_1.length c0_1), .int .i64 a0_2] 25 (0, 0))) ∧ Aside0 (w'.heap[gb275]? = some (.cells #[(.slice A1_0 l1_0.length c1_0), (.slice A1_1 l1_1.length c1_1), .int .i64 a1_2] 25 (0, 0))) ∧ Aside0 (Below w.heap.size w w'))
      case atStart => exact ⟨(0), (by first | rfl | (simp; done) | (simp [*]; done)), H', ⟨Nat.le_refl _⟩, ⟨by (with_reducible repeat (first | refine b1 ?_ _ | refine b2 ?_ | refine b3 ?_ _)); exact BK274.out⟩, ⟨by (with_reducible repeat (first | refine b1 ?_ _ | refine b2 ?_ | refine b3 ?_ _)); exact BK275.out⟩, ⟨by repeat (first | (with_reducible first | exact HB.out | apply c1 | apply c2 | apply c3 | refine c4 ?_ GE274.out | refine c4 ?_ GE275.out) | exact HB.out)⟩⟩
      case round =>
       clear H'
       try clear c18
       obtain ⟨x5_2, rfl, HA, HK2, BK274, BK275, HB⟩ := hrel
       cases gk with
       | zero => exact absurd HA.out (by simp [runnelref17_Same.l0])
       | succ k2 =>
        have H := HA.out
        clear HA
        simp only [runnelref17_Same.l0] at H
        by_cases c19 : x5_2 < (l0_0.length : Int)
        ·
         rw [if_pos c19] at H
         have c19b0 : decide (x5_2 < (l0_0.length : Int)) = true := decide_eq_true c19
         clear c19
         by_cases c20 : 0 ≤ x5_2
         ·
          rw [if_pos c20] at H
          have c20b0 : decide (0 ≤ x5_2) = true := decide_eq_true c20
          clear c20
          by_cases c21 : x5_2 < (l1_0.length : Int)
          ·
           rw [if_pos c21] at H
           have c21b0 : decide (x5_2 < (l1_0.length : Int)) = true := decide_eq_true c21
           clear c21
           have HC22 := am H
           clear H
           have hnb23 := NB274_275.out
           have hnc23 := NB275_274.out
           have hcz24_0 : wr.cell? ⟨gb274, 0, none⟩ = some (.slice A0_0 l0_0.length c0_0) := (b4 BK274.out 0).trans rfl
           have hcz24_1 : wr.cell? ⟨gb274, 1, none⟩ = some (.slice A0_1 l0_1.length c0_1) := (b4 BK274.out 1).trans rfl
           have hcz24_2 : wr.cell? ⟨gb274, 2, none⟩ = some (.int .i64 a0_2) := (b4 BK274.out 2).trans rfl
           have hfz24_0 := blk_frozen BK274.out 0
           have hfz24_1 := blk_frozen BK274.out 1
           have hfz24_2 := blk_frozen BK274.out 2
           try go_wp2
           have n0_ := am (b2 BK274.out)
           have n1_ := am (b2 BK275.out)
           have n2_ := am (c3 HB.out)
           clear BK274
           clear BK275
           clear HB
           have BK274 := n0_
           have BK275 := n1_
           have HB := n2_
           clear n0_ n1_ n2_
           have p277 : 0 ≤ (x5_2 : Int) := of_decide_eq_true (by first | (with_reducible assumption) | assumption)
           have q277 : x5_2 < (l0_0.length : Int) := of_decide_eq_true (by first | (with_reducible assumption) | assumption)
           obtain ⟨ad277, A277_1, c277_1, A277_2, c277_2, A277_3, c277_3, A277_4, c277_4, e277, hx277_0, hx277_1, hx277_2, hx277_3, hx277_4, hx277_5, hx277_6, hx277_7, hx277_8, hl277_1, hi277_1, hl277_2, hi277_2, hl277_3, hi277_3, hl277_4, hi277_4⟩ := at_T44 HR0_0.out x5_2 p277 q277
           have hw277_8 := hx277_8
           have hw277_7 := hx277_7
           have hw277_6 := hx277_6
           have hw277_5 := hx277_5
           have hw277_4 := hx277_4
           have hw277_3 := hx277_3
           have hw277_2 := hx277_2
           have hw277_1 := hx277_1
           have hw277_0 := hx277_0
           cases e277
           replace hx277_0 := (HB.out.cell (bl w _ hx277_0)).trans hx277_0
           replace hx277_1 := (HB.out.cell (bl w _ hx277_1)).trans hx277_1
           replace hx277_2 := (HB.out.cell (bl w _ hx277_2)).trans hx277_2
           replace hx277_3 := (HB.out.cell (bl w _ hx277_3)).trans hx277_3
           replace hx277_4 := (HB.out.cell (bl w _ hx277_4)).trans hx277_4
           replace hx277_5 := (HB.out.cell (bl w _ hx277_5)).trans hx277_5
           replace hx277_6 := (HB.out.cell (bl w _ hx277_6)).trans hx277_6
           replace hx277_7 := (HB.out.cell (bl w _ hx277_7)).trans hx277_7
           replace hx277_8 := (HB.out.cell (bl w _ hx277_8)).trans hx277_8
           have HR277_1 := am hi277_1
           have HC277_1 := am hl277_1
           clear hi277_1 hl277_1
           have HR277_2 := am hi277_2
           have HC277_2 := am hl277_2
           clear hi277_2 hl277_2
           have HR277_3 := am hi277_3
           have HC277_3 := am hl277_3
           clear hi277_3 hl277_3
           have HR277_4 := am hi277_4
           have HC277_4 := am hl277_4
           clear hi277_4 hl277_4
           replace p277 := eq_true p277
           replace q277 := eq_true q277
           have p278 : 0 ≤ (x5_2 : Int) := of_decide_eq_true (by first | (with_reducible assumption) | assumption)
           have q278 : x5_2 < (l1_0.length : Int) := of_decide_eq_true (by first | (with_reducible assumption) | assumption)
           obtain ⟨ad278, A278_1, c278_1, A278_2, c278_2, A278_3, c278_3, A278_4, c278_4, e278, hx278_0, hx278_1, hx278_2, hx278_3, hx278_4, hx278_5, hx278_6, hx278_7, hx278_8, hl278_1, hi278_1, hl278_2, hi278_2, hl278_3, hi278_3, hl278_4, hi278_4⟩ := at_T44 HR1_0.out x5_2 p278 q278
           have hw278_8 := hx278_8
           have hw278_7 := hx278_7
           have hw278_6 := hx278_6
           have hw278_5 := hx278_5
           have hw278_4 := hx278_4
           have hw278_3 := hx278_3
           have hw278_2 := hx278_2
           have hw278_1 := hx278_1
           have hw278_0 := hx278_0
           cases e278
           replace hx278_0 := (HB.out.cell (bl w _ hx278_0)).trans hx278_0
           replace hx278_1 := (HB.out.cell (bl w _ hx278_1)).trans hx278_1
           replace hx278_2 := (HB.out.cell (bl w _ hx278_2)).trans hx278_2
           replace hx278_3 := (HB.out.cell (bl w _ hx278_3)).trans hx278_3
           replace hx278_4 := (HB.out.cell (bl w _ hx278_4)).trans hx278_4
           replace hx278_5 := (HB.out.cell (bl w _ hx278_5)).trans hx278_5
           replace hx278_6 := (HB.out.cell (bl w _ hx278_6)).trans hx278_6
           replace hx278_7 := (HB.out.cell (bl w _ hx278_7)).trans hx278_7
           replace hx278_8 := (HB.out.cell (bl w _ hx278_8)).trans hx278_8
           have HR278_1 := am hi278_1
           have HC278_1 := am hl278_1
           clear hi278_1 hl278_1
           have HR278_2 := am hi278_2
           have HC278_2 := am hl278_2
           clear hi278_2 hl278_2
           have HR278_3 := am hi278_3
           have HC278_3 := am hl278_3
           clear hi278_3 hl278_3
           have HR278_4 := am hi278_4
           have HC278_4 := am hl278_4
           clear hi278_4 hl278_4
           replace p278 := eq_true p278
           replace q278 := eq_true q278
           refine start_ (n := 14) (S := fun w' => w'.cell? ⟨gb274, 0, none⟩ = some (.slice (some ad277) l0_0.length c0_0) ∧ w'.cell? ⟨gb274, 1, none⟩ = some (.slice A0_1 l0_1.length c0_1) ∧ w'.cell? ⟨gb274, 2, none⟩ = some (.int .i64 a0_2) ∧ w'.cell? ⟨gb275, 0, none⟩ = some (.slice (some ad278) l1_0.length c1_0) ∧ w'.cell? ⟨gb275, 1, none⟩ = some (.slice A1_1 l1_1.length c1_1) ∧ w'.cell? ⟨gb275, 2, none⟩ = some (.int .i64 a1_2) ∧ w'.cell? (ad277.add ((x5_2).toNat * 9)) = some (.int .i64 ((rd_T44 l0_0 x5_2).f0)) ∧ w'.cell? ⟨(ad277.add ((x5_2).toNat * 9)).block, (ad277.add ((x5_2).toNat * 9)).off + 1, none⟩ = some (.slice A277_1 ((rd_T44 l0_0 x5_2).f1).length c277_1) ∧ w'.cell? ⟨(ad277.add ((x5_2).toNat * 9)).block, (ad277.add ((x5_2).toNat * 9)).off + 2, none⟩ = some (.slice A277_2 ((rd_T44 l0_0 x5_2).f2).length c277_2) ∧ w'.cell? ⟨(ad277.add ((x5_2).toNat * 9)).block, (ad277.add ((x5_2).toNat * 9)).off + 3, none⟩ = some (.slice A277_3 ((rd_T44 l0_0 x5_2).f3).length c277_3) ∧ w'.cell? ⟨(ad277.add ((x5_2).toNat * 9)).block, (ad277.add ((x5_2).toNat * 9)).off + 4, none⟩ = some (.slice A277_4 ((rd_T44 l0_0 x5_2).f4).length c277_4) ∧ w'.cell? ⟨(ad277.add ((x5_2).toNat * 9)).block, (ad277.add ((x5_2).toNat * 9)).off + 5, none⟩ = some (.int .i64 ((rd_T44 l0_0 x5_2).f5)) ∧ w'.cell? ⟨(ad277.add ((x5_2).toNat * 9)).block, (ad277.add ((x5_2).toNat * 9)).off + 6, none⟩ = some (.int .i64 ((rd_T44 l0_0 x5_2).f6)) ∧ w'.cell? ⟨(ad277.add ((x5_2).toNat * 9)).block, (ad277.add ((x5_2).toNat * 9)).off + 7, none⟩ = some (.int .i64 ((rd_T44 l0_0 x5_2).f7)) ∧ w'.cell? ⟨(ad277.add ((x5_2).toNat * 9)).block, (ad277.add ((x5_2).toNat * 9)).off + 8, none⟩ = some (.int .i64 ((rd_T44 l0_0 x5_2).f8)) ∧ w'.cell? (ad278.add ((x5_2).toNat * 9)) = some (.int .i64 ((rd_T44 l1_0 x5_2).f0)) ∧ w'.cell? ⟨(ad278.add ((x5_2).toNat * 9)).block, (ad278.add ((x5_2).toNat * 9)).off + 1, none⟩ = some (.slice A278_1 ((rd_T44 l1_0 x5_2).f1).length c278_1) ∧ w'.cell? ⟨(ad278.add ((x5_2).toNat * 9)).block, (ad278.add ((x5_2).toNat * 9)).off + 2, none⟩ = some (.slice A278_2 ((rd_T44 l1_0 x5_2).f2).length c278_2) ∧ w'.cell? ⟨(ad278.add ((x5_2).toNat * 9)).block, (ad278.add ((x5_2).toNat * 9)).off + 3, none⟩ = some (.slice A278_3 ((rd_T44 l1_0 x5_2).f3).length c278_3) ∧ w'.cell? ⟨(ad278.add ((x5_2).toNat * 9)).block, (ad278.add ((x5_2).toNat * 9)).off + 4, none⟩ = some (.slice A278_4 ((rd_T44 l1_0 x5_2).f4).length c278_4) ∧ w'.cell? ⟨(ad278.add ((x5_2).toNat * 9)).block, (ad278.add ((x5_2).toNat * 9)).off + 5, none⟩ = some (.int .i64 ((rd_T44 l1_0 x5_2).f5)) ∧ w'.cell? ⟨(ad278.add ((x5_2).toNat * 9)).block, (ad278.add ((x5_2).toNat * 9)).off + 6, none⟩ = some (.int .i64 ((rd_T44 l1_0 x5_2).f6)) ∧ w'.cell? ⟨(ad278.add ((x5_2).toNat * 9)).block, (ad278.add ((x5_2).toNat * 9)).off + 7, none⟩ = some (.int .i64 ((rd_T44 l1_0 x5_2).f7)) ∧ w'.cell? ⟨(ad278.add ((x5_2).toNat * 9)).block, (ad278.add ((x5_2).toNat * 9)).off + 8, none⟩ = some (.int .i64 ((rd_T44 l1_0 x5_2).f8))) (ds := []) #[false, false, false, false, false, false, false, false, false, false, false, false, false, false] (by kernel_rfl) rfl rfl ⟨(b4 BK274.out 0).trans rfl, (b4 BK274.out 1).trans rfl, (b4 BK274.out 2).trans rfl, (b4 BK275.out 0).trans rfl, (b4 BK275.out 1).trans rfl, (b4 BK275.out 2).trans rfl, ((HB.out.cell (bl w _ hw277_0)).trans hw277_0), ((HB.out.cell (bl w _ hw277_1)).trans hw277_1), ((HB.out.cell (bl w _ hw277_2)).trans hw277_2), ((HB.out.cell (bl w _ hw277_3)).trans hw277_3), ((HB.out.cell (bl w _ hw277_4)).trans hw277_4), ((HB.out.cell (bl w _ hw277_5)).trans hw277_5), ((HB.out.cell (bl w _ hw277_6)).trans hw277_6), ((HB.out.cell (bl w _ hw277_7)).trans hw277_7), ((HB.out.cell (bl w _ hw277_8)).trans hw277_8), ((HB.out.cell (bl w _ hw278_0)).trans hw278_0), ((HB.out.cell (bl w _ hw278_1)).trans hw278_1), ((HB.out.cell (bl w _ hw278_2)).trans hw278_2), ((HB.out.cell (bl w _ hw278_3)).trans hw278_3), ((HB.out.cell (bl w _ hw278_4)).trans hw278_4), ((HB.out.cell (bl w _ hw278_5)).trans hw278_5), ((HB.out.cell (bl w _ hw278_6)).trans hw278_6), ((HB.out.cell (bl w _ hw278_7)).trans hw278_7), ((HB.out.cell (bl w _ hw278_8)).trans hw278_8)⟩ (fun hHeld => ?_); refine with_tabW runnelref17_Same.tab6 runnelref17_Same.bits6 (fun HT_ HW_ => ?_)
           generalize wr.drew = w25 at BK274 BK275 HB HR277_1 HR277_2 HR277_3 HR277_4 HR278_1 HR278_2 HR278_3 HR278_4 hx277_0 hx277_1 hx277_2 hx277_3 hx277_4 hx277_5 hx277_6 hx277_7 hx277_8 hx278_0 hx278_1 hx278_2 hx278_3 hx278_4 hx278_5 hx278_6 hx278_7 hx278_8 hHeld ⊢
           refine pure_ (i := 0) (N := some 39) (v := ?_) (a' := ?_) #[true, false, false, false, false, false, false, false, false, false, false, false, false, false] rfl rfl (any_of HT_.out (by kernel_rfl)) (fun _ _ _ h => h) (Or.inl ⟨by rfl, ?_⟩) ?_ ?_
           rotate_left
           ·
            intro w'
            go_simp
            with_reducible rfl
           rotate_left
           ·
            simp only [Act.put, List.setIfInBounds_toArray, List.set_cons_zero, List.set_cons_succ, i64_w, i32_w]
            rfl
           refine pure_ (i := 2) (N := some 41) (v := ?_) (a' := ?_) #[true, false, true, false, false, false, false, false, false, false, false, false, false, false] rfl rfl (any_of HT_.out (by kernel_rfl)) (fun _ _ _ h => h) (Or.inl ⟨by rfl, ?_⟩) ?_ ?_
           rotate_left
           ·
            intro w'
            go_simp
            with_reducible rfl
           rotate_left
           ·
            simp only [Act.put, List.setIfInBounds_toArray, List.set_cons_zero, List.set_cons_succ, i64_w, i32_w]
            rfl
           refine pure_ (i := 5) (N := some 44) (v := ?_) (a' := ?_) #[true, false, true, false, false, true, false, false, false, false, false, false, false, false] rfl rfl (any_of HT_.out (by kernel_rfl)) (fun _ _ _ h => h) (Or.inl ⟨by rfl, ?_⟩) ?_ ?_
           rotate_left
           ·
            intro w'
            go_simp
            with_reducible rfl
           rotate_left
           ·
            simp only [Act.put, List.setIfInBounds_toArray, List.set_cons_zero, List.set_cons_succ, i64_w, i32_w]
            rfl
           refine pure_ (i := 7) (N := some 46) (v := ?_) (a' := ?_) #[true, false, true, false, false, true, false, true, false, false, false, false, false, false] rfl rfl (any_of HT_.out (by kernel_rfl)) (fun _ _ _ h => h) (Or.inl ⟨by rfl, ?_⟩) ?_ ?_
           rotate_left
           ·
            intro w'
            go_simp
            with_reducible rfl
           rotate_left
           ·
            simp only [Act.put, List.setIfInBounds_toArray, List.set_cons_zero, List.set_cons_succ, i64_w, i32_w]
            rfl
           refine take_ (i := 1) (N := some 40) (v := ?_) (a' := ?_) #[true, true, true, false, false, true, false, true, false, false, false, false, false, false] rfl rfl (take_ofW HT_.out HW_.out (by kernel_rfl)) (fun _ _ _ h => h) (Or.inl ⟨by rfl, ?_⟩) hHeld ?_ ?_
           rotate_left
           ·
            rintro w' ⟨s0, s1, s2, s3, s4, s5, s6, s7, s8, s9, s10, s11, s12, s13, s14, s15, s16, s17, s18, s19, s20, s21, s22, s23⟩
            go_simp
            with_reducible rfl
           rotate_left
           ·
            simp only [Act.put, List.setIfInBounds_toArray, List.set_cons_zero, List.set_cons_succ, i64_w, i32_w]
            rfl
           refine pure_ (i := 3) (N := some 42) (v := ?_) (a' := ?_) #[true, true, true, true, false, true, false, true, false, false, false, false, false, false] rfl rfl (any_of HT_.out (by kernel_rfl)) (fun _ _ _ h => h) (Or.inl ⟨by rfl, ?_⟩) ?_ ?_
           rotate_left
           ·
            intro w'
            go_simp
            with_reducible rfl
           rotate_left
           ·
            simp only [Act.put, List.setIfInBounds_toArray, List.set_cons_zero, List.set_cons_succ, i64_w, i32_w]
            rfl
           refine take_ (i := 4) (N := some 43) (v := ?_) (a' := ?_) #[true, true, true, true, true, true, false, true, false, false, false, false, false, false] rfl rfl (take_ofW HT_.out HW_.out (by kernel_rfl)) (fun _ _ _ h => h) (Or.inl ⟨by rfl, ?_⟩) hHeld ?_ ?_
           rotate_left
           ·
            rintro w' ⟨s0, s1, s2, s3, s4, s5, s6, s7, s8, s9, s10, s11, s12, s13, s14, s15, s16, s17, s18, s19, s20, s21, s22, s23⟩
            go_simp
            with_reducible rfl
           rotate_left
           ·
            simp only [Act.put, List.setIfInBounds_toArray, List.set_cons_zero, List.set_cons_succ, i64_w, i32_w]
            rfl
           refine take_ (i := 6) (N := some 45) (v := ?_) (a' := ?_) #[true, true, true, true, true, true, true, true, false, false, false, false, false, false] rfl rfl (take_ofW HT_.out HW_.out (by kernel_rfl)) (fun _ _ _ h => h) (Or.inl ⟨by rfl, ?_⟩) hHeld ?_ ?_
           rotate_left
           ·
            rintro w' ⟨s0, s1, s2, s3, s4, s5, s6, s7, s8, s9, s10, s11, s12, s13, s14, s15, s16, s17, s18, s19, s20, s21, s22, s23⟩
            go_simp
            with_reducible rfl
           rotate_left
           ·
            simp only [Act.put, List.setIfInBounds_toArray, List.set_cons_zero, List.set_cons_succ, i64_w, i32_w]
            rfl
           refine pure_ (i := 8) (N := some 47) (v := ?_) (a' := ?_) #[true, true, true, true, true, true, true, true, true, false, false, false, false, false] rfl rfl (any_of HT_.out (by kernel_rfl)) (fun _ _ _ h => h) (Or.inl ⟨by rfl, ?_⟩) ?_ ?_
           rotate_left
           ·
            intro w'
            go_simp
            with_reducible rfl
           rotate_left
           ·
            simp only [Act.put, List.setIfInBounds_toArray, List.set_cons_zero, List.set_cons_succ, i64_w, i32_w]
            rfl
           refine take_ (i := 9) (N := some 48) (v := ?_) (a' := ?_) #[true, true, true, true, true, true, true, true, true, true, false, false, false, false] rfl rfl (take_ofW HT_.out HW_.out (by kernel_rfl)) (fun _ _ _ h => h) (Or.inl ⟨by rfl, ?_⟩) hHeld ?_ ?_
           rotate_left
           ·
            rintro w' ⟨s0, s1, s2, s3, s4, s5, s6, s7, s8, s9, s10, s11, s12, s13, s14, s15, s16, s17, s18, s19, s20, s21, s22, s23⟩
            go_simp
            with_reducible rfl
           rotate_left
           ·
            simp only [Act.put, List.setIfInBounds_toArray, List.set_cons_zero, List.set_cons_succ, i64_w, i32_w]
            rfl
           refine join_ (σ := Nat × Nat) 2 #[true, true, true, true, true, true, true, true, true, true, true, true, false, false] (fun s_ => [(6, .pointer (some ⟨s_.1, 0, none⟩)), (7, .pointer (some ⟨s_.2, 0, none⟩))]) (fun s_ w' => (w'.cell? ⟨gb274, 0, none⟩ = some (.slice (some ad277) l0_0.length c0_0) ∧ w'.cell? ⟨gb274, 1, none⟩ = some (.slice A0_1 l0_1.length c0_1) ∧ w'.cell? ⟨gb274, 2, none⟩ = some (.int .i64 a0_2) ∧ w'.cell? ⟨gb275, 0, none⟩ = some (.slice (some ad278) l1_0.length c1_0) ∧ w'.cell? ⟨gb275, 1, none⟩ = some (.slice A1_1 l1_1.length c1_1) ∧ w'.cell? ⟨gb275, 2, none⟩ = some (.int .i64 a1_2) ∧ w'.cell? (ad277.add ((x5_2).toNat * 9)) = some (.int .i64 ((rd_T44 l0_0 x5_2).f0)) ∧ w'.cell? ⟨(ad277.add ((x5_2).toNat * 9)).block, (ad277.add ((x5_2).toNat * 9)).off + 1, none⟩ = some (.slice A277_1 ((rd_T44 l0_0 x5_2).f1).length c277_1) ∧ w'.cell? ⟨(ad277.add ((x5_2).toNat * 9)).block, (ad277.add ((x5_2).toNat * 9)).off + 2, none⟩ = some (.slice A277_2 ((rd_T44 l0_0 x5_2).f2).length c277_2) ∧ w'.cell? ⟨(ad277.add ((x5_2).toNat * 9)).block, (ad277.add ((x5_2).toNat * 9)).off + 3, none⟩ = some (.slice A277_3 ((rd_T44 l0_0 x5_2).f3).length c277_3) ∧ w'.cell? ⟨(ad277.add ((x5_2).toNat * 9)).block, (ad277.add ((x5_2).toNat * 9)).off + 4, none⟩ = some (.slice A277_4 ((rd_T44 l0_0 x5_2).f4).length c277_4) ∧ w'.cell? ⟨(ad277.add ((x5_2).toNat * 9)).block, (ad277.add ((x5_2).toNat * 9)).off + 5, none⟩ = some (.int .i64 ((rd_T44 l0_0 x5_2).f5)) ∧ w'.cell? ⟨(ad277.add ((x5_2).toNat * 9)).block, (ad277.add ((x5_2).toNat * 9)).off + 6, none⟩ = some (.int .i64 ((rd_T44 l0_0 x5_2).f6)) ∧ w'.cell? ⟨(ad277.add ((x5_2).toNat * 9)).block, (ad277.add ((x5_2).toNat * 9)).off + 7, none⟩ = some (.int .i64 ((rd_T44 l0_0 x5_2).f7)) ∧ w'.cell? ⟨(ad277.add ((x5_2).toNat * 9)).block, (ad277.add ((x5_2).toNat * 9)).off + 8, none⟩ = some (.int .i64 ((rd_T44 l0_0 x5_2).f8)) ∧ w'.cell? (ad278.add ((x5_2).toNat * 9)) = some (.int .i64 ((rd_T44 l1_0 x5_2).f0)) ∧ w'.cell? ⟨(ad278.add ((x5_2).toNat * 9)).block, (ad278.add ((x5_2).toNat * 9)).off + 1, none⟩ = some (.slice A278_1 ((rd_T44 l1_0 x5_2).f1).length c278_1) ∧ w'.cell? ⟨(ad278.add ((x5_2).toNat * 9)).block, (ad278.add ((x5_2).toNat * 9)).off + 2, none⟩ = some (.slice A278_2 ((rd_T44 l1_0 x5_2).f2).length c278_2) ∧ w'.cell? ⟨(ad278.add ((x5_2).toNat * 9)).block, (ad278.add ((x5_2).toNat * 9)).off + 3, none⟩ = some (.slice A278_3 ((rd_T44 l1_0 x5_2).f3).length c278_3) ∧ w'.cell? ⟨(ad278.add ((x5_2).toNat * 9)).block, (ad278.add ((x5_2).toNat * 9)).off + 4, none⟩ = some (.slice A278_4 ((rd_T44 l1_0 x5_2).f4).length c278_4) ∧ w'.cell? ⟨(ad278.add ((x5_2).toNat * 9)).block, (ad278.add ((x5_2).toNat * 9)).off + 5, none⟩ = some (.int .i64 ((rd_T44 l1_0 x5_2).f5)) ∧ w'.cell? ⟨(ad278.add ((x5_2).toNat * 9)).block, (ad278.add ((x5_2).toNat * 9)).off + 6, none⟩ = some (.int .i64 ((rd_T44 l1_0 x5_2).f6)) ∧ w'.cell? ⟨(ad278.add ((x5_2).toNat * 9)).block, (ad278.add ((x5_2).toNat * 9)).off + 7, none⟩ = some (.int .i64 ((rd_T44 l1_0 x5_2).f7)) ∧ w'.cell? ⟨(ad278.add ((x5_2).toNat * 9)).block, (ad278.add ((x5_2).toNat * 9)).off + 8, none⟩ = some (.int .i64 ((rd_T44 l1_0 x5_2).f8))) ∧ (w'.heap[gb274]? = some (.cells #[.slice (some ad277) l0_0.length c0_0, .slice A0_1 l0_1.length c0_1, .int .i64 a0_2] 25 (0, 0))) ∧ (w'.heap[gb275]? = some (.cells #[.slice (some ad278) l1_0.length c1_0, .slice A1_1 l1_1.length c1_1, .int .i64 a1_2] 25 (0, 0))) ∧ (w'.heap[s_.1]? = some (.cells #[.int .i64 0, .slice none 0 0, .slice none 0 0, .slice none 0 0, .slice none 0 0, .int .i64 0, .int .i64 0, .int .i64 0, .int .i64 0] 44 (0, 0))) ∧ (w'.heap[s_.2]? = some (.cells #[.int .i64 0, .slice none 0 0, .slice none 0 0, .slice none 0 0, .slice none 0 0, .int .i64 0, .int .i64 0, .int .i64 0, .int .i64 0] 44 (0, 0))) ∧ (w.heap.size ≤ s_.1) ∧ (w.heap.size ≤ s_.1) ∧ (gb274 ≠ s_.1) ∧ (s_.1 ≠ gb274) ∧ (gb275 ≠ s_.1) ∧ (s_.1 ≠ gb275) ∧ (s_.2 ≠ s_.1) ∧ (s_.1 ≠ s_.2) ∧ (w.heap.size ≤ s_.2) ∧ (w.heap.size ≤ s_.2) ∧ (gb274 ≠ s_.2) ∧ (s_.2 ≠ gb274) ∧ (gb275 ≠ s_.2) ∧ (s_.2 ≠ gb275) ∧ (Below w.heap.size w w')) ?_ ?_
           rotate_left
           ·
            revert hu25
            revert hu44
            revert hu52
            repeat revert ‹Value›
            repeat revert ‹Exit → Act → World → Prop›
            repeat revert ‹Nat → Act → World → Prop›
            repeat revert ‹Act → World → Prop›
            repeat revert ‹World → Prop›
            repeat revert ‹World›
            repeat revert ‹Nat›
            repeat revert ‹Int›
            repeat revert ‹Bool›
            repeat revert ‹Option Addr›
            repeat revert ‹Addr›
            repeat revert ‹List Int›
            repeat revert ‹List Nat›
            repeat revert ‹String›
            repeat revert ‹List Bool›
            repeat revert ‹List (List Int)›
            repeat revert ‹Exit›
            repeat revert ‹S44›
            repeat revert ‹List (S44)›
            exact hl_1.out
           rintro ⟨gb279, gb280⟩ w28 ⟨hS_, h0_, h1_, h2_, h3_, h4_, h5_, h6_, h7_, h8_, h9_, h10_, h11_, h12_, h13_, h14_, h15_, h16_, h17_, h18_⟩
           have n0_ : Aside0 (w28.heap[gb274]? = some (.cells #[.slice (some ad277) l0_0.length c0_0, .slice A0_1 l0_1.length c0_1, .int .i64 a0_2] 25 (0, 0))) := ⟨h0_⟩
           have n1_ : Aside0 (w28.heap[gb275]? = some (.cells #[.slice (some ad278) l1_0.length c1_0, .slice A1_1 l1_1.length c1_1, .int .i64 a1_2] 25 (0, 0))) := ⟨h1_⟩
           have n2_ : Aside0 (w28.heap[gb279]? = some (.cells #[.int .i64 0, .slice none 0 0, .slice none 0 0, .slice none 0 0, .slice none 0 0, .int .i64 0, .int .i64 0, .int .i64 0, .int .i64 0] 44 (0, 0))) := ⟨h2_⟩
           have n3_ : Aside0 (w28.heap[gb280]? = some (.cells #[.int .i64 0, .slice none 0 0, .slice none 0 0, .slice none 0 0, .slice none 0 0, .int .i64 0, .int .i64 0, .int .i64 0, .int .i64 0] 44 (0, 0))) := ⟨h3_⟩
           have n4_ : Aside0 (w.heap.size ≤ gb279) := ⟨h4_⟩
           have n5_ : Aside0 (w.heap.size ≤ gb279) := ⟨h5_⟩
           have n6_ : Aside0 (gb274 ≠ gb279) := ⟨h6_⟩
           have n7_ : Aside0 (gb279 ≠ gb274) := ⟨h7_⟩
           have n8_ : Aside0 (gb275 ≠ gb279) := ⟨h8_⟩
           have n9_ : Aside0 (gb279 ≠ gb275) := ⟨h9_⟩
           have n10_ : Aside0 (gb280 ≠ gb279) := ⟨h10_⟩
           have n11_ : Aside0 (gb279 ≠ gb280) := ⟨h11_⟩
           have n12_ : Aside0 (w.heap.size ≤ gb280) := ⟨h12_⟩
           have n13_ : Aside0 (w.heap.size ≤ gb280) := ⟨h13_⟩
           have n14_ : Aside0 (gb274 ≠ gb280) := ⟨h14_⟩
           have n15_ : Aside0 (gb280 ≠ gb274) := ⟨h15_⟩
           have n16_ : Aside0 (gb275 ≠ gb280) := ⟨h16_⟩
           have n17_ : Aside0 (gb280 ≠ gb275) := ⟨h17_⟩
           have n18_ : Aside0 (Below w.heap.size w w28) := ⟨h18_⟩
           clear BK274
           clear BK275
           clear HB
           clear h0_ h1_ h2_ h3_ h4_ h5_ h6_ h7_ h8_ h9_ h10_ h11_ h12_ h13_ h14_ h15_ h16_ h17_ h18_
           have BK274 := n0_
           have BK275 := n1_
           have BK279 := n2_
           have BK280 := n3_
           have GW279 := n4_
           have GE279 := n5_
           have NB274_279 := n6_
           have NB279_274 := n7_
           have NB275_279 := n8_
           have NB279_275 := n9_
           have NB280_279 := n10_
           have NB279_280 := n11_
           have GW280 := n12_
           have GE280 := n13_
           have NB274_280 := n14_
           have NB280_274 := n15_
           have NB275_280 := n16_
           have NB280_275 := n17_
           have HB := n18_
           clear n0_ n1_ n2_ n3_ n4_ n5_ n6_ n7_ n8_ n9_ n10_ n11_ n12_ n13_ n14_ n15_ n16_ n17_ n18_
           have hHeld : w28.cell? ⟨gb274, 0, none⟩ = some (.slice (some ad277) l0_0.length c0_0) ∧ w28.cell? ⟨gb274, 1, none⟩ = some (.slice A0_1 l0_1.length c0_1) ∧ w28.cell? ⟨gb274, 2, none⟩ = some (.int .i64 a0_2) ∧ w28.cell? ⟨gb275, 0, none⟩ = some (.slice (some ad278) l1_0.length c1_0) ∧ w28.cell? ⟨gb275, 1, none⟩ = some (.slice A1_1 l1_1.length c1_1) ∧ w28.cell? ⟨gb275, 2, none⟩ = some (.int .i64 a1_2) ∧ w28.cell? (ad277.add ((x5_2).toNat * 9)) = some (.int .i64 ((rd_T44 l0_0 x5_2).f0)) ∧ w28.cell? ⟨(ad277.add ((x5_2).toNat * 9)).block, (ad277.add ((x5_2).toNat * 9)).off + 1, none⟩ = some (.slice A277_1 ((rd_T44 l0_0 x5_2).f1).length c277_1) ∧ w28.cell? ⟨(ad277.add ((x5_2).toNat * 9)).block, (ad277.add ((x5_2).toNat * 9)).off + 2, none⟩ = some (.slice A277_2 ((rd_T44 l0_0 x5_2).f2).length c277_2) ∧ w28.cell? ⟨(ad277.add ((x5_2).toNat * 9)).block, (ad277.add ((x5_2).toNat * 9)).off + 3, none⟩ = some (.slice A277_3 ((rd_T44 l0_0 x5_2).f3).length c277_3) ∧ w28.cell? ⟨(ad277.add ((x5_2).toNat * 9)).block, (ad277.add ((x5_2).toNat * 9)).off + 4, none⟩ = some (.slice A277_4 ((rd_T44 l0_0 x5_2).f4).length c277_4) ∧ w28.cell? ⟨(ad277.add ((x5_2).toNat * 9)).block, (ad277.add ((x5_2).toNat * 9)).off + 5, none⟩ = some (.int .i64 ((rd_T44 l0_0 x5_2).f5)) ∧ w28.cell? ⟨(ad277.add ((x5_2).toNat * 9)).block, (ad277.add ((x5_2).toNat * 9)).off + 6, none⟩ = some (.int .i64 ((rd_T44 l0_0 x5_2).f6)) ∧ w28.cell? ⟨(ad277.add ((x5_2).toNat * 9)).block, (ad277.add ((x5_2).toNat * 9)).off + 7, none⟩ = some (.int .i64 ((rd_T44 l0_0 x5_2).f7)) ∧ w28.cell? ⟨(ad277.add ((x5_2).toNat * 9)).block, (ad277.add ((x5_2).toNat * 9)).off + 8, none⟩ = some (.int .i64 ((rd_T44 l0_0 x5_2).f8)) ∧ w28.cell? (ad278.add ((x5_2).toNat * 9)) = some (.int .i64 ((rd_T44 l1_0 x5_2).f0)) ∧ w28.cell? ⟨(ad278.add ((x5_2).toNat * 9)).block, (ad278.add ((x5_2).toNat * 9)).off + 1, none⟩ = some (.slice A278_1 ((rd_T44 l1_0 x5_2).f1).length c278_1) ∧ w28.cell? ⟨(ad278.add ((x5_2).toNat * 9)).block, (ad278.add ((x5_2).toNat * 9)).off + 2, none⟩ = some (.slice A278_2 ((rd_T44 l1_0 x5_2).f2).length c278_2) ∧ w28.cell? ⟨(ad278.add ((x5_2).toNat * 9)).block, (ad278.add ((x5_2).toNat * 9)).off + 3, none⟩ = some (.slice A278_3 ((rd_T44 l1_0 x5_2).f3).length c278_3) ∧ w28.cell? ⟨(ad278.add ((x5_2).toNat * 9)).block, (ad278.add ((x5_2).toNat * 9)).off + 4, none⟩ = some (.slice A278_4 ((rd_T44 l1_0 x5_2).f4).length c278_4) ∧ w28.cell? ⟨(ad278.add ((x5_2).toNat * 9)).block, (ad278.add ((x5_2).toNat * 9)).off + 5, none⟩ = some (.int .i64 ((rd_T44 l1_0 x5_2).f5)) ∧ w28.cell? ⟨(ad278.add ((x5_2).toNat * 9)).block, (ad278.add ((x5_2).toNat * 9)).off + 6, none⟩ = some (.int .i64 ((rd_T44 l1_0 x5_2).f6)) ∧ w28.cell? ⟨(ad278.add ((x5_2).toNat * 9)).block, (ad278.add ((x5_2).toNat * 9)).off + 7, none⟩ = some (.int .i64 ((rd_T44 l1_0 x5_2).f7)) ∧ w28.cell? ⟨(ad278.add ((x5_2).toNat * 9)).block, (ad278.add ((x5_2).toNat * 9)).off + 8, none⟩ = some (.int .i64 ((rd_T44 l1_0 x5_2).f8)) := hS_
           refine norm_ (a' := ?_) ?_ ?_
           rotate_left
           ·
            simp only [putAll, Act.put, List.setIfInBounds_toArray, List.set_cons_zero, List.set_cons_succ]
            rfl
           refine one_ (i := 12) (N := none) #[true, true, true, true, true, true, true, true, true, true, true, true, true, false] rfl rfl (one_of HT_.out (by kernel_rfl)) (by decide) (fun K hK => ?_)
           have hs29 : w28.cell? ⟨gb279, 0, none⟩ = some (.int .i64 0) := (b4 BK279.out 0).trans rfl
           have hfs29 := blk_frozen BK279.out 0
           have hns29_0 := NB274_279.out
           have hns29_1 := NB275_279.out
           have hns29_3 := NB280_279.out
           have hms29_0 := NB279_274.out
           have hms29_1 := NB279_275.out
           have hms29_3 := NB279_280.out
           have hs30 : w28.cell? ⟨gb279, 1, none⟩ = some (.slice none 0 0) := (b4 BK279.out 1).trans rfl
           have hfs30 := blk_frozen BK279.out 1
           have hns30_0 := NB274_279.out
           have hns30_1 := NB275_279.out
           have hns30_3 := NB280_279.out
           have hms30_0 := NB279_274.out
           have hms30_1 := NB279_275.out
           have hms30_3 := NB279_280.out
           have hs31 : w28.cell? ⟨gb279, 2, none⟩ = some (.slice none 0 0) := (b4 BK279.out 2).trans rfl
           have hfs31 := blk_frozen BK279.out 2
           have hns31_0 := NB274_279.out
           have hns31_1 := NB275_279.out
           have hns31_3 := NB280_279.out
           have hms31_0 := NB279_274.out
           have hms31_1 := NB279_275.out
           have hms31_3 := NB279_280.out
           have hs32 : w28.cell? ⟨gb279, 3, none⟩ = some (.slice none 0 0) := (b4 BK279.out 3).trans rfl
           have hfs32 := blk_frozen BK279.out 3
           have hns32_0 := NB274_279.out
           have hns32_1 := NB275_279.out
           have hns32_3 := NB280_279.out
           have hms32_0 := NB279_274.out
           have hms32_1 := NB279_275.out
           have hms32_3 := NB279_280.out
           have hs33 : w28.cell? ⟨gb279, 4, none⟩ = some (.slice none 0 0) := (b4 BK279.out 4).trans rfl
           have hfs33 := blk_frozen BK279.out 4
           have hns33_0 := NB274_279.out
           have hns33_1 := NB275_279.out
           have hns33_3 := NB280_279.out
           have hms33_0 := NB279_274.out
           have hms33_1 := NB279_275.out
           have hms33_3 := NB279_280.out
           have hs34 : w28.cell? ⟨gb279, 5, none⟩ = some (.int .i64 0) := (b4 BK279.out 5).trans rfl
           have hfs34 := blk_frozen BK279.out 5
           have hns34_0 := NB274_279.out
           have hns34_1 := NB275_279.out
           have hns34_3 := NB280_279.out
           have hms34_0 := NB279_274.out
           have hms34_1 := NB279_275.out
           have hms34_3 := NB279_280.out
           have hs35 : w28.cell? ⟨gb279, 6, none⟩ = some (.int .i64 0) := (b4 BK279.out 6).trans rfl
           have hfs35 := blk_frozen BK279.out 6
           have hns35_0 := NB274_279.out
           have hns35_1 := NB275_279.out
           have hns35_3 := NB280_279.out
           have hms35_0 := NB279_274.out
           have hms35_1 := NB279_275.out
           have hms35_3 := NB279_280.out
           have hs36 : w28.cell? ⟨gb279, 7, none⟩ = some (.int .i64 0) := (b4 BK279.out 7).trans rfl
           have hfs36 := blk_frozen BK279.out 7
           have hns36_0 := NB274_279.out
           have hns36_1 := NB275_279.out
           have hns36_3 := NB280_279.out
           have hms36_0 := NB279_274.out
           have hms36_1 := NB279_275.out
           have hms36_3 := NB279_280.out
           have hs37 : w28.cell? ⟨gb279, 8, none⟩ = some (.int .i64 0) := (b4 BK279.out 8).trans rfl
           have hfs37 := blk_frozen BK279.out 8
           have hns37_0 := NB274_279.out
           have hns37_1 := NB275_279.out
           have hns37_3 := NB280_279.out
           have hms37_0 := NB279_274.out
           have hms37_1 := NB279_275.out
           have hms37_3 := NB279_280.out
           obtain ⟨w29z, hw_⟩ : ∃ x, x = (((((((((w28.setCell ⟨gb279, 0, none⟩ (.int .i64 ((rd_T44 l0_0 x5_2).f0))).setCell ⟨gb279, 1, none⟩ (.slice A277_1 ((rd_T44 l0_0 x5_2).f1).length c277_1)).setCell ⟨gb279, 2, none⟩ (.slice A277_2 ((rd_T44 l0_0 x5_2).f2).length c277_2)).setCell ⟨gb279, 3, none⟩ (.slice A277_3 ((rd_T44 l0_0 x5_2).f3).length c277_3)).setCell ⟨gb279, 4, none⟩ (.slice A277_4 ((rd_T44 l0_0 x5_2).f4).length c277_4)).setCell ⟨gb279, 5, none⟩ (.int .i64 ((rd_T44 l0_0 x5_2).f5))).setCell ⟨gb279, 6, none⟩ (.int .i64 ((rd_T44 l0_0 x5_2).f6))).setCell ⟨gb279, 7, none⟩ (.int .i64 ((rd_T44 l0_0 x5_2).f7))).setCell ⟨gb279, 8, none⟩ (.int .i64 ((rd_T44 l0_0 x5_2).f8))) := ⟨_, rfl⟩
           have keep_ : ∀ (a : Addr) (v : Value), a.block ≠ gb279 → w28.cell? a = some v → w29z.cell? a = some v := by
            intro a v ha h
            rw [hw_]
            iterate 9 refine cf ha ?_
            exact h
           have kb_ : ∀ (b : Nat) (cs : Array Value) (t : TypeId), b ≠ gb279 → w28.heap[b]? = some (.cells cs t (0, 0)) → w29z.heap[b]? = some (.cells cs t (0, 0)) := by
            intro b cs t ha h
            rw [hw_]
            iterate 9 refine blk_far ?_ ha _
            exact h
           have kg_ : w29z.heap[gb279]? = some (.cells #[.int .i64 ((rd_T44 l0_0 x5_2).f0), .slice A277_1 ((rd_T44 l0_0 x5_2).f1).length c277_1, .slice A277_2 ((rd_T44 l0_0 x5_2).f2).length c277_2, .slice A277_3 ((rd_T44 l0_0 x5_2).f3).length c277_3, .slice A277_4 ((rd_T44 l0_0 x5_2).f4).length c277_4, .int .i64 ((rd_T44 l0_0 x5_2).f5), .int .i64 ((rd_T44 l0_0 x5_2).f6), .int .i64 ((rd_T44 l0_0 x5_2).f7), .int .i64 ((rd_T44 l0_0 x5_2).f8)] 44 (0, 0)) := by
            rw [hw_]
            refine E_in ?_
            iterate 9 refine E_set ?_
            exact ⟨_, BK279.out, by (try dsimp only); simp only [List.setIfInBounds_toArray, List.set_cons_zero, List.set_cons_succ]⟩
           have kl_ : Below w.heap.size w w29z := by
            rw [hw_]
            iterate 9 refine c4 ?_ GE279.out
            exact HB.out
           refine skip_ (w1 := w29z) (by rfl) rfl ?_ ?_
           ·
            go_simp
            try (first | rfl | exact hw_.symm | (rw [hw_]) | (simp only [hw_]))
           refine hK.out _ _ ⟨(keep_ _ _ NB274_279.out (hHeld.1)), (keep_ _ _ NB274_279.out (hHeld.2.1)), (keep_ _ _ NB274_279.out (hHeld.2.2.1)), (keep_ _ _ NB275_279.out (hHeld.2.2.2.1)), (keep_ _ _ NB275_279.out (hHeld.2.2.2.2.1)), (keep_ _ _ NB275_279.out (hHeld.2.2.2.2.2.1)), (keep_ _ _ (by first | exact ne_rd hw277_0 GW279.out | exact ne_rd' hw277_0 GW279.out) (hHeld.2.2.2.2.2.2.1)), (keep_ _ _ (by first | exact ne_rd hw277_1 GW279.out | exact ne_rd' hw277_1 GW279.out) (hHeld.2.2.2.2.2.2.2.1)), (keep_ _ _ (by first | exact ne_rd hw277_2 GW279.out | exact ne_rd' hw277_2 GW279.out) (hHeld.2.2.2.2.2.2.2.2.1)), (keep_ _ _ (by first | exact ne_rd hw277_3 GW279.out | exact ne_rd' hw277_3 GW279.out) (hHeld.2.2.2.2.2.2.2.2.2.1)), (keep_ _ _ (by first | exact ne_rd hw277_4 GW279.out | exact ne_rd' hw277_4 GW279.out) (hHeld.2.2.2.2.2.2.2.2.2.2.1)), (keep_ _ _ (by first | exact ne_rd hw277_5 GW279.out | exact ne_rd' hw277_5 GW279.out) (hHeld.2.2.2.2.2.2.2.2.2.2.2.1)), (keep_ _ _ (by first | exact ne_rd hw277_6 GW279.out | exact ne_rd' hw277_6 GW279.out) (hHeld.2.2.2.2.2.2.2.2.2.2.2.2.1)), (keep_ _ _ (by first | exact ne_rd hw277_7 GW279.out | exact ne_rd' hw277_7 GW279.out) (hHeld.2.2.2.2.2.2.2.2.2.2.2.2.2.1)), (keep_ _ _ (by first | exact ne_rd hw277_8 GW279.out | exact ne_rd' hw277_8 GW279.out) (hHeld.2.2.2.2.2.2.2.2.2.2.2.2.2.2.1)), (keep_ _ _ (by first | exact ne_rd hw278_0 GW279.out | exact ne_rd' hw278_0 GW279.out) (hHeld.2.2.2.2.2.2.2.2.2.2.2.2.2.2.2.1)), (keep_ _ _ (by first | exact ne_rd hw278_1 GW279.out | exact ne_rd' hw278_1 GW279.out) (hHeld.2.2.2.2.2.2.2.2.2.2.2.2.2.2.2.2.1)), (keep_ _ _ (by first | exact ne_rd hw278_2 GW279.out | exact ne_rd' hw278_2 GW279.out) (hHeld.2.2.2.2.2.2.2.2.2.2.2.2.2.2.2.2.2.1)), (keep_ _ _ (by first | exact ne_rd hw278_3 GW279.out | exact ne_rd' hw278_3 GW279.out) (hHeld.2.2.2.2.2.2.2.2.2.2.2.2.2.2.2.2.2.2.1)), (keep_ _ _ (by first | exact ne_rd hw278_4 GW279.out | exact ne_rd' hw278_4 GW279.out) (hHeld.2.2.2.2.2.2.2.2.2.2.2.2.2.2.2.2.2.2.2.1)), (keep_ _ _ (by first | exact ne_rd hw278_5 GW279.out | exact ne_rd' hw278_5 GW279.out) (hHeld.2.2.2.2.2.2.2.2.2.2.2.2.2.2.2.2.2.2.2.2.1)), (keep_ _ _ (by first | exact ne_rd hw278_6 GW279.out | exact ne_rd' hw278_6 GW279.out) (hHeld.2.2.2.2.2.2.2.2.2.2.2.2.2.2.2.2.2.2.2.2.2.1)), (keep_ _ _ (by first | exact ne_rd hw278_7 GW279.out | exact ne_rd' hw278_7 GW279.out) (hHeld.2.2.2.2.2.2.2.2.2.2.2.2.2.2.2.2.2.2.2.2.2.2.1)), (keep_ _ _ (by first | exact ne_rd hw278_8 GW279.out | exact ne_rd' hw278_8 GW279.out) (hHeld.2.2.2.2.2.2.2.2.2.2.2.2.2.2.2.2.2.2.2.2.2.2.2))⟩ (fun hHeld => ?_)
           clear hK K
           have n0_ := am (kb_ _ _ _ NB274_279.out BK274.out)
           have n1_ := am (kb_ _ _ _ NB275_279.out BK275.out)
           have n2_ := am (kb_ _ _ _ NB280_279.out BK280.out)
           have n3_ := am kg_
           have n4_ := am kl_
           clear keep_ kb_ kg_ kl_ hw_ BK274 BK275 BK280 BK279 HB
           have BK274 := n0_
           have BK275 := n1_
           have BK280 := n2_
           have BK279 := n3_
           have HB := n4_
           clear n0_ n1_ n2_ n3_ n4_
           refine one_ (i := 13) (N := none) #[true, true, true, true, true, true, true, true, true, true, true, true, true, true] rfl rfl (one_of HT_.out (by kernel_rfl)) (by decide) (fun K hK => ?_)
           have hs38 : w29z.cell? ⟨gb280, 0, none⟩ = some (.int .i64 0) := (b4 BK280.out 0).trans rfl
           have hfs38 := blk_frozen BK280.out 0
           have hns38_0 := NB274_280.out
           have hns38_1 := NB275_280.out
           have hns38_2 := NB279_280.out
           have hms38_0 := NB280_274.out
           have hms38_1 := NB280_275.out
           have hms38_2 := NB280_279.out
           have hs39 : w29z.cell? ⟨gb280, 1, none⟩ = some (.slice none 0 0) := (b4 BK280.out 1).trans rfl
           have hfs39 := blk_frozen BK280.out 1
           have hns39_0 := NB274_280.out
           have hns39_1 := NB275_280.out
           have hns39_2 := NB279_280.out
           have hms39_0 := NB280_274.out
           have hms39_1 := NB280_275.out
           have hms39_2 := NB280_279.out
           have hs40 : w29z.cell? ⟨gb280, 2, none⟩ = some (.slice none 0 0) := (b4 BK280.out 2).trans rfl
           have hfs40 := blk_frozen BK280.out 2
           have hns40_0 := NB274_280.out
           have hns40_1 := NB275_280.out
           have hns40_2 := NB279_280.out
           have hms40_0 := NB280_274.out
           have hms40_1 := NB280_275.out
           have hms40_2 := NB280_279.out
           have hs41 : w29z.cell? ⟨gb280, 3, none⟩ = some (.slice none 0 0) := (b4 BK280.out 3).trans rfl
           have hfs41 := blk_frozen BK280.out 3
           have hns41_0 := NB274_280.out
           have hns41_1 := NB275_280.out
           have hns41_2 := NB279_280.out
           have hms41_0 := NB280_274.out
           have hms41_1 := NB280_275.out
           have hms41_2 := NB280_279.out
           have hs42 : w29z.cell? ⟨gb280, 4, none⟩ = some (.slice none 0 0) := (b4 BK280.out 4).trans rfl
           have hfs42 := blk_frozen BK280.out 4
           have hns42_0 := NB274_280.out
           have hns42_1 := NB275_280.out
           have hns42_2 := NB279_280.out
           have hms42_0 := NB280_274.out
           have hms42_1 := NB280_275.out
           have hms42_2 := NB280_279.out
           have hs43 : w29z.cell? ⟨gb280, 5, none⟩ = some (.int .i64 0) := (b4 BK280.out 5).trans rfl
           have hfs43 := blk_frozen BK280.out 5
           have hns43_0 := NB274_280.out
           have hns43_1 := NB275_280.out
           have hns43_2 := NB279_280.out
           have hms43_0 := NB280_274.out
           have hms43_1 := NB280_275.out
           have hms43_2 := NB280_279.out
           have hs44 : w29z.cell? ⟨gb280, 6, none⟩ = some (.int .i64 0) := (b4 BK280.out 6).trans rfl
           have hfs44 := blk_frozen BK280.out 6
           have hns44_0 := NB274_280.out
           have hns44_1 := NB275_280.out
           have hns44_2 := NB279_280.out
           have hms44_0 := NB280_274.out
           have hms44_1 := NB280_275.out
           have hms44_2 := NB280_279.out
           have hs45 : w29z.cell? ⟨gb280, 7, none⟩ = some (.int .i64 0) := (b4 BK280.out 7).trans rfl
           have hfs45 := blk_frozen BK280.out 7
           have hns45_0 := NB274_280.out
           have hns45_1 := NB275_280.out
           have hns45_2 := NB279_280.out
           have hms45_0 := NB280_274.out
           have hms45_1 := NB280_275.out
           have hms45_2 := NB280_279.out
           have hs46 : w29z.cell? ⟨gb280, 8, none⟩ = some (.int .i64 0) := (b4 BK280.out 8).trans rfl
           have hfs46 := blk_frozen BK280.out 8
           have hns46_0 := NB274_280.out
           have hns46_1 := NB275_280.out
           have hns46_2 := NB279_280.out
           have hms46_0 := NB280_274.out
           have hms46_1 := NB280_275.out
           have hms46_2 := NB280_279.out
           obtain ⟨w30z, hw_⟩ : ∃ x, x = (((((((((w29z.setCell ⟨gb280, 0, none⟩ (.int .i64 ((rd_T44 l1_0 x5_2).f0))).setCell ⟨gb280, 1, none⟩ (.slice A278_1 ((rd_T44 l1_0 x5_2).f1).length c278_1)).setCell ⟨gb280, 2, none⟩ (.slice A278_2 ((rd_T44 l1_0 x5_2).f2).length c278_2)).setCell ⟨gb280, 3, none⟩ (.slice A278_3 ((rd_T44 l1_0 x5_2).f3).length c278_3)).setCell ⟨gb280, 4, none⟩ (.slice A278_4 ((rd_T44 l1_0 x5_2).f4).length c278_4)).setCell ⟨gb280, 5, none⟩ (.int .i64 ((rd_T44 l1_0 x5_2).f5))).setCell ⟨gb280, 6, none⟩ (.int .i64 ((rd_T44 l1_0 x5_2).f6))).setCell ⟨gb280, 7, none⟩ (.int .i64 ((rd_T44 l1_0 x5_2).f7))).setCell ⟨gb280, 8, none⟩ (.int .i64 ((rd_T44 l1_0 x5_2).f8))) := ⟨_, rfl⟩
           have keep_ : ∀ (a : Addr) (v : Value), a.block ≠ gb280 → w29z.cell? a = some v → w30z.cell? a = some v := by
            intro a v ha h
            rw [hw_]
            iterate 9 refine cf ha ?_
            exact h
           have kb_ : ∀ (b : Nat) (cs : Array Value) (t : TypeId), b ≠ gb280 → w29z.heap[b]? = some (.cells cs t (0, 0)) → w30z.heap[b]? = some (.cells cs t (0, 0)) := by
            intro b cs t ha h
            rw [hw_]
            iterate 9 refine blk_far ?_ ha _
            exact h
           have kg_ : w30z.heap[gb280]? = some (.cells #[.int .i64 ((rd_T44 l1_0 x5_2).f0), .slice A278_1 ((rd_T44 l1_0 x5_2).f1).length c278_1, .slice A278_2 ((rd_T44 l1_0 x5_2).f2).length c278_2, .slice A278_3 ((rd_T44 l1_0 x5_2).f3).length c278_3, .slice A278_4 ((rd_T44 l1_0 x5_2).f4).length c278_4, .int .i64 ((rd_T44 l1_0 x5_2).f5), .int .i64 ((rd_T44 l1_0 x5_2).f6), .int .i64 ((rd_T44 l1_0 x5_2).f7), .int .i64 ((rd_T44 l1_0 x5_2).f8)] 44 (0, 0)) := by
            rw [hw_]
            refine E_in ?_
            iterate 9 refine E_set ?_
            exact ⟨_, BK280.out, by (try dsimp only); simp only [List.setIfInBounds_toArray, List.set_cons_zero, List.set_cons_succ]⟩
           have kl_ : Below w.heap.size w w30z := by
            rw [hw_]
            iterate 9 refine c4 ?_ GE280.out
            exact HB.out
           refine skip_ (w1 := w30z) (by rfl) rfl ?_ ?_
           ·
            go_simp
            try (first | rfl | exact hw_.symm | (rw [hw_]) | (simp only [hw_]))
           refine hK.out _ _ ⟨(keep_ _ _ NB274_280.out (hHeld.1)), (keep_ _ _ NB274_280.out (hHeld.2.1)), (keep_ _ _ NB274_280.out (hHeld.2.2.1)), (keep_ _ _ NB275_280.out (hHeld.2.2.2.1)), (keep_ _ _ NB275_280.out (hHeld.2.2.2.2.1)), (keep_ _ _ NB275_280.out (hHeld.2.2.2.2.2.1)), (keep_ _ _ (by first | exact ne_rd hw277_0 GW280.out | exact ne_rd' hw277_0 GW280.out) (hHeld.2.2.2.2.2.2.1)), (keep_ _ _ (by first | exact ne_rd hw277_1 GW280.out | exact ne_rd' hw277_1 GW280.out) (hHeld.2.2.2.2.2.2.2.1)), (keep_ _ _ (by first | exact ne_rd hw277_2 GW280.out | exact ne_rd' hw277_2 GW280.out) (hHeld.2.2.2.2.2.2.2.2.1)), (keep_ _ _ (by first | exact ne_rd hw277_3 GW280.out | exact ne_rd' hw277_3 GW280.out) (hHeld.2.2.2.2.2.2.2.2.2.1)), (keep_ _ _ (by first | exact ne_rd hw277_4 GW280.out | exact ne_rd' hw277_4 GW280.out) (hHeld.2.2.2.2.2.2.2.2.2.2.1)), (keep_ _ _ (by first | exact ne_rd hw277_5 GW280.out | exact ne_rd' hw277_5 GW280.out) (hHeld.2.2.2.2.2.2.2.2.2.2.2.1)), (keep_ _ _ (by first | exact ne_rd hw277_6 GW280.out | exact ne_rd' hw277_6 GW280.out) (hHeld.2.2.2.2.2.2.2.2.2.2.2.2.1)), (keep_ _ _ (by first | exact ne_rd hw277_7 GW280.out | exact ne_rd' hw277_7 GW280.out) (hHeld.2.2.2.2.2.2.2.2.2.2.2.2.2.1)), (keep_ _ _ (by first | exact ne_rd hw277_8 GW280.out | exact ne_rd' hw277_8 GW280.out) (hHeld.2.2.2.2.2.2.2.2.2.2.2.2.2.2.1)), (keep_ _ _ (by first | exact ne_rd hw278_0 GW280.out | exact ne_rd' hw278_0 GW280.out) (hHeld.2.2.2.2.2.2.2.2.2.2.2.2.2.2.2.1)), (keep_ _ _ (by first | exact ne_rd hw278_1 GW280.out | exact ne_rd' hw278_1 GW280.out) (hHeld.2.2.2.2.2.2.2.2.2.2.2.2.2.2.2.2.1)), (keep_ _ _ (by first | exact ne_rd hw278_2 GW280.out | exact ne_rd' hw278_2 GW280.out) (hHeld.2.2.2.2.2.2.2.2.2.2.2.2.2.2.2.2.2.1)), (keep_ _ _ (by first | exact ne_rd hw278_3 GW280.out | exact ne_rd' hw278_3 GW280.out) (hHeld.2.2.2.2.2.2.2.2.2.2.2.2.2.2.2.2.2.2.1)), (keep_ _ _ (by first | exact ne_rd hw278_4 GW280.out | exact ne_rd' hw278_4 GW280.out) (hHeld.2.2.2.2.2.2.2.2.2.2.2.2.2.2.2.2.2.2.2.1)), (keep_ _ _ (by first | exact ne_rd hw278_5 GW280.out | exact ne_rd' hw278_5 GW280.out) (hHeld.2.2.2.2.2.2.2.2.2.2.2.2.2.2.2.2.2.2.2.2.1)), (keep_ _ _ (by first | exact ne_rd hw278_6 GW280.out | exact ne_rd' hw278_6 GW280.out) (hHeld.2.2.2.2.2.2.2.2.2.2.2.2.2.2.2.2.2.2.2.2.2.1)), (keep_ _ _ (by first | exact ne_rd hw278_7 GW280.out | exact ne_rd' hw278_7 GW280.out) (hHeld.2.2.2.2.2.2.2.2.2.2.2.2.2.2.2.2.2.2.2.2.2.2.1)), (keep_ _ _ (by first | exact ne_rd hw278_8 GW280.out | exact ne_rd' hw278_8 GW280.out) (hHeld.2.2.2.2.2.2.2.2.2.2.2.2.2.2.2.2.2.2.2.2.2.2.2))⟩ (fun hHeld => ?_)
           clear hK K
           have n0_ := am (kb_ _ _ _ NB274_280.out BK274.out)
           have n1_ := am (kb_ _ _ _ NB275_280.out BK275.out)
           have n2_ := am (kb_ _ _ _ NB279_280.out BK279.out)
           have n3_ := am kg_
           have n4_ := am kl_
           clear keep_ kb_ kg_ kl_ hw_ BK274 BK275 BK279 BK280 HB
           have BK274 := n0_
           have BK275 := n1_
           have BK279 := n2_
           have BK280 := n3_
           have HB := n4_
           clear n0_ n1_ n2_ n3_ n4_
           refine done_ (done_of HT_.out (by kernel_rfl)) ?_
           go_upto_region 7 with (fail)
           go_cut [114] (fun v114 wc => ∃ (kq : Nat) (x114_21 : Bool), v114 = .bool x114_21 ∧ Aside0 (runnelref17_Same.j2 kq x5_2 x114_21 l0_0 l0_1 a0_2 l1_0 l1_1 a1_2 ((rd_T44 l0_0 x5_2).f0) ((rd_T44 l0_0 x5_2).f1) ((rd_T44 l0_0 x5_2).f2) ((rd_T44 l0_0 x5_2).f3) ((rd_T44 l0_0 x5_2).f4) ((rd_T44 l0_0 x5_2).f5) ((rd_T44 l0_0 x5_2).f6) ((rd_T44 l0_0 x5_2).f7) ((rd_T44 l0_0 x5_2).f8) ((rd_T44 l1_0 x5_2).f0) ((rd_T44 l1_0 x5_2).f1) ((rd_T44 l1_0 x5_2).f2) ((rd_T44 l1_0 x5_2).f3) ((rd_T44 l1_0 x5_2).f4) ((rd_T44 l1_0 x5_2).f5) ((rd_T44 l1_0 x5_2).f6) ((rd_T44 l1_0 x5_2).f7) ((rd_T44 l1_0 x5_2).f8) = some r) ∧ Aside0 (kq ≤ k2) ∧ Aside0 (wc.heap[gb274]? = some (.cells #[(.slice (some ad277) l0_0.length c0_0), (.slice A0_1 l0_1.length c0_1), .int .i64 a0_2] 25 (0, 0))) ∧ Aside0 (wc.heap[gb275]? = some (.cells #[(.slice (some ad278) l1_0.length c1_0), (.slice A1_1 l1_1.length c1_1), .int .i64 a1_2] 25 (0, 0))) ∧ Aside0 (wc.heap[gb279]? = some (.cells #[.int .i64 ((rd_T44 l0_0 x5_2).f0), (.slice A277_1 ((rd_T44 l0_0 x5_2).f1).length c277_1), (.slice A277_2 ((rd_T44 l0_0 x5_2).f2).length c277_2), (.slice A277_3 ((rd_T44 l0_0 x5_2).f3).length c277_3), (.slice A277_4 ((rd_T44 l0_0 x5_2).f4).length c277_4), .int .i64 ((rd_T44 l0_0 x5_2).f5), .int .i64 ((rd_T44 l0_0 x5_2).f6), .int .i64 ((rd_T44 l0_0 x5_2).f7), .int .i64 ((rd_T44 l0_0 x5_2).f8)] 44 (0, 0))) ∧ Aside0 (wc.heap[gb280]? = some (.cells #[.int .i64 ((rd_T44 l1_0 x5_2).f0), (.slice A278_1 ((rd_T44 l1_0 x5_2).f1).length c278_1), (.slice A278_2 ((rd_T44 l1_0 x5_2).f2).length c278_2), (.slice A278_3 ((rd_T44 l1_0 x5_2).f3).length c278_3), (.slice A278_4 ((rd_T44 l1_0 x5_2).f4).length c278_4), .int .i64 ((rd_T44 l1_0 x5_2).f5), .int .i64 ((rd_T44 l1_0 x5_2).f6), .int .i64 ((rd_T44 l1_0 x5_2).f7), .int .i64 ((rd_T44 l1_0 x5_2).f8)] 44 (0, 0))) ∧ Aside0 (Below w.heap.size w wc))
           case first =>
            revert hu25
            revert hu44
            revert hu52
            repeat revert ‹Value›
            repeat revert ‹Exit → Act → World → Prop›
            repeat revert ‹Nat → Act → World → Prop›
            repeat revert ‹Act → World → Prop›
            repeat revert ‹World → Prop›
            repeat revert ‹World›
            repeat revert ‹Nat›
            repeat revert ‹Int›
            repeat revert ‹Bool›
            repeat revert ‹Option Addr›
            repeat revert ‹Addr›
            repeat revert ‹List Int›
            repeat revert ‹List Nat›
            repeat revert ‹String›
            repeat revert ‹List Bool›
            repeat revert ‹List (List Int)›
            repeat revert ‹Exit›
            repeat revert ‹S44›
            repeat revert ‹List (S44)›
            exact hl_2.out
           case rest =>
            revert hu25
            revert hu44
            revert hu52
            repeat revert ‹Value›
            repeat revert ‹Exit → Act → World → Prop›
            repeat revert ‹Nat → Act → World → Prop›
            repeat revert ‹Act → World → Prop›
            repeat revert ‹World → Prop›
            repeat revert ‹World›
            repeat revert ‹Nat›
            repeat revert ‹Int›
            repeat revert ‹Bool›
            repeat revert ‹Option Addr›
            repeat revert ‹Addr›
            repeat revert ‹List Int›
            repeat revert ‹List Nat›
            repeat revert ‹String›
            repeat revert ‹List Bool›
            repeat revert ‹List (List Int)›
            repeat revert ‹Exit›
            repeat revert ‹S44›
            repeat revert ‹List (S44)›
            exact hl_3.out
          ·
           rw [if_neg c21] at H
           exact absurd H (by simp)
         ·
          rw [if_neg c20] at H
          exact absurd H (by simp)
        ·
         rw [if_neg c19] at H
         have c19b0 : decide (x5_2 < (l0_0.length : Int)) = false := decide_eq_false c19
         clear c19
         obtain rfl := Option.some.inj H
         have hnb161 := NB274_275.out
         have hnc161 := NB275_274.out
         have hcz162_0 : wr.cell? ⟨gb274, 0, none⟩ = some (.slice A0_0 l0_0.length c0_0) := (b4 BK274.out 0).trans rfl
         have hcz162_1 : wr.cell? ⟨gb274, 1, none⟩ = some (.slice A0_1 l0_1.length c0_1) := (b4 BK274.out 1).trans rfl
         have hcz162_2 : wr.cell? ⟨gb274, 2, none⟩ = some (.int .i64 a0_2) := (b4 BK274.out 2).trans rfl
         have hfz162_0 := blk_frozen BK274.out 0
         have hfz162_1 := blk_frozen BK274.out 1
         have hfz162_2 := blk_frozen BK274.out 2
         go_wp2
         go_ret
         exact ⟨by first | rfl | (simp [errW_none, errW_some] <;> rfl) | (simp [*, errW_none, errW_some] <;> rfl), by repeat (first | (with_reducible first | exact HB.out | apply c1 | apply c2 | apply c3 | refine c4 ?_ GE274.out | refine c4 ?_ GE275.out) | exact HB.out)⟩
  
end Go.Proofs.Ytbdpnecnnokkkaa.PSheetSame
