/- One piece of the machine's side of the law, written by a program over the translation; Lean checks it. -/
import Derived.Test.YtpplklickfioiaaOWirePutsx0
import Derived.Test.YtpplklickfioiaaOWirePutsx2
import Derived.Test.YtpplklickfioiaaOWirePutsx3
import Derived.Test.YtpplklickfioiaaShort
namespace Go.Proofs.Ytpplklickfioiaa.PWirePuts
open Go.RowKit Go.Proofs.YtpplklickfioiaaW.PrintWords Go.Proofs.YtpplklickfioiaaW.PrintLast Go.Proofs.YtpplklickfioiaaW.PrintMore
attribute [local go_sem] max2_int min2_int max_two min_two max_three min_three max_four min_four   -- for this text's walks alone
set_option linter.unusedVariables false
set_option linter.unusedSimpArgs false

/-! ### wire_Put: function 19 -/
mutual
def wire_Put.j0 : Nat → List Int → Int → Int → Int → List (S103) → Int → Int → Int → List (S36) → Int → List Int → Option (List Int × Int)
 | 0, _, _, _, _, _, _, _, _, _, _, _ => none
 | k + 1, x0, x7, x178000, x178001, x178002, x178003, x178004, x178005, x178006, x178007, x178008 => if (Go.bits .and .i64 x7 2) > 0 then ((num_PutInt.f k x0 x178007).bind fun t192 => (wire_Put.j1 k t192 x7 x178000 x178001 x178002 x178003 x178004 x178005 x178006 x178007 x178008)) else (wire_Put.j1 k x0 x7 x178000 x178001 x178002 x178003 x178004 x178005 x178006 x178007 x178008)
def wire_Put.j1 : Nat → List Int → Int → Int → Int → List (S103) → Int → Int → Int → List (S36) → Int → List Int → Option (List Int × Int)
 | 0, _, _, _, _, _, _, _, _, _, _, _ => none
 | k + 1, x0, x7, x178000, x178001, x178002, x178003, x178004, x178005, x178006, x178007, x178008 => if (Go.bits .and .i64 x7 4) > 0 then ((num_PutText.f k x0 (strOfNums x178008)).bind fun t195 => (wire_Put.j2 k t195 x7 x178000 x178001 x178002 x178003 x178004 x178005 x178006 x178007 x178008)) else (wire_Put.j2 k x0 x7 x178000 x178001 x178002 x178003 x178004 x178005 x178006 x178007 x178008)
def wire_Put.j2 : Nat → List Int → Int → Int → Int → List (S103) → Int → Int → Int → List (S36) → Int → List Int → Option (List Int × Int)
 | 0, _, _, _, _, _, _, _, _, _, _, _ => none
 | k + 1, x0, x7, x178000, x178001, x178002, x178003, x178004, x178005, x178006, x178007, x178008 => if (Go.bits .and .i64 x7 8) > 0 then ((row_Put.f k x0 x178002).bind fun bt198 => ((wire_putTime.f k bt198.1 x178003 x178004).bind fun t202 => ((num_PutInt.f k t202 x178005).bind fun t205 => (wire_Put.j3 k t205 x7 x178000 x178001 x178002 x178003 x178004 x178005 x178006 x178007 x178008)))) else (wire_Put.j3 k x0 x7 x178000 x178001 x178002 x178003 x178004 x178005 x178006 x178007 x178008)
def wire_Put.j3 : Nat → List Int → Int → Int → Int → List (S103) → Int → Int → Int → List (S36) → Int → List Int → Option (List Int × Int)
 | 0, _, _, _, _, _, _, _, _, _, _, _ => none
 | k + 1, x0, x7, x178000, x178001, x178002, x178003, x178004, x178005, x178006, x178007, x178008 => if (Go.bits .and .i64 x7 16) > 0 then ((wire_putTime.f k x0 x178003 x178004).bind fun t208 => (if (Go.bits .and .i64 x7 32) > 0 then ((wire_PutFront.f k t208 x178006).bind fun t211 => (some (t211, 0))) else (some (t208, 0)))) else (if (Go.bits .and .i64 x7 32) > 0 then ((wire_PutFront.f k x0 x178006).bind fun t214 => (some (t214, 0))) else (some (x0, 0)))
end
def wire_Put.f (k : Nat) (l0 : List Int) (a1_0 : Int) (a1_1 : Int) (l1_2 : List (S103)) (a1_3 : Int) (a1_4 : Int) (a1_5 : Int) (l1_6 : List (S36)) (a1_7 : Int) (l1_8 : List Int) : Option (List Int × Int) := (wire_Check.f k a1_0 a1_1 l1_2 a1_3 a1_4 a1_5 l1_6 a1_7 l1_8).bind fun t178 => (if t178 = 0 then ((wire_uses.f k a1_0).bind fun t179 => ((slices_Clone_byte_byte.f l0).bind fun t180 => ((some (([(a1_0) % 256] : List Int) : List Int)).bind fun y183 => (if t180.length + y183.length < 140737488355328 then ((some (t180 ++ y183 : List Int)).bind fun y186 => (if (Go.bits .and .i64 t179 1) > 0 then ((num_PutInt.f k y186 a1_1).bind fun t189 => (wire_Put.j0 k t189 t179 a1_0 a1_1 l1_2 a1_3 a1_4 a1_5 l1_6 a1_7 l1_8)) else (wire_Put.j0 k y186 t179 a1_0 a1_1 l1_2 a1_3 a1_4 a1_5 l1_6 a1_7 l1_8))) else (none))))) else (some (([] : List Int), t178)))
theorem wire_Put.mono_l : ∀ k, (∀ y0 y1 y2 y3 y4 y5 y6 y7 y8 y9 y10, LeO (wire_Put.j0 k y0 y1 y2 y3 y4 y5 y6 y7 y8 y9 y10) (wire_Put.j0 (k + 1) y0 y1 y2 y3 y4 y5 y6 y7 y8 y9 y10)) ∧ (∀ y0 y1 y2 y3 y4 y5 y6 y7 y8 y9 y10, LeO (wire_Put.j1 k y0 y1 y2 y3 y4 y5 y6 y7 y8 y9 y10) (wire_Put.j1 (k + 1) y0 y1 y2 y3 y4 y5 y6 y7 y8 y9 y10)) ∧ (∀ y0 y1 y2 y3 y4 y5 y6 y7 y8 y9 y10, LeO (wire_Put.j2 k y0 y1 y2 y3 y4 y5 y6 y7 y8 y9 y10) (wire_Put.j2 (k + 1) y0 y1 y2 y3 y4 y5 y6 y7 y8 y9 y10)) ∧ (∀ y0 y1 y2 y3 y4 y5 y6 y7 y8 y9 y10, LeO (wire_Put.j3 k y0 y1 y2 y3 y4 y5 y6 y7 y8 y9 y10) (wire_Put.j3 (k + 1) y0 y1 y2 y3 y4 y5 y6 y7 y8 y9 y10))
 | 0 => ⟨fun _ _ _ _ _ _ _ _ _ _ _ r h => by simp [wire_Put.j0] at h, fun _ _ _ _ _ _ _ _ _ _ _ r h => by simp [wire_Put.j1] at h, fun _ _ _ _ _ _ _ _ _ _ _ r h => by simp [wire_Put.j2] at h, fun _ _ _ _ _ _ _ _ _ _ _ r h => by simp [wire_Put.j3] at h⟩
 | k + 1 => by
  obtain ⟨ih0, ih1, ih2, ih3⟩ := wire_Put.mono_l k
  refine ⟨?_, ?_, ?_, ?_⟩
  ·
   intro y0 y1 y2 y3 y4 y5 y6 y7 y8 y9 y10
   unfold wire_Put.j0
   repeat' first
   | (with_reducible exact ih0 _ _ _ _ _ _ _ _ _ _ _)
   | (with_reducible exact ih1 _ _ _ _ _ _ _ _ _ _ _)
   | (with_reducible exact ih2 _ _ _ _ _ _ _ _ _ _ _)
   | (with_reducible exact ih3 _ _ _ _ _ _ _ _ _ _ _)
   | (with_reducible exact num_PutInt.mono _ _ _)
   | (with_reducible exact num_PutText.mono _ _ _)
   | (with_reducible exact row_Put.mono _ _ _)
   | (with_reducible exact wire_Check.mono _ _ _ _ _ _ _ _ _ _)
   | (with_reducible exact wire_PutFront.mono _ _ _)
   | (with_reducible exact wire_putTime.mono _ _ _ _)
   | (with_reducible exact wire_uses.mono _ _)
   | (with_reducible exact LeO.refl _)
   | (with_reducible exact LeO.none _)
   | (with_reducible refine LeO.ite ?_ ?_)
   | (with_reducible refine LeO.bind ?_ (fun _ => ?_))
   | exact ih0 _ _ _ _ _ _ _ _ _ _ _
   | exact ih1 _ _ _ _ _ _ _ _ _ _ _
   | exact ih2 _ _ _ _ _ _ _ _ _ _ _
   | exact ih3 _ _ _ _ _ _ _ _ _ _ _
   | exact num_PutInt.mono _ _ _
   | exact num_PutText.mono _ _ _
   | exact row_Put.mono _ _ _
   | exact wire_Check.mono _ _ _ _ _ _ _ _ _ _
   | exact wire_PutFront.mono _ _ _
   | exact wire_putTime.mono _ _ _ _
   | exact wire_uses.mono _ _
   | exact LeO.none _
   | refine LeO.ite ?_ ?_
   | refine LeO.bind ?_ (fun _ => ?_)
  ·
   intro y0 y1 y2 y3 y4 y5 y6 y7 y8 y9 y10
   unfold wire_Put.j1
   repeat' first
   | (with_reducible exact ih0 _ _ _ _ _ _ _ _ _ _ _)
   | (with_reducible exact ih1 _ _ _ _ _ _ _ _ _ _ _)
   | (with_reducible exact ih2 _ _ _ _ _ _ _ _ _ _ _)
   | (with_reducible exact ih3 _ _ _ _ _ _ _ _ _ _ _)
   | (with_reducible exact num_PutInt.mono _ _ _)
   | (with_reducible exact num_PutText.mono _ _ _)
   | (with_reducible exact row_Put.mono _ _ _)
   | (with_reducible exact wire_Check.mono _ _ _ _ _ _ _ _ _ _)
   | (with_reducible exact wire_PutFront.mono _ _ _)
   | (with_reducible exact wire_putTime.mono _ _ _ _)
   | (with_reducible exact wire_uses.mono _ _)
   | (with_reducible exact LeO.refl _)
   | (with_reducible exact LeO.none _)
   | (with_reducible refine LeO.ite ?_ ?_)
   | (with_reducible refine LeO.bind ?_ (fun _ => ?_))
   | exact ih0 _ _ _ _ _ _ _ _ _ _ _
   | exact ih1 _ _ _ _ _ _ _ _ _ _ _
   | exact ih2 _ _ _ _ _ _ _ _ _ _ _
   | exact ih3 _ _ _ _ _ _ _ _ _ _ _
   | exact num_PutInt.mono _ _ _
   | exact num_PutText.mono _ _ _
   | exact row_Put.mono _ _ _
   | exact wire_Check.mono _ _ _ _ _ _ _ _ _ _
   | exact wire_PutFront.mono _ _ _
   | exact wire_putTime.mono _ _ _ _
   | exact wire_uses.mono _ _
   | exact LeO.none _
   | refine LeO.ite ?_ ?_
   | refine LeO.bind ?_ (fun _ => ?_)
  ·
   intro y0 y1 y2 y3 y4 y5 y6 y7 y8 y9 y10
   unfold wire_Put.j2
   repeat' first
   | (with_reducible exact ih0 _ _ _ _ _ _ _ _ _ _ _)
   | (with_reducible exact ih1 _ _ _ _ _ _ _ _ _ _ _)
   | (with_reducible exact ih2 _ _ _ _ _ _ _ _ _ _ _)
   | (with_reducible exact ih3 _ _ _ _ _ _ _ _ _ _ _)
   | (with_reducible exact num_PutInt.mono _ _ _)
   | (with_reducible exact num_PutText.mono _ _ _)
   | (with_reducible exact row_Put.mono _ _ _)
   | (with_reducible exact wire_Check.mono _ _ _ _ _ _ _ _ _ _)
   | (with_reducible exact wire_PutFront.mono _ _ _)
   | (with_reducible exact wire_putTime.mono _ _ _ _)
   | (with_reducible exact wire_uses.mono _ _)
   | (with_reducible exact LeO.refl _)
   | (with_reducible exact LeO.none _)
   | (with_reducible refine LeO.ite ?_ ?_)
   | (with_reducible refine LeO.bind ?_ (fun _ => ?_))
   | exact ih0 _ _ _ _ _ _ _ _ _ _ _
   | exact ih1 _ _ _ _ _ _ _ _ _ _ _
   | exact ih2 _ _ _ _ _ _ _ _ _ _ _
   | exact ih3 _ _ _ _ _ _ _ _ _ _ _
   | exact num_PutInt.mono _ _ _
   | exact num_PutText.mono _ _ _
   | exact row_Put.mono _ _ _
   | exact wire_Check.mono _ _ _ _ _ _ _ _ _ _
   | exact wire_PutFront.mono _ _ _
   | exact wire_putTime.mono _ _ _ _
   | exact wire_uses.mono _ _
   | exact LeO.none _
   | refine LeO.ite ?_ ?_
   | refine LeO.bind ?_ (fun _ => ?_)
  ·
   intro y0 y1 y2 y3 y4 y5 y6 y7 y8 y9 y10
   unfold wire_Put.j3
   repeat' first
   | (with_reducible exact ih0 _ _ _ _ _ _ _ _ _ _ _)
   | (with_reducible exact ih1 _ _ _ _ _ _ _ _ _ _ _)
   | (with_reducible exact ih2 _ _ _ _ _ _ _ _ _ _ _)
   | (with_reducible exact ih3 _ _ _ _ _ _ _ _ _ _ _)
   | (with_reducible exact num_PutInt.mono _ _ _)
   | (with_reducible exact num_PutText.mono _ _ _)
   | (with_reducible exact row_Put.mono _ _ _)
   | (with_reducible exact wire_Check.mono _ _ _ _ _ _ _ _ _ _)
   | (with_reducible exact wire_PutFront.mono _ _ _)
   | (with_reducible exact wire_putTime.mono _ _ _ _)
   | (with_reducible exact wire_uses.mono _ _)
   | (with_reducible exact LeO.refl _)
   | (with_reducible exact LeO.none _)
   | (with_reducible refine LeO.ite ?_ ?_)
   | (with_reducible refine LeO.bind ?_ (fun _ => ?_))
   | exact ih0 _ _ _ _ _ _ _ _ _ _ _
   | exact ih1 _ _ _ _ _ _ _ _ _ _ _
   | exact ih2 _ _ _ _ _ _ _ _ _ _ _
   | exact ih3 _ _ _ _ _ _ _ _ _ _ _
   | exact num_PutInt.mono _ _ _
   | exact num_PutText.mono _ _ _
   | exact row_Put.mono _ _ _
   | exact wire_Check.mono _ _ _ _ _ _ _ _ _ _
   | exact wire_PutFront.mono _ _ _
   | exact wire_putTime.mono _ _ _ _
   | exact wire_uses.mono _ _
   | exact LeO.none _
   | refine LeO.ite ?_ ?_
   | refine LeO.bind ?_ (fun _ => ?_)
theorem wire_Put.mono : ∀ a0 a1 a2 a3 a4 a5 a6 a7 a8 a9 k, LeO (wire_Put.f k a0 a1 a2 a3 a4 a5 a6 a7 a8 a9) (wire_Put.f (k + 1) a0 a1 a2 a3 a4 a5 a6 a7 a8 a9) := by
 intro a0 a1 a2 a3 a4 a5 a6 a7 a8 a9 k
 obtain ⟨ih0, ih1, ih2, ih3⟩ := wire_Put.mono_l k
 unfold wire_Put.f
 repeat' first
   | (with_reducible exact ih0 _ _ _ _ _ _ _ _ _ _ _)
   | (with_reducible exact ih1 _ _ _ _ _ _ _ _ _ _ _)
   | (with_reducible exact ih2 _ _ _ _ _ _ _ _ _ _ _)
   | (with_reducible exact ih3 _ _ _ _ _ _ _ _ _ _ _)
   | (with_reducible exact num_PutInt.mono _ _ _)
   | (with_reducible exact num_PutText.mono _ _ _)
   | (with_reducible exact row_Put.mono _ _ _)
   | (with_reducible exact wire_Check.mono _ _ _ _ _ _ _ _ _ _)
   | (with_reducible exact wire_PutFront.mono _ _ _)
   | (with_reducible exact wire_putTime.mono _ _ _ _)
   | (with_reducible exact wire_uses.mono _ _)
   | (with_reducible exact LeO.refl _)
   | (with_reducible exact LeO.none _)
   | (with_reducible refine LeO.ite ?_ ?_)
   | (with_reducible refine LeO.bind ?_ (fun _ => ?_))
   | exact ih0 _ _ _ _ _ _ _ _ _ _ _
   | exact ih1 _ _ _ _ _ _ _ _ _ _ _
   | exact ih2 _ _ _ _ _ _ _ _ _ _ _
   | exact ih3 _ _ _ _ _ _ _ _ _ _ _
   | exact num_PutInt.mono _ _ _
   | exact num_PutText.mono _ _ _
   | exact row_Put.mono _ _ _
   | exact wire_Check.mono _ _ _ _ _ _ _ _ _ _
   | exact wire_PutFront.mono _ _ _
   | exact wire_putTime.mono _ _ _ _
   | exact wire_uses.mono _ _
   | exact LeO.none _
   | refine LeO.ite ?_ ?_
   | refine LeO.bind ?_ (fun _ => ?_)
def wire_Put.T5 : Bool × List (List Nat × List Nat) := (true, [([], []), ([0], [0]), ([], []), ([2], [2]), ([3], [3]), ([4], [4]), ([1, 5, 1], [1, 5]), ([6, 6, 0, 1, 2, 3, 4, 5, 6], [0, 6])])
def wire_Put.B5 : List Nat := [0, 1, 0, 4, 12, 28, 63, 127]
theorem wire_Put.tab5 : rtab .any (opsOf Try.f19 5) = wire_Put.T5 := by kernel_rfl
theorem wire_Put.bits5 : waitsOk wire_Put.T5.2 wire_Put.B5 = true := by kernel_rfl
def wire_Put.T14 : Bool × List (List Nat × List Nat) := (true, [([], []), ([], []), ([1], [1]), ([2], [2]), ([0, 3], [0, 3]), ([], []), ([5], [5]), ([6], [6]), ([4, 7, 4], [4, 7]), ([8, 8, 0, 1, 2, 3, 4, 5, 6, 7, 8], [0, 8])])
def wire_Put.B14 : List Nat := [0, 0, 2, 6, 15, 0, 32, 96, 255, 511]
theorem wire_Put.tab14 : rtab .any (opsOf Try.f19 14) = wire_Put.T14 := by kernel_rfl
theorem wire_Put.bits14 : waitsOk wire_Put.T14.2 wire_Put.B14 = true := by kernel_rfl
set_option maxHeartbeats 8000000 in
set_option maxRecDepth 100000 in
theorem wire_Put.calls (k : Nat) (A0 : Option Addr) (c0 : Nat) (l0 : List Int) (a1_0 : Int) (a1_1 : Int) (A1_2 : Option Addr) (c1_2 : Nat) (l1_2 : List (S103)) (a1_3 : Int) (a1_4 : Int) (a1_5 : Int) (A1_6 : Option Addr) (c1_6 : Nat) (l1_6 : List (S36)) (a1_7 : Int) (A1_8 : Option Addr) (c1_8 : Nat) (l1_8 : List Int) (r1 : List Int) (r2 : Int) (w : World) (hr0 : Kd.C (Kd.int .u8) w A0 l0.length l0) (hc0 : l0.length ≤ c0) (hr1_2 : Kd.C k103 w A1_2 l1_2.length l1_2) (hc1_2 : l1_2.length ≤ c1_2) (hr1_6 : Kd.C k36 w A1_6 l1_6.length l1_6) (hc1_6 : l1_6.length ≤ c1_6) (hr1_8 : Kd.C (Kd.int .u8) w A1_8 l1_8.length l1_8) (hc1_8 : l1_8.length ≤ c1_8) (h : wire_Put.f k l0 a1_0 a1_1 l1_2 a1_3 a1_4 a1_5 l1_6 a1_7 l1_8 = some (r1, r2)) :
  Calls Try.prog 19 #[.slice A0 l0.length c0, .agg #[.int .i64 a1_0, .int .i64 a1_1, .slice A1_2 l1_2.length c1_2, .int .i64 a1_3, .int .i64 a1_4, .int .i64 a1_5, .slice A1_6 l1_6.length c1_6, .int .i64 a1_7, .slice A1_8 l1_8.length c1_8]] w fun e w' => ∃ v0_ : Value, e = .returned (.tuple #[v0_, .int .i64 r2]) ∧ Kd.R (Kd.int .u8) 5 w' w.heap.size (fun _ => True) v0_ r1 ∧ Below w.heap.size w w' := by
 have hu40 := Try.underlying40; have hu36 := Try.underlying36; have HR0 := Aside0.mk hr0; have HC0 := Aside0.mk hc0; clear hr0 hc0; have HR1_2 := Aside0.mk hr1_2; have HC1_2 := Aside0.mk hc1_2; clear hr1_2 hc1_2; have HR1_6 := Aside0.mk hr1_6; have HC1_6 := Aside0.mk hc1_6; clear hr1_6 hc1_6; have HR1_8 := Aside0.mk hr1_8; have HC1_8 := Aside0.mk hc1_8; clear hr1_8 hc1_8; have HB := Aside0.mk (Below.refl w.heap.size w); have H : ((wire_Check.f k a1_0 a1_1 l1_2 a1_3 a1_4 a1_5 l1_6 a1_7 l1_8).bind fun t178 => (if t178 = 0 then ((wire_uses.f k a1_0).bind fun t179 => ((slices_Clone_byte_byte.f l0).bind fun t180 => ((some (([(a1_0) % 256] : List Int) : List Int)).bind fun y183 => (if t180.length + y183.length < 140737488355328 then ((some (t180 ++ y183 : List Int)).bind fun y186 => (if (Go.bits .and .i64 t179 1) > 0 then ((num_PutInt.f k y186 a1_1).bind fun t189 => (wire_Put.j0 k t189 t179 a1_0 a1_1 l1_2 a1_3 a1_4 a1_5 l1_6 a1_7 l1_8)) else (wire_Put.j0 k y186 t179 a1_0 a1_1 l1_2 a1_3 a1_4 a1_5 l1_6 a1_7 l1_8))) else (none))))) else (some (([] : List Int), t178)))) = some (r1, r2) := h; clear h; replace H := Option.bind_eq_some_iff.mp H; obtain ⟨t178, A30, H⟩ := H; replace H : (if t178 = 0 then ((wire_uses.f k a1_0).bind fun t179 => ((slices_Clone_byte_byte.f l0).bind fun t180 => ((some (([(a1_0) % 256] : List Int) : List Int)).bind fun y183 => (if t180.length + y183.length < 140737488355328 then ((some (t180 ++ y183 : List Int)).bind fun y186 => (if (Go.bits .and .i64 t179 1) > 0 then ((num_PutInt.f k y186 a1_1).bind fun t189 => (wire_Put.j0 k t189 t179 a1_0 a1_1 l1_2 a1_3 a1_4 a1_5 l1_6 a1_7 l1_8)) else (wire_Put.j0 k y186 t179 a1_0 a1_1 l1_2 a1_3 a1_4 a1_5 l1_6 a1_7 l1_8))) else (none))))) else (some (([] : List Int), t178))) = some (r1, r2) := H; have A3 := Aside0.mk A30; clear A30; by_cases c4 : t178 = 0
 rotate_left
 ·
  rw [if_neg c4] at H; have c4b0 : (t178 == 0) = false := beq_eq_false_iff_ne.mpr c4; have c4b1 : (t178 != 0) = true := bne_iff_ne.mpr c4; simp only [Option.some.injEq, Prod.mk.injEq] at H; obtain ⟨rfl, rfl⟩ := H; go_enter Try.func19, Try.ntmps19
  go_wp2_with (first | ((with_reducible refine gate_dst (N := 3) rfl ?_); refine box_event ?hg (N := 3) ?hd (cs := #[.int .i64 a1_0, .int .i64 a1_1, .slice A1_2 l1_2.length c1_2, .int .i64 a1_3, .int .i64 a1_4, .int .i64 a1_5, .slice A1_6 l1_6.length c1_6, .int .i64 a1_7, .slice A1_8 l1_8.length c1_8]) (t := 40) ?hr ?_; (case hd => rfl); (case hg => rfl); (case hr => first | (go_simp; done) | (go_simp; rfl)); intro gb177 hg w69 hbox hb; have n0_ := Aside0.mk (below_step bl hb); have n1_ := Aside0.mk (hbox); have n2_ := Aside0.mk ((by rw [hg]; exact (below_size bl) : w.heap.size ≤ gb177)); have n3_ := Aside0.mk ((by rw [hg]; exact (below_size bl) : w.heap.size ≤ gb177)); clear HB; have HB := n0_; have BK177 := n1_; have GW177 := n2_; have GE177 := n3_; clear n0_ n1_ n2_ n3_; clear hb hbox hg; obtain ⟨hcz70_0, hcz70_1, hcz70_2, hcz70_3, hcz70_4, hcz70_5, hcz70_6, hcz70_7, hcz70_8⟩ := cells9 BK177.out; have hfz70_0 := blk_frozen BK177.out 0; have hfz70_1 := blk_frozen BK177.out 1; have hfz70_2 := blk_frozen BK177.out 2; have hfz70_3 := blk_frozen BK177.out 3; have hfz70_4 := blk_frozen BK177.out 4; have hfz70_5 := blk_frozen BK177.out 5; have hfz70_6 := blk_frozen BK177.out 6; have hfz70_7 := blk_frozen BK177.out 7; have hfz70_8 := blk_frozen BK177.out 8) | ((with_reducible refine gate_callee (f := 21) rfl ?_); refine goesL_ (some 9) rfl rfl Try.func21 (by kernel_rfl) rfl #[.agg #[.int .i64 a1_0, .int .i64 a1_1, .slice A1_2 l1_2.length c1_2, .int .i64 a1_3, .int .i64 a1_4, .int .i64 a1_5, .slice A1_6 l1_6.length c1_6, .int .i64 a1_7, .slice A1_8 l1_8.length c1_8]] rfl mpq ?_; (with_reducible refine (wire_Check.calls k a1_0 a1_1 _ _ l1_2 a1_3 a1_4 a1_5 _ _ l1_6 a1_7 _ _ l1_8 t178 _ ?side1 ?side2 ?side3 ?side4 ?side5 ?side6 A3.out).mono ?_); (case side1 => exact cp ((Kd.C_below HR1_2.out HB.out))); (case side2 => exact HC1_2.out); (case side3 => exact cp ((Kd.C_below HR1_6.out HB.out))); (case side4 => exact HC1_6.out); (case side5 => exact cp ((Kd.C_below HR1_8.out HB.out))); (case side6 => exact HC1_8.out); rintro e w71 ⟨rfl, hb⟩; refine ⟨_, rfl, ?_⟩; have n0_ := Aside0.mk (blk_below (g := gb177) (o := .cells #[.int .i64 a1_0, .int .i64 a1_1, .slice A1_2 l1_2.length c1_2, .int .i64 a1_3, .int .i64 a1_4, .int .i64 a1_5, .slice A1_6 l1_6.length c1_6, .int .i64 a1_7, .slice A1_8 l1_8.length c1_8] 40 (0, 0)) bk hb); have n1_ := Aside0.mk (below_step bl hb); clear BK177; clear HB; have BK177 := n0_; have HB := n1_; clear n0_ n1_; (try clear hb); (try clear hb2); (try clear hk); (try clear hi)))
  go_ret2
  exact ⟨_, erq, nlq, bl⟩

 rw [if_pos c4] at H; have c4b0 : (t178 == 0) = true := beq_iff_eq.mpr c4; have c4b1 : (t178 != 0) = false := bne_eq_false_iff_eq.mpr c4; clear c4; replace H := Option.bind_eq_some_iff.mp H; obtain ⟨t179, A50, H⟩ := H; replace H : ((slices_Clone_byte_byte.f l0).bind fun t180 => ((some (([(a1_0) % 256] : List Int) : List Int)).bind fun y183 => (if t180.length + y183.length < 140737488355328 then ((some (t180 ++ y183 : List Int)).bind fun y186 => (if (Go.bits .and .i64 t179 1) > 0 then ((num_PutInt.f k y186 a1_1).bind fun t189 => (wire_Put.j0 k t189 t179 a1_0 a1_1 l1_2 a1_3 a1_4 a1_5 l1_6 a1_7 l1_8)) else (wire_Put.j0 k y186 t179 a1_0 a1_1 l1_2 a1_3 a1_4 a1_5 l1_6 a1_7 l1_8))) else (none)))) = some (r1, r2) := H; have A5 := Aside0.mk A50; clear A50; replace H := Option.bind_eq_some_iff.mp H; obtain ⟨t180, A60, H⟩ := H; replace H : ((some (([(a1_0) % 256] : List Int) : List Int)).bind fun y183 => (if t180.length + y183.length < 140737488355328 then ((some (t180 ++ y183 : List Int)).bind fun y186 => (if (Go.bits .and .i64 t179 1) > 0 then ((num_PutInt.f k y186 a1_1).bind fun t189 => (wire_Put.j0 k t189 t179 a1_0 a1_1 l1_2 a1_3 a1_4 a1_5 l1_6 a1_7 l1_8)) else (wire_Put.j0 k y186 t179 a1_0 a1_1 l1_2 a1_3 a1_4 a1_5 l1_6 a1_7 l1_8))) else (none))) = some (r1, r2) := H; have A6 := Aside0.mk A60; clear A60; obtain ⟨y183, hy183⟩ : ∃ y_ : List Int, y_ = (([(a1_0) % 256] : List Int)) := ⟨_, rfl⟩; replace H : (if t180.length + y183.length < 140737488355328 then ((some (t180 ++ y183 : List Int)).bind fun y186 => (if (Go.bits .and .i64 t179 1) > 0 then ((num_PutInt.f k y186 a1_1).bind fun t189 => (wire_Put.j0 k t189 t179 a1_0 a1_1 l1_2 a1_3 a1_4 a1_5 l1_6 a1_7 l1_8)) else (wire_Put.j0 k y186 t179 a1_0 a1_1 l1_2 a1_3 a1_4 a1_5 l1_6 a1_7 l1_8))) else (none)) = some (r1, r2) := by first | (rw [hy183]; with_reducible exact H) | (have H2_ := (Option.bind_some _ _).symm.trans H; rw [hy183]; with_reducible exact H2_) | (have H2_ := (Option.bind_some _ _).symm.trans H; with_reducible exact H2_) | with_reducible exact H | (rw [hy183]; exact H) | exact H
 have Ny183 := Aside0.mk hy183; clear hy183; by_cases c7 : t180.length + y183.length < 140737488355328
 rotate_left
 · rw [if_neg c7] at H; exact absurd H (by simp)
 rw [if_pos c7] at H; have LMc7 := Aside0.mk c7; clear c7; obtain ⟨y186, hy186⟩ : ∃ y_ : List Int, y_ = (t180 ++ y183) := ⟨_, rfl⟩; replace H : (if (Go.bits .and .i64 t179 1) > 0 then ((num_PutInt.f k y186 a1_1).bind fun t189 => (wire_Put.j0 k t189 t179 a1_0 a1_1 l1_2 a1_3 a1_4 a1_5 l1_6 a1_7 l1_8)) else (wire_Put.j0 k y186 t179 a1_0 a1_1 l1_2 a1_3 a1_4 a1_5 l1_6 a1_7 l1_8)) = some (r1, r2) := by first | (rw [hy186]; with_reducible exact H) | (have H2_ := (Option.bind_some _ _).symm.trans H; rw [hy186]; with_reducible exact H2_) | (have H2_ := (Option.bind_some _ _).symm.trans H; with_reducible exact H2_) | with_reducible exact H | (rw [hy186]; exact H) | exact H
 have Ny186 := Aside0.mk hy186; clear hy186; have HC8 := Aside0.mk H; clear H; go_enter Try.func19, Try.ntmps19
 try go_wp2_with (first | ((with_reducible refine gate_dst (N := 3) rfl ?_); refine box_event ?hg (N := 3) ?hd (cs := #[.int .i64 a1_0, .int .i64 a1_1, .slice A1_2 l1_2.length c1_2, .int .i64 a1_3, .int .i64 a1_4, .int .i64 a1_5, .slice A1_6 l1_6.length c1_6, .int .i64 a1_7, .slice A1_8 l1_8.length c1_8]) (t := 40) ?hr ?_; (case hd => rfl); (case hg => rfl); (case hr => first | (go_simp; done) | (go_simp; rfl)); intro gb177 hg w9 hbox hb; have n0_ := Aside0.mk (below_step bl hb); have n1_ := Aside0.mk (hbox); have n2_ := Aside0.mk ((by rw [hg]; exact (below_size bl) : w.heap.size ≤ gb177)); have n3_ := Aside0.mk ((by rw [hg]; exact (below_size bl) : w.heap.size ≤ gb177)); clear HB; have HB := n0_; have BK177 := n1_; have GW177 := n2_; have GE177 := n3_; clear n0_ n1_ n2_ n3_; clear hb hbox hg; obtain ⟨hcz10_0, hcz10_1, hcz10_2, hcz10_3, hcz10_4, hcz10_5, hcz10_6, hcz10_7, hcz10_8⟩ := cells9 BK177.out; have hfz10_0 := blk_frozen BK177.out 0; have hfz10_1 := blk_frozen BK177.out 1; have hfz10_2 := blk_frozen BK177.out 2; have hfz10_3 := blk_frozen BK177.out 3; have hfz10_4 := blk_frozen BK177.out 4; have hfz10_5 := blk_frozen BK177.out 5; have hfz10_6 := blk_frozen BK177.out 6; have hfz10_7 := blk_frozen BK177.out 7; have hfz10_8 := blk_frozen BK177.out 8) | ((with_reducible refine gate_callee (f := 21) rfl ?_); refine goesL_ (some 9) rfl rfl Try.func21 (by kernel_rfl) rfl #[.agg #[.int .i64 a1_0, .int .i64 a1_1, .slice A1_2 l1_2.length c1_2, .int .i64 a1_3, .int .i64 a1_4, .int .i64 a1_5, .slice A1_6 l1_6.length c1_6, .int .i64 a1_7, .slice A1_8 l1_8.length c1_8]] rfl mpq ?_; (with_reducible refine (wire_Check.calls k a1_0 a1_1 _ _ l1_2 a1_3 a1_4 a1_5 _ _ l1_6 a1_7 _ _ l1_8 t178 _ ?side1 ?side2 ?side3 ?side4 ?side5 ?side6 A3.out).mono ?_); (case side1 => exact cp ((Kd.C_below HR1_2.out HB.out))); (case side2 => exact HC1_2.out); (case side3 => exact cp ((Kd.C_below HR1_6.out HB.out))); (case side4 => exact HC1_6.out); (case side5 => exact cp ((Kd.C_below HR1_8.out HB.out))); (case side6 => exact HC1_8.out); rintro e w11 ⟨rfl, hb⟩; refine ⟨_, rfl, ?_⟩; have n0_ := Aside0.mk (blk_below (g := gb177) (o := .cells #[.int .i64 a1_0, .int .i64 a1_1, .slice A1_2 l1_2.length c1_2, .int .i64 a1_3, .int .i64 a1_4, .int .i64 a1_5, .slice A1_6 l1_6.length c1_6, .int .i64 a1_7, .slice A1_8 l1_8.length c1_8] 40 (0, 0)) bk hb); have n1_ := Aside0.mk (below_step bl hb); clear BK177; clear HB; have BK177 := n0_; have HB := n1_; clear n0_ n1_; (try clear hb); (try clear hb2); (try clear hk); (try clear hi); obtain ⟨hcz12_0, hcz12_1, hcz12_2, hcz12_3, hcz12_4, hcz12_5, hcz12_6, hcz12_7, hcz12_8⟩ := cells9 BK177.out; have hfz12_0 := blk_frozen BK177.out 0; have hfz12_1 := blk_frozen BK177.out 1; have hfz12_2 := blk_frozen BK177.out 2; have hfz12_3 := blk_frozen BK177.out 3; have hfz12_4 := blk_frozen BK177.out 4; have hfz12_5 := blk_frozen BK177.out 5; have hfz12_6 := blk_frozen BK177.out 6; have hfz12_7 := blk_frozen BK177.out 7; have hfz12_8 := blk_frozen BK177.out 8) | ((with_reducible refine gate_callee (f := 35) rfl ?_); refine goesL_ (some 15) rfl rfl Try.func35 (by kernel_rfl) rfl #[.int .i64 a1_0] rfl mpq ?_; (with_reducible refine (wire_uses.calls k a1_0 t179 _ A5.out).mono ?_); rintro e w' ⟨rfl, ⟨nd, rfl⟩⟩; refine ⟨_, rfl, ?_⟩))
 (try (rw [drewN_self w11]; generalize hq_ : World.drewN w11 _ = w11; have n0_ : Aside0 (w11.heap[gb177]? = some (.cells #[.int .i64 a1_0, .int .i64 a1_1, .slice A1_2 l1_2.length c1_2, .int .i64 a1_3, .int .i64 a1_4, .int .i64 a1_5, .slice A1_6 l1_6.length c1_6, .int .i64 a1_7, .slice A1_8 l1_8.length c1_8] 40 (0, 0))) := ⟨by rw [← hq_]; exact bk⟩; have n1_ : Aside0 (Below w.heap.size w w11) := ⟨by rw [← hq_]; exact bl⟩; clear BK177 HB hq_; have BK177 := n0_; have HB := n1_; clear n0_ n1_)); have n0_ := Aside0.mk (blk_drew BK177.out); have n1_ := Aside0.mk (below_drew1 HB.out); clear BK177; clear HB; have BK177 := n0_; have HB := n1_; clear n0_ n1_; refine start_ (n := 8) (S := fun w' => w'.cell? ⟨gb177, 0, none⟩ = some (.int .i64 a1_0) ∧ w'.cell? ⟨gb177, 1, none⟩ = some (.int .i64 a1_1) ∧ w'.cell? ⟨gb177, 2, none⟩ = some (.slice A1_2 l1_2.length c1_2) ∧ w'.cell? ⟨gb177, 3, none⟩ = some (.int .i64 a1_3) ∧ w'.cell? ⟨gb177, 4, none⟩ = some (.int .i64 a1_4) ∧ w'.cell? ⟨gb177, 5, none⟩ = some (.int .i64 a1_5) ∧ w'.cell? ⟨gb177, 6, none⟩ = some (.slice A1_6 l1_6.length c1_6) ∧ w'.cell? ⟨gb177, 7, none⟩ = some (.int .i64 a1_7) ∧ w'.cell? ⟨gb177, 8, none⟩ = some (.slice A1_8 l1_8.length c1_8)) (ds := []) #[false, false, false, false, false, false, false, false] (by kernel_rfl) rfl rfl ⟨(blk_cell BK177.out 0).trans rfl, (blk_cell BK177.out 1).trans rfl, (blk_cell BK177.out 2).trans rfl, (blk_cell BK177.out 3).trans rfl, (blk_cell BK177.out 4).trans rfl, (blk_cell BK177.out 5).trans rfl, (blk_cell BK177.out 6).trans rfl, (blk_cell BK177.out 7).trans rfl, (blk_cell BK177.out 8).trans rfl⟩ (fun hHeld => ?_); refine with_tabW wire_Put.tab5 wire_Put.bits5 (fun HT_ HW_ => ?_)
 generalize w11.drew = w13 at BK177 HB hHeld ⊢; refine pure_ (i := 0) (N := some 16) (v := ?_) (a' := ?_) (bs 8 1) rfl rfl (any_of HT_.out (by kernel_rfl)) (fun _ _ _ h => h) (Or.inl ⟨by rfl, ?_⟩) ?_ ?_; rotate_left
 · intro w'; go_simp; with_reducible rfl
 rotate_left
 · exact nrm
 refine pure_ (i := 2) (N := some 18) (v := ?_) (a' := ?_) (bs 8 5) rfl rfl (any_of HT_.out (by kernel_rfl)) (fun _ _ _ h => h) (Or.inl ⟨by rfl, ?_⟩) ?_ ?_; rotate_left
 · intro w'; go_simp; with_reducible rfl
 rotate_left
 · exact nrm
 refine take_ (i := 3) (N := some 19) (v := ?_) (a' := ?_) (bs 8 13) rfl rfl (take_ofW HT_.out HW_.out (by kernel_rfl)) (fun _ _ _ h => h) (Or.inl ⟨by rfl, ?_⟩) hHeld ?_ ?_; rotate_left
 · rintro w' ⟨s0, s1, s2, s3, s4, s5, s6, s7, s8⟩; go_simp; with_reducible rfl
 rotate_left
 · exact nrm
 refine pure_ (i := 4) (N := some 20) (v := ?_) (a' := ?_) (bs 8 29) rfl rfl (any_of HT_.out (by kernel_rfl)) (fun _ _ _ h => h) (Or.inl ⟨by rfl, ?_⟩) ?_ ?_; rotate_left
 · intro w'; go_simp; with_reducible rfl
 rotate_left
 · exact nrm
 refine join_ (σ := Value × Value) 2 (bs 8 63) (fun s_ => [(17, s_.1), (21, s_.2)]) (fun s_ w' => (w'.cell? ⟨gb177, 0, none⟩ = some (.int .i64 a1_0) ∧ w'.cell? ⟨gb177, 1, none⟩ = some (.int .i64 a1_1) ∧ w'.cell? ⟨gb177, 2, none⟩ = some (.slice A1_2 l1_2.length c1_2) ∧ w'.cell? ⟨gb177, 3, none⟩ = some (.int .i64 a1_3) ∧ w'.cell? ⟨gb177, 4, none⟩ = some (.int .i64 a1_4) ∧ w'.cell? ⟨gb177, 5, none⟩ = some (.int .i64 a1_5) ∧ w'.cell? ⟨gb177, 6, none⟩ = some (.slice A1_6 l1_6.length c1_6) ∧ w'.cell? ⟨gb177, 7, none⟩ = some (.int .i64 a1_7) ∧ w'.cell? ⟨gb177, 8, none⟩ = some (.slice A1_8 l1_8.length c1_8)) ∧ (Kd.R (Kd.int .u8) 5 w' w.heap.size (fun k_ => some k_ ≠ (s_.2 : Value).ownBlock) s_.1 t180) ∧ (Kd.R (Kd.int .u8) 5 w' w.heap.size (fun k_ => some k_ ≠ (s_.1 : Value).ownBlock) s_.2 y183) ∧ (w'.heap[gb177]? = some (.cells #[.int .i64 a1_0, .int .i64 a1_1, .slice A1_2 l1_2.length c1_2, .int .i64 a1_3, .int .i64 a1_4, .int .i64 a1_5, .slice A1_6 l1_6.length c1_6, .int .i64 a1_7, .slice A1_8 l1_8.length c1_8] 40 (0, 0))) ∧ (Below w.heap.size w w')) ?_ ?_
 rotate_left
 ·
  intro hCont; refine two_ (i := 1) (j := 5) (Ni := some 17) (Nj := some 21) (bs 8 31) (bs 8 61) rfl rfl rfl rfl (two_of HT_.out (by kernel_rfl)) (by decide) (by decide) (fun K hK => ?_) (fun K hK => ?_)
  ·
   skip; refine goes_ Try.func47 (by kernel_rfl) rfl #[.slice A0 l0.length c0] (by rfl) rfl rfl mpq ?_; with_reducible refine (slices_Clone_byte_byte.calls _ _ l0 t180 _ ?side1 ?side2 A6.out).mono ?_
   (case side1 => exact cp ((Kd.C_below HR0.out HB.out))); (case side2 => exact HC0.out); rintro e w14 ⟨v181, rfl, ho0, hb⟩; refine ⟨_, rfl, ?_⟩; have n0_ := Aside0.mk (Kd.R_lower ho0 (below_size bl)); have n1_ := Aside0.mk (blk_below (g := gb177) (o := .cells #[.int .i64 a1_0, .int .i64 a1_1, .slice A1_2 l1_2.length c1_2, .int .i64 a1_3, .int .i64 a1_4, .int .i64 a1_5, .slice A1_6 l1_6.length c1_6, .int .i64 a1_7, .slice A1_8 l1_8.length c1_8] 40 (0, 0)) bk hb); have n2_ := Aside0.mk (below_step bl hb); clear BK177; clear HB; have HO182 := n0_; have BK177 := n1_; have HB := n2_; clear n0_ n1_ n2_; (try clear hb); (try clear hb2); (try clear hk); (try clear hi); (try clear ho0); refine hK.out _ _ (cells9 BK177.out) (fun hHeld => ?_); clear hK K; refine norm_ (a' := ?_) ?_ ?_; rotate_left
   · show Act.put _ (some 17) _ = _; simp only [Act.put, List.setIfInBounds_toArray, List.set_cons_zero, List.set_cons_succ, i64_w, i32_w]; rfl
   refine one_ (i := 5) (N := some 21) (bs 8 63) rfl rfl (one_of HT_.out (by kernel_rfl)) (by decide) (fun K hK => ?_); refine Kd.R_lit_step (Kd.int .u8) _ 5 ?hg (N := 21) ?hd (xs := ([(a1_0) % 256] : List Int)) (inner := [.int .u8 ((a1_0) % 256)]) (ok := fun _ => True) (okp := fun _ => True) ?hr ?hp (fun _ hk => hk) trivial (Below.refl _ _) (Nat.le_refl _) (by simp) ?_; (case hd => rfl); (case hg => rfl); (case hr => first | (go_simp; done) | (go_simp; rfl)); (case hp => exact (Reps.one (show Kd.M (Kd.int .u8) _ _ _ ((a1_0) % 256) [.int .u8 ((a1_0) % 256)] from rfl) (Reps.none _ _))); intro v184 w15 ho16 hb hg_ hnew_; clear hg_ hnew_; (first | rw [← Ny183.out] at ho16 | (simp only [Int.reduceToNat] at ho16; rw [← Ny183.out] at ho16)); have n0_ := Aside0.mk (Kd.R_elder' (rp HO182.out) (Kd.R_base ho16) hb); have n1_ := Aside0.mk (Kd.R_lower (Kd.R_new' ho16 (Kd.R_lt (rp HO182.out))) (below_size bl)); have n2_ := Aside0.mk (blk_below (g := gb177) (o := .cells #[.int .i64 a1_0, .int .i64 a1_1, .slice A1_2 l1_2.length c1_2, .int .i64 a1_3, .int .i64 a1_4, .int .i64 a1_5, .slice A1_6 l1_6.length c1_6, .int .i64 a1_7, .slice A1_8 l1_8.length c1_8] 40 (0, 0)) bk hb); have n3_ := Aside0.mk (below_step bl hb); clear HO182; clear BK177; clear HB; have HO182 := n0_; have HO185 := n1_; have BK177 := n2_; have HB := n3_; clear n0_ n1_ n2_ n3_; clear hb ho16; refine hK.out _ _ (cells9 BK177.out) (fun hHeld => ?_); clear hK K; refine norm_ (a' := ?_) ?_ ?_; rotate_left
   · show Act.put _ (some 21) _ = _; simp only [Act.put, List.setIfInBounds_toArray, List.set_cons_zero, List.set_cons_succ, i64_w, i32_w]; rfl
   exact norm_ (by simp only [putAll, Act.put, List.setIfInBounds_toArray, List.set_cons_zero, List.set_cons_succ]) (hCont (v181, v184) _ ⟨hHeld, (rp (Kd.R_mono HO182.out (fun _ hk => hk.2))), (rp (Kd.R_mono HO185.out (fun _ hk => hk.2))), bk, bl⟩)
  ·
   skip; refine Kd.R_lit_step (Kd.int .u8) _ 5 ?hg (N := 21) ?hd (xs := ([(a1_0) % 256] : List Int)) (inner := [.int .u8 ((a1_0) % 256)]) (ok := fun _ => True) (okp := fun _ => True) ?hr ?hp (fun _ hk => hk) trivial (Below.refl _ _) (Nat.le_refl _) (by simp) ?_; (case hd => rfl); (case hg => rfl); (case hr => first | (go_simp; done) | (go_simp; rfl)); (case hp => exact (Reps.one (show Kd.M (Kd.int .u8) _ _ _ ((a1_0) % 256) [.int .u8 ((a1_0) % 256)] from rfl) (Reps.none _ _))); intro v184 w14 ho15 hb hg_ hnew_; clear hg_ hnew_; (first | rw [← Ny183.out] at ho15 | (simp only [Int.reduceToNat] at ho15; rw [← Ny183.out] at ho15)); have n0_ := Aside0.mk (Kd.R_lower ho15 (below_size bl)); have n1_ := Aside0.mk (blk_below (g := gb177) (o := .cells #[.int .i64 a1_0, .int .i64 a1_1, .slice A1_2 l1_2.length c1_2, .int .i64 a1_3, .int .i64 a1_4, .int .i64 a1_5, .slice A1_6 l1_6.length c1_6, .int .i64 a1_7, .slice A1_8 l1_8.length c1_8] 40 (0, 0)) bk hb); have n2_ := Aside0.mk (below_step bl hb); clear BK177; clear HB; have HO185 := n0_; have BK177 := n1_; have HB := n2_; clear n0_ n1_ n2_; clear hb ho15; refine hK.out _ _ (cells9 BK177.out) (fun hHeld => ?_); clear hK K; refine norm_ (a' := ?_) ?_ ?_; rotate_left
   · show Act.put _ (some 21) _ = _; simp only [Act.put, List.setIfInBounds_toArray, List.set_cons_zero, List.set_cons_succ, i64_w, i32_w]; rfl
   refine one_ (i := 1) (N := some 17) (bs 8 63) rfl rfl (one_of HT_.out (by kernel_rfl)) (by decide) (fun K hK => ?_); refine goes_ Try.func47 (by kernel_rfl) rfl #[.slice A0 l0.length c0] (by rfl) rfl rfl mpq ?_; with_reducible refine (slices_Clone_byte_byte.calls _ _ l0 t180 _ ?side1 ?side2 A6.out).mono ?_
   (case side1 => exact cp ((Kd.C_below HR0.out HB.out))); (case side2 => exact HC0.out); rintro e w16 ⟨v181, rfl, ho0, hb⟩; refine ⟨_, rfl, ?_⟩; have n0_ := Aside0.mk (Kd.R_elder' (rp HO185.out) (Kd.R_base ho0) hb); have n1_ := Aside0.mk (Kd.R_lower (Kd.R_new' ho0 (Kd.R_lt (rp HO185.out))) (below_size bl)); have n2_ := Aside0.mk (blk_below (g := gb177) (o := .cells #[.int .i64 a1_0, .int .i64 a1_1, .slice A1_2 l1_2.length c1_2, .int .i64 a1_3, .int .i64 a1_4, .int .i64 a1_5, .slice A1_6 l1_6.length c1_6, .int .i64 a1_7, .slice A1_8 l1_8.length c1_8] 40 (0, 0)) bk hb); have n3_ := Aside0.mk (below_step bl hb); clear HO185; clear BK177; clear HB; have HO185 := n0_; have HO182 := n1_; have BK177 := n2_; have HB := n3_; clear n0_ n1_ n2_ n3_; (try clear hb); (try clear hb2); (try clear hk); (try clear hi); (try clear ho0); refine hK.out _ _ (cells9 BK177.out) (fun hHeld => ?_); clear hK K; refine norm_ (a' := ?_) ?_ ?_; rotate_left
   · show Act.put _ (some 17) _ = _; simp only [Act.put, List.setIfInBounds_toArray, List.set_cons_zero, List.set_cons_succ, i64_w, i32_w]; rfl
   exact norm_ (by simp only [putAll, Act.put, List.setIfInBounds_toArray, List.set_cons_zero, List.set_cons_succ]) (hCont (v181, v184) _ ⟨hHeld, (rp (Kd.R_mono HO182.out (fun _ hk => hk.2))), (rp (Kd.R_mono HO185.out (fun _ hk => hk.2))), bk, bl⟩)
 rintro ⟨v181, v184⟩ w17 ⟨hS_, h0_, h1_, h2_, h3_⟩; have n0_ : Aside0 (Kd.R (Kd.int .u8) 5 w17 w.heap.size (fun k_ => some k_ ≠ (v184 : Value).ownBlock) v181 t180) := ⟨h0_⟩; have n1_ : Aside0 (Kd.R (Kd.int .u8) 5 w17 w.heap.size (fun k_ => some k_ ≠ (v181 : Value).ownBlock) v184 y183) := ⟨h1_⟩; have n2_ : Aside0 (w17.heap[gb177]? = some (.cells #[.int .i64 a1_0, .int .i64 a1_1, .slice A1_2 l1_2.length c1_2, .int .i64 a1_3, .int .i64 a1_4, .int .i64 a1_5, .slice A1_6 l1_6.length c1_6, .int .i64 a1_7, .slice A1_8 l1_8.length c1_8] 40 (0, 0))) := ⟨h2_⟩; have n3_ : Aside0 (Below w.heap.size w w17) := ⟨h3_⟩; clear BK177; clear HB; clear h0_ h1_ h2_ h3_; have HO182 := n0_; have HO185 := n1_; have BK177 := n2_; have HB := n3_; clear n0_ n1_ n2_ n3_; have hHeld : w17.cell? ⟨gb177, 0, none⟩ = some (.int .i64 a1_0) ∧ w17.cell? ⟨gb177, 1, none⟩ = some (.int .i64 a1_1) ∧ w17.cell? ⟨gb177, 2, none⟩ = some (.slice A1_2 l1_2.length c1_2) ∧ w17.cell? ⟨gb177, 3, none⟩ = some (.int .i64 a1_3) ∧ w17.cell? ⟨gb177, 4, none⟩ = some (.int .i64 a1_4) ∧ w17.cell? ⟨gb177, 5, none⟩ = some (.int .i64 a1_5) ∧ w17.cell? ⟨gb177, 6, none⟩ = some (.slice A1_6 l1_6.length c1_6) ∧ w17.cell? ⟨gb177, 7, none⟩ = some (.int .i64 a1_7) ∧ w17.cell? ⟨gb177, 8, none⟩ = some (.slice A1_8 l1_8.length c1_8) := hS_; obtain ⟨Ao19, co19, eo19⟩ := Kd.R_slice HO185.out; (first | subst eo19 | (injection eo19 with f1_ f2_ f3_; have f4_ := f1_.symm; have f5_ := f3_.symm; clear f1_ f2_ f3_; subst f4_; subst f5_)); refine norm_ (a' := ?_) ?_ ?_; rotate_left
 · simp only [putAll, Act.put, List.setIfInBounds_toArray, List.set_cons_zero, List.set_cons_succ]; rfl
 refine one_ (i := 6) (N := some 22) (bs 8 127) rfl rfl (one_of HT_.out (by kernel_rfl)) (by decide) (fun K hK => ?_); refine Kd.R_append_rows_step (Kd.int .u8) (w0 := w) w.heap.size (by rfl) (.tmp 17) (.tmp 21) 22 5 (.int .u8 0) 1 rfl Try.underlying22 info5 rfl (by decide) (by omega) v181 t180 y183 _ _ _ (fun k_ => some k_ ≠ (.slice Ao19 y183.length co19 : Value).ownBlock) (fun _ => False) rfl rfl ?aO ?aR (fun _ _ h => h) (fun _ h => h.elim) ?aF ?aB ?aS ?aL ?_
 (case aR => exact cp ((Kd.R_reads' HO185.out).2.2)); (case aB => exact bl); (case aF => exact (fun k_ hk => Kd.fresh' (Kd.R_lt (rp HO185.out)) k_ hk)); (case aO => exact (rp HO182.out)); (case aS => exact (below_size bl)); (case aL => have := LMc7.out; omega); intro v187 w18 ho hb hg hat; rw [← Ny186.out] at ho; have n0_ := Aside0.mk (blk_grown (g := gb177) (o := .cells #[.int .i64 a1_0, .int .i64 a1_1, .slice A1_2 l1_2.length c1_2, .int .i64 a1_3, .int .i64 a1_4, .int .i64 a1_5, .slice A1_6 l1_6.length c1_6, .int .i64 a1_7, .slice A1_8 l1_8.length c1_8] 40 (0, 0)) bk hg (Kd.R_ne HO182.out BK177.out (by decide))); have n1_ := Aside0.mk (Kd.R_after (ok := (fun _ => True)) (by (with_reducible repeat (first | apply Kd.R_alloc | apply Kd.R_drewN | apply Kd.R_drew)); exact Kd.R_mono HO185.out (fun _ hk => ⟨trivial, hk⟩)) hg hat); have n2_ := Aside0.mk (hb); have n3_ := Aside0.mk (ho); clear BK177; clear HO185; clear HB; clear HO182; have BK177 := n0_; have HO185 := n1_; have HB := n2_; have HO188 := n3_; clear n0_ n1_ n2_ n3_; clear ho hb hg hat; refine hK.out _ _ (cells9 BK177.out) (fun hHeld => ?_); clear hK K; refine norm_ (a' := ?_) ?_ ?_; rotate_left
 · show Act.put _ (some 22) _ = _; simp only [Act.put, List.setIfInBounds_toArray, List.set_cons_zero, List.set_cons_succ, i64_w, i32_w]; rfl
 refine pure_ (i := 7) (N := some 0) (v := ?_) (a' := ?_) (bs 8 255) rfl rfl (any_of HT_.out (by kernel_rfl)) (fun _ _ _ h => h) (Or.inl ⟨by rfl, ?_⟩) ?_ ?_; rotate_left
 · intro w'; go_simp; with_reducible rfl
 rotate_left
 · exact nrm
 refine done_ (done_of HT_.out (by kernel_rfl)) ?_; go_upto_if 25 with (fail)
 go_cut [0] (fun v0 wc => ∃ (kq : Nat) (x0_7 : List Int), Aside0 (wire_Put.j0 kq x0_7 t179 a1_0 a1_1 l1_2 a1_3 a1_4 a1_5 l1_6 a1_7 l1_8 = some (r1, r2)) ∧ Aside0 (kq ≤ k) ∧ Aside0 (Kd.R (Kd.int .u8) 5 wc w.heap.size (fun _ => True) v0 x0_7) ∧ Aside0 (wc.heap[gb177]? = some (.cells #[.int .i64 a1_0, .int .i64 a1_1, (.slice A1_2 l1_2.length c1_2), .int .i64 a1_3, .int .i64 a1_4, .int .i64 a1_5, (.slice A1_6 l1_6.length c1_6), .int .i64 a1_7, (.slice A1_8 l1_8.length c1_8)] 40 (0, 0))) ∧ Aside0 (Below w.heap.size w wc))
 case first =>
  have H := HC8.out; clear HC8; by_cases c20 : (Go.bits .and .i64 t179 1) > 0
  rotate_left
  ·
   rw [if_neg c20] at H; have c20b0 : decide (0 < (Go.bits .and .i64 t179 1)) = false := decide_eq_false c20; clear c20; (first | rw [c20b0] | (simp only [i64_w, i32_w]; rw [c20b0]) | skip); have H' := Aside0.mk H; clear H; go_wp2
   go_meet
   case rel => exact ⟨_, (y186), H', ⟨by first | omega | exact Nat.le_refl _⟩, ⟨by (with_reducible repeat (first | apply Kd.R_alloc | apply Kd.R_drewN | apply Kd.R_drew)); exact Kd.R_mono HO188.out (fun _ hk => trivial)⟩, ⟨bp BK177.out⟩, ⟨bl⟩⟩
  rw [if_pos c20] at H; have c20b0 : decide (0 < (Go.bits .and .i64 t179 1)) = true := decide_eq_true c20; clear c20; (first | rw [c20b0] | (simp only [i64_w, i32_w]; rw [c20b0]) | skip); replace H := Option.bind_eq_some_iff.mp H; obtain ⟨t189, A210, H⟩ := H; replace H : (wire_Put.j0 k t189 t179 a1_0 a1_1 l1_2 a1_3 a1_4 a1_5 l1_6 a1_7 l1_8) = some (r1, r2) := H; have A21 := Aside0.mk A210; clear A210; have H' := Aside0.mk H; clear H; obtain ⟨hcz22_0, hcz22_1, hcz22_2, hcz22_3, hcz22_4, hcz22_5, hcz22_6, hcz22_7, hcz22_8⟩ := cells9 BK177.out; obtain ⟨hfz22_0, hfz22_1, hfz22_2, hfz22_3, hfz22_4, hfz22_5, hfz22_6, hfz22_7, hfz22_8⟩ := frz9 BK177.out; obtain ⟨Ao23, co23, eo23⟩ := Kd.R_slice HO188.out; subst eo23; go_wp2_with (first | ((with_reducible refine gate_callee (f := 48) rfl ?_); refine goesL_ (some 29) rfl rfl Try.func48 (by kernel_rfl) rfl #[.slice Ao23 y186.length co23, .int .i64 a1_1] rfl mpq ?_; (with_reducible refine (num_PutInt.calls k _ _ y186 a1_1 t189 _ ?side1 ?side2 A21.out).mono ?_); (case side1 => exact cp ((Kd.R_reads' HO188.out).2.2)); (case side2 => exact (Kd.R_reads' HO188.out).2.1); rintro e w24 ⟨v190, rfl, ho0, hb⟩; refine ⟨_, rfl, ?_⟩; have n0_ := Aside0.mk (Kd.R_elder' (rp HO185.out) (Kd.R_base ho0) hb); have n1_ := Aside0.mk (Kd.R_elder' (rp HO188.out) (Kd.R_base ho0) hb); have n2_ := Aside0.mk (Kd.R_lower (Kd.R_new' (Kd.R_new' ho0 (Kd.R_lt (rp HO185.out))) (Kd.R_lt (rp HO188.out))) (below_size bl)); have n3_ := Aside0.mk (blk_below (g := gb177) (o := .cells #[.int .i64 a1_0, .int .i64 a1_1, .slice A1_2 l1_2.length c1_2, .int .i64 a1_3, .int .i64 a1_4, .int .i64 a1_5, .slice A1_6 l1_6.length c1_6, .int .i64 a1_7, .slice A1_8 l1_8.length c1_8] 40 (0, 0)) bk hb); have n4_ := Aside0.mk (below_step bl hb); clear HO185; clear HO188; clear BK177; clear HB; have HO185 := n0_; have HO188 := n1_; have HO191 := n2_; have BK177 := n3_; have HB := n4_; clear n0_ n1_ n2_ n3_ n4_; (try clear hb); (try clear hb2); (try clear hk); (try clear hi); (try clear ho0)))
  go_meet
  case rel => exact ⟨_, (t189), H', ⟨by first | omega | exact Nat.le_refl _⟩, ⟨by (with_reducible repeat (first | apply Kd.R_alloc | apply Kd.R_drewN | apply Kd.R_drew)); exact Kd.R_mono HO191.out (fun _ hk => trivial)⟩, ⟨bp BK177.out⟩, ⟨bl⟩⟩
 clear HC8; (try clear c4); (try clear c4b0); (try clear c4b1); (try clear c7); (try clear hcz10_0); (try clear hcz10_1); (try clear hcz10_2); (try clear hcz10_3); (try clear hcz10_4); (try clear hcz10_5); (try clear hcz10_6); (try clear hcz10_7); (try clear hcz10_8); (try clear hcz12_0); (try clear hcz12_1); (try clear hcz12_2); (try clear hcz12_3); (try clear hcz12_4); (try clear hcz12_5); (try clear hcz12_6); (try clear hcz12_7); (try clear hcz12_8); (try clear hfz10_0); (try clear hfz10_1); (try clear hfz10_2); (try clear hfz10_3); (try clear hfz10_4); (try clear hfz10_5); (try clear hfz10_6); (try clear hfz10_7); (try clear hfz10_8); (try clear hfz12_0); (try clear hfz12_1); (try clear hfz12_2); (try clear hfz12_3); (try clear hfz12_4); (try clear hfz12_5); (try clear hfz12_6); (try clear hfz12_7); (try clear hfz12_8); obtain ⟨kq, x0_7, HA, HJ7, HO_0, BK177, HB⟩ := hcut; cases kq with
 | zero => exact absurd HA.out (by simp [wire_Put.j0])
 | succ kj7 =>
  have H := HA.out; clear HA; simp only [wire_Put.j0] at H; have HC25 := Aside0.mk H; clear H; go_upto_if 32 with (fail)
  go_cut [0] (fun v0 wc => ∃ (kq : Nat) (x0_24 : List Int), Aside0 (wire_Put.j1 kq x0_24 t179 a1_0 a1_1 l1_2 a1_3 a1_4 a1_5 l1_6 a1_7 l1_8 = some (r1, r2)) ∧ Aside0 (kq ≤ kj7) ∧ Aside0 (Kd.R (Kd.int .u8) 5 wc w.heap.size (fun _ => True) v0 x0_24) ∧ Aside0 (wc.heap[gb177]? = some (.cells #[.int .i64 a1_0, .int .i64 a1_1, (.slice A1_2 l1_2.length c1_2), .int .i64 a1_3, .int .i64 a1_4, .int .i64 a1_5, (.slice A1_6 l1_6.length c1_6), .int .i64 a1_7, (.slice A1_8 l1_8.length c1_8)] 40 (0, 0))) ∧ Aside0 (Below w.heap.size w wc))
  case first =>
   have H := HC25.out; clear HC25; by_cases c26 : (Go.bits .and .i64 t179 2) > 0
   rotate_left
   ·
    rw [if_neg c26] at H; have c26b0 : decide (0 < (Go.bits .and .i64 t179 2)) = false := decide_eq_false c26; clear c26; (first | rw [c26b0] | (simp only [i64_w, i32_w]; rw [c26b0]) | skip); have H' := Aside0.mk H; clear H; go_wp2
    go_meet
    case rel => exact ⟨_, (x0_7), H', ⟨by have := HJ7.out; first | omega | exact Nat.le_refl _⟩, ⟨rp HO_0.out⟩, ⟨bp BK177.out⟩, ⟨bl⟩⟩
   rw [if_pos c26] at H; have c26b0 : decide (0 < (Go.bits .and .i64 t179 2)) = true := decide_eq_true c26; clear c26; (first | rw [c26b0] | (simp only [i64_w, i32_w]; rw [c26b0]) | skip); replace H := Option.bind_eq_some_iff.mp H; obtain ⟨t192, A270, H⟩ := H; replace H : (wire_Put.j1 kj7 t192 t179 a1_0 a1_1 l1_2 a1_3 a1_4 a1_5 l1_6 a1_7 l1_8) = some (r1, r2) := H; have A27 := Aside0.mk A270; clear A270; have H' := Aside0.mk H; clear H; obtain ⟨hcz28_0, hcz28_1, hcz28_2, hcz28_3, hcz28_4, hcz28_5, hcz28_6, hcz28_7, hcz28_8⟩ := cells9 BK177.out; obtain ⟨hfz28_0, hfz28_1, hfz28_2, hfz28_3, hfz28_4, hfz28_5, hfz28_6, hfz28_7, hfz28_8⟩ := frz9 BK177.out; obtain ⟨Ao29, co29, eo29⟩ := Kd.R_slice HO_0.out; subst eo29; go_wp2_with (first | ((with_reducible refine gate_callee (f := 48) rfl ?_); refine goesL_ (some 36) rfl rfl Try.func48 (by kernel_rfl) rfl #[.slice Ao29 x0_7.length co29, .int .i64 a1_7] rfl mpq ?_; (with_reducible refine (num_PutInt.calls kj7 _ _ x0_7 a1_7 t192 _ ?side1 ?side2 A27.out).mono ?_); (case side1 => exact cp ((Kd.R_reads' HO_0.out).2.2)); (case side2 => exact (Kd.R_reads' HO_0.out).2.1); rintro e w30 ⟨v193, rfl, ho0, hb⟩; refine ⟨_, rfl, ?_⟩; have n0_ := Aside0.mk (Kd.R_elder' (rp HO_0.out) (Kd.R_base ho0) hb); have n1_ := Aside0.mk (Kd.R_lower (Kd.R_new' ho0 (Kd.R_lt (rp HO_0.out))) (below_size bl)); have n2_ := Aside0.mk (blk_below (g := gb177) (o := .cells #[.int .i64 a1_0, .int .i64 a1_1, .slice A1_2 l1_2.length c1_2, .int .i64 a1_3, .int .i64 a1_4, .int .i64 a1_5, .slice A1_6 l1_6.length c1_6, .int .i64 a1_7, .slice A1_8 l1_8.length c1_8] 40 (0, 0)) bk hb); have n3_ := Aside0.mk (below_step bl hb); clear HO_0; clear BK177; clear HB; have HO_0 := n0_; have HO194 := n1_; have BK177 := n2_; have HB := n3_; clear n0_ n1_ n2_ n3_; (try clear hb); (try clear hb2); (try clear hk); (try clear hi); (try clear ho0)))
   go_meet
   case rel => exact ⟨_, (t192), H', ⟨by have := HJ7.out; first | omega | exact Nat.le_refl _⟩, ⟨by (with_reducible repeat (first | apply Kd.R_alloc | apply Kd.R_drewN | apply Kd.R_drew)); exact Kd.R_mono HO194.out (fun _ hk => trivial)⟩, ⟨bp BK177.out⟩, ⟨bl⟩⟩
  clear HC25; (try clear c4); (try clear c4b0); (try clear c4b1); (try clear c7); (try clear hcz10_0); (try clear hcz10_1); (try clear hcz10_2); (try clear hcz10_3); (try clear hcz10_4); (try clear hcz10_5); (try clear hcz10_6); (try clear hcz10_7); (try clear hcz10_8); (try clear hcz12_0); (try clear hcz12_1); (try clear hcz12_2); (try clear hcz12_3); (try clear hcz12_4); (try clear hcz12_5); (try clear hcz12_6); (try clear hcz12_7); (try clear hcz12_8); (try clear hfz10_0); (try clear hfz10_1); (try clear hfz10_2); (try clear hfz10_3); (try clear hfz10_4); (try clear hfz10_5); (try clear hfz10_6); (try clear hfz10_7); (try clear hfz10_8); (try clear hfz12_0); (try clear hfz12_1); (try clear hfz12_2); (try clear hfz12_3); (try clear hfz12_4); (try clear hfz12_5); (try clear hfz12_6); (try clear hfz12_7); (try clear hfz12_8); obtain ⟨kq, x0_24, HA, HJ24, HO_0, BK177, HB⟩ := hcut; cases kq with
  | zero => exact absurd HA.out (by simp [wire_Put.j1])
  | succ kj24 =>
   have H := HA.out; clear HA; simp only [wire_Put.j1] at H; have HC31 := Aside0.mk H; clear H; go_upto_if 39 with (fail)
   go_cut [0] (fun v0 wc => ∃ (kq : Nat) (x0_30 : List Int), Aside0 (wire_Put.j2 kq x0_30 t179 a1_0 a1_1 l1_2 a1_3 a1_4 a1_5 l1_6 a1_7 l1_8 = some (r1, r2)) ∧ Aside0 (kq ≤ kj24) ∧ Aside0 (Kd.R (Kd.int .u8) 5 wc w.heap.size (fun _ => True) v0 x0_30) ∧ Aside0 (wc.heap[gb177]? = some (.cells #[.int .i64 a1_0, .int .i64 a1_1, (.slice A1_2 l1_2.length c1_2), .int .i64 a1_3, .int .i64 a1_4, .int .i64 a1_5, (.slice A1_6 l1_6.length c1_6), .int .i64 a1_7, (.slice A1_8 l1_8.length c1_8)] 40 (0, 0))) ∧ Aside0 (Below w.heap.size w wc))
   case first =>
    have H := HC31.out; clear HC31; by_cases c32 : (Go.bits .and .i64 t179 4) > 0
    rotate_left
    ·
     rw [if_neg c32] at H; have c32b0 : decide (0 < (Go.bits .and .i64 t179 4)) = false := decide_eq_false c32; clear c32; (first | rw [c32b0] | (simp only [i64_w, i32_w]; rw [c32b0]) | skip); have H' := Aside0.mk H; clear H; go_wp2
     go_meet
     case rel => exact ⟨_, (x0_24), H', ⟨by have := HJ7.out; have := HJ24.out; first | omega | exact Nat.le_refl _⟩, ⟨rp HO_0.out⟩, ⟨bp BK177.out⟩, ⟨bl⟩⟩
    rw [if_pos c32] at H; have c32b0 : decide (0 < (Go.bits .and .i64 t179 4)) = true := decide_eq_true c32; clear c32; (first | rw [c32b0] | (simp only [i64_w, i32_w]; rw [c32b0]) | skip); replace H := Option.bind_eq_some_iff.mp H; obtain ⟨t195, A330, H⟩ := H; replace H : (wire_Put.j2 kj24 t195 t179 a1_0 a1_1 l1_2 a1_3 a1_4 a1_5 l1_6 a1_7 l1_8) = some (r1, r2) := H; have A33 := Aside0.mk A330; clear A330; have H' := Aside0.mk H; clear H; obtain ⟨hcz34_0, hcz34_1, hcz34_2, hcz34_3, hcz34_4, hcz34_5, hcz34_6, hcz34_7, hcz34_8⟩ := cells9 BK177.out; obtain ⟨hfz34_0, hfz34_1, hfz34_2, hfz34_3, hfz34_4, hfz34_5, hfz34_6, hfz34_7, hfz34_8⟩ := frz9 BK177.out; have hcv35 := Kd.C_string (P := Try.prog) (A := A1_8) (c := c1_8) Try.underlying22 Try.underlying5 Try.underlying9 (Kd.C_below HR1_8.out HB.out); have hcv35d := fun n_ : Nat => Kd.C_string (P := Try.prog) (A := A1_8) (c := c1_8) Try.underlying22 Try.underlying5 Try.underlying9 (Kd.C_drewN ((Kd.C_below HR1_8.out HB.out)) n_)
    obtain ⟨Ao36, co36, eo36⟩ := Kd.R_slice HO_0.out; subst eo36; go_wp2_with (first | ((with_reducible refine gate_callee (f := 49) rfl ?_); refine goesL_ (some 44) rfl rfl Try.func49 (by kernel_rfl) rfl #[.slice Ao36 x0_24.length co36, .string (strOfNums l1_8)] rfl mpq ?_; (with_reducible refine (num_PutText.calls kj24 _ _ x0_24 (strOfNums l1_8) t195 _ ?side1 ?side2 A33.out).mono ?_); (case side1 => exact cp ((Kd.R_reads' HO_0.out).2.2)); (case side2 => exact (Kd.R_reads' HO_0.out).2.1); rintro e w37 ⟨v196, rfl, ho0, hb⟩; refine ⟨_, rfl, ?_⟩; have n0_ := Aside0.mk (Kd.R_elder' (rp HO_0.out) (Kd.R_base ho0) hb); have n1_ := Aside0.mk (Kd.R_lower (Kd.R_new' ho0 (Kd.R_lt (rp HO_0.out))) (below_size bl)); have n2_ := Aside0.mk (blk_below (g := gb177) (o := .cells #[.int .i64 a1_0, .int .i64 a1_1, .slice A1_2 l1_2.length c1_2, .int .i64 a1_3, .int .i64 a1_4, .int .i64 a1_5, .slice A1_6 l1_6.length c1_6, .int .i64 a1_7, .slice A1_8 l1_8.length c1_8] 40 (0, 0)) bk hb); have n3_ := Aside0.mk (below_step bl hb); clear HO_0; clear BK177; clear HB; have HO_0 := n0_; have HO197 := n1_; have BK177 := n2_; have HB := n3_; clear n0_ n1_ n2_ n3_; (try clear hb); (try clear hb2); (try clear hk); (try clear hi); (try clear ho0)))
    go_meet
    case rel => exact ⟨_, (t195), H', ⟨by have := HJ7.out; have := HJ24.out; first | omega | exact Nat.le_refl _⟩, ⟨by (with_reducible repeat (first | apply Kd.R_alloc | apply Kd.R_drewN | apply Kd.R_drew)); exact Kd.R_mono HO197.out (fun _ hk => trivial)⟩, ⟨bp BK177.out⟩, ⟨bl⟩⟩
   clear HC31; (try clear c4); (try clear c4b0); (try clear c4b1); (try clear c7); (try clear hcz10_0); (try clear hcz10_1); (try clear hcz10_2); (try clear hcz10_3); (try clear hcz10_4); (try clear hcz10_5); (try clear hcz10_6); (try clear hcz10_7); (try clear hcz10_8); (try clear hcz12_0); (try clear hcz12_1); (try clear hcz12_2); (try clear hcz12_3); (try clear hcz12_4); (try clear hcz12_5); (try clear hcz12_6); (try clear hcz12_7); (try clear hcz12_8); (try clear hfz10_0); (try clear hfz10_1); (try clear hfz10_2); (try clear hfz10_3); (try clear hfz10_4); (try clear hfz10_5); (try clear hfz10_6); (try clear hfz10_7); (try clear hfz10_8); (try clear hfz12_0); (try clear hfz12_1); (try clear hfz12_2); (try clear hfz12_3); (try clear hfz12_4); (try clear hfz12_5); (try clear hfz12_6); (try clear hfz12_7); (try clear hfz12_8); obtain ⟨kq, x0_30, HA, HJ30, HO_0, BK177, HB⟩ := hcut; cases kq with
   | zero => exact absurd HA.out (by simp [wire_Put.j2])
   | succ kj30 =>
    have H := HA.out; clear HA; simp only [wire_Put.j2] at H; have HC38 := Aside0.mk H; clear H; go_upto_if 47 with (fail)
    go_cut [0] (fun v0 wc => ∃ (kq : Nat) (x0_37 : List Int), Aside0 (wire_Put.j3 kq x0_37 t179 a1_0 a1_1 l1_2 a1_3 a1_4 a1_5 l1_6 a1_7 l1_8 = some (r1, r2)) ∧ Aside0 (kq ≤ kj30) ∧ Aside0 (Kd.R (Kd.int .u8) 5 wc w.heap.size (fun _ => True) v0 x0_37) ∧ Aside0 (wc.heap[gb177]? = some (.cells #[.int .i64 a1_0, .int .i64 a1_1, (.slice A1_2 l1_2.length c1_2), .int .i64 a1_3, .int .i64 a1_4, .int .i64 a1_5, (.slice A1_6 l1_6.length c1_6), .int .i64 a1_7, (.slice A1_8 l1_8.length c1_8)] 40 (0, 0))) ∧ Aside0 (Below w.heap.size w wc))
    case first =>
     have H := HC38.out; clear HC38; by_cases c39 : (Go.bits .and .i64 t179 8) > 0
     rotate_left
     ·
      rw [if_neg c39] at H; have c39b0 : decide (0 < (Go.bits .and .i64 t179 8)) = false := decide_eq_false c39; clear c39; (first | rw [c39b0] | (simp only [i64_w, i32_w]; rw [c39b0]) | skip); have H' := Aside0.mk H; clear H; go_wp2
      go_meet
      case rel => exact ⟨_, (x0_30), H', ⟨by have := HJ7.out; have := HJ24.out; have := HJ30.out; first | omega | exact Nat.le_refl _⟩, ⟨rp HO_0.out⟩, ⟨bp BK177.out⟩, ⟨bl⟩⟩
     rw [if_pos c39] at H; have c39b0 : decide (0 < (Go.bits .and .i64 t179 8)) = true := decide_eq_true c39; clear c39; (first | rw [c39b0] | (simp only [i64_w, i32_w]; rw [c39b0]) | skip); replace H := Option.bind_eq_some_iff.mp H; obtain ⟨⟨t198, t199⟩, A400, H⟩ := H; replace H : ((wire_putTime.f kj30 t198 a1_3 a1_4).bind fun t202 => ((num_PutInt.f kj30 t202 a1_5).bind fun t205 => (wire_Put.j3 kj30 t205 t179 a1_0 a1_1 l1_2 a1_3 a1_4 a1_5 l1_6 a1_7 l1_8))) = some (r1, r2) := H; have A40 := Aside0.mk A400; clear A400; replace H := Option.bind_eq_some_iff.mp H; obtain ⟨t202, A410, H⟩ := H; replace H : ((num_PutInt.f kj30 t202 a1_5).bind fun t205 => (wire_Put.j3 kj30 t205 t179 a1_0 a1_1 l1_2 a1_3 a1_4 a1_5 l1_6 a1_7 l1_8)) = some (r1, r2) := H; have A41 := Aside0.mk A410; clear A410; replace H := Option.bind_eq_some_iff.mp H; obtain ⟨t205, A420, H⟩ := H; replace H : (wire_Put.j3 kj30 t205 t179 a1_0 a1_1 l1_2 a1_3 a1_4 a1_5 l1_6 a1_7 l1_8) = some (r1, r2) := H; have A42 := Aside0.mk A420; clear A420; have H' := Aside0.mk H; clear H; obtain ⟨hcz43_0, hcz43_1, hcz43_2, hcz43_3, hcz43_4, hcz43_5, hcz43_6, hcz43_7, hcz43_8⟩ := cells9 BK177.out; obtain ⟨hfz43_0, hfz43_1, hfz43_2, hfz43_3, hfz43_4, hfz43_5, hfz43_6, hfz43_7, hfz43_8⟩ := frz9 BK177.out; obtain ⟨Ao44, co44, eo44⟩ := Kd.R_slice HO_0.out; subst eo44; try go_wp2_with (first | ((with_reducible refine gate_callee (f := 50) rfl ?_); refine goesL_ (some 53) rfl rfl Try.func50 (by kernel_rfl) rfl #[.slice Ao44 x0_30.length co44, .slice A1_2 l1_2.length c1_2] rfl mpq ?_; (with_reducible refine (row_Put.calls kj30 _ _ x0_30 _ _ l1_2 t198 t199 _ ?side1 ?side2 ?side3 ?side4 A40.out).mono ?_); (case side1 => exact cp ((Kd.R_reads' HO_0.out).2.2)); (case side2 => exact (Kd.R_reads' HO_0.out).2.1); (case side3 => exact cp ((Kd.C_below HR1_2.out HB.out))); (case side4 => exact HC1_2.out); rintro e w45 ⟨v200, rfl, ho0, hb⟩; refine ⟨_, rfl, ?_⟩; have n0_ := Aside0.mk (Kd.R_elder' (rp HO_0.out) (Kd.R_base ho0) hb); have n1_ := Aside0.mk (Kd.R_lower (Kd.R_new' ho0 (Kd.R_lt (rp HO_0.out))) (below_size bl)); have n2_ := Aside0.mk (blk_below (g := gb177) (o := .cells #[.int .i64 a1_0, .int .i64 a1_1, .slice A1_2 l1_2.length c1_2, .int .i64 a1_3, .int .i64 a1_4, .int .i64 a1_5, .slice A1_6 l1_6.length c1_6, .int .i64 a1_7, .slice A1_8 l1_8.length c1_8] 40 (0, 0)) bk hb); have n3_ := Aside0.mk (below_step bl hb); clear HO_0; clear BK177; clear HB; have HO_0 := n0_; have HO201 := n1_; have BK177 := n2_; have HB := n3_; clear n0_ n1_ n2_ n3_; (try clear hb); (try clear hb2); (try clear hk); (try clear hi); (try clear ho0)))
     have n0_ := Aside0.mk (Kd.R_drew HO_0.out); have n1_ := Aside0.mk (Kd.R_drew HO201.out); have n2_ := Aside0.mk (blk_drew BK177.out); have n3_ := Aside0.mk (below_drew1 HB.out); clear HO_0; clear HO201; clear BK177; clear HB; have HO_0 := n0_; have HO201 := n1_; have BK177 := n2_; have HB := n3_; clear n0_ n1_ n2_ n3_; obtain ⟨Ao47, co47, eo47⟩ := Kd.R_slice HO201.out; (first | subst eo47 | (injection eo47 with f1_ f2_ f3_; have f4_ := f1_.symm; have f5_ := f3_.symm; clear f1_ f2_ f3_; subst f4_; subst f5_)); refine start_ (n := 10) (S := fun w' => w'.cell? ⟨gb177, 0, none⟩ = some (.int .i64 a1_0) ∧ w'.cell? ⟨gb177, 1, none⟩ = some (.int .i64 a1_1) ∧ w'.cell? ⟨gb177, 2, none⟩ = some (.slice A1_2 l1_2.length c1_2) ∧ w'.cell? ⟨gb177, 3, none⟩ = some (.int .i64 a1_3) ∧ w'.cell? ⟨gb177, 4, none⟩ = some (.int .i64 a1_4) ∧ w'.cell? ⟨gb177, 5, none⟩ = some (.int .i64 a1_5) ∧ w'.cell? ⟨gb177, 6, none⟩ = some (.slice A1_6 l1_6.length c1_6) ∧ w'.cell? ⟨gb177, 7, none⟩ = some (.int .i64 a1_7) ∧ w'.cell? ⟨gb177, 8, none⟩ = some (.slice A1_8 l1_8.length c1_8)) (ds := []) #[false, false, false, false, false, false, false, false, false, false] (by kernel_rfl) rfl rfl ⟨(blk_cell BK177.out 0).trans rfl, (blk_cell BK177.out 1).trans rfl, (blk_cell BK177.out 2).trans rfl, (blk_cell BK177.out 3).trans rfl, (blk_cell BK177.out 4).trans rfl, (blk_cell BK177.out 5).trans rfl, (blk_cell BK177.out 6).trans rfl, (blk_cell BK177.out 7).trans rfl, (blk_cell BK177.out 8).trans rfl⟩ (fun hHeld => ?_); refine with_tabW wire_Put.tab14 wire_Put.bits14 (fun HT_ HW_ => ?_)
     generalize w45.drew = w46 at HO_0 HO201 BK177 HB hHeld ⊢; refine pure_ (i := 0) (N := some 56) (v := ?_) (a' := ?_) (bs 10 1) rfl rfl (any_of HT_.out (by kernel_rfl)) (fun _ _ _ h => h) (Or.inl ⟨by rfl, ?_⟩) ?_ ?_; rotate_left
     · intro w'; go_simp; with_reducible rfl
     rotate_left
     · exact nrm
     refine pure_ (i := 1) (N := some 57) (v := ?_) (a' := ?_) (bs 10 3) rfl rfl (any_of HT_.out (by kernel_rfl)) (fun _ _ _ h => h) (Or.inl ⟨by rfl, ?_⟩) ?_ ?_; rotate_left
     · intro w'; go_simp; with_reducible rfl
     rotate_left
     · exact nrm
     refine pure_ (i := 2) (N := some 58) (v := ?_) (a' := ?_) (bs 10 7) rfl rfl (any_of HT_.out (by kernel_rfl)) (fun _ _ _ h => h) (Or.inl ⟨by rfl, ?_⟩) ?_ ?_; rotate_left
     · intro w'; go_simp; with_reducible rfl
     rotate_left
     · exact nrm
     refine pure_ (i := 5) (N := some 61) (v := ?_) (a' := ?_) (bs 10 39) rfl rfl (any_of HT_.out (by kernel_rfl)) (fun _ _ _ h => h) (Or.inl ⟨by rfl, ?_⟩) ?_ ?_; rotate_left
     · intro w'; go_simp; with_reducible rfl
     rotate_left
     · exact nrm
     refine pure_ (i := 6) (N := some 62) (v := ?_) (a' := ?_) (bs 10 103) rfl rfl (any_of HT_.out (by kernel_rfl)) (fun _ _ _ h => h) (Or.inl ⟨by rfl, ?_⟩) ?_ ?_; rotate_left
     · intro w'; go_simp; with_reducible rfl
     rotate_left
     · exact nrm
     refine take_ (i := 3) (N := some 59) (v := ?_) (a' := ?_) (bs 10 111) rfl rfl (take_ofW HT_.out HW_.out (by kernel_rfl)) (fun _ _ _ h => h) (Or.inl ⟨by rfl, ?_⟩) hHeld ?_ ?_; rotate_left
     · rintro w' ⟨s0, s1, s2, s3, s4, s5, s6, s7, s8⟩; go_simp; with_reducible rfl
     rotate_left
     · exact nrm
     refine take_ (i := 7) (N := some 63) (v := ?_) (a' := ?_) (bs 10 239) rfl rfl (take_ofW HT_.out HW_.out (by kernel_rfl)) (fun _ _ _ h => h) (Or.inl ⟨by rfl, ?_⟩) hHeld ?_ ?_; rotate_left
     · rintro w' ⟨s0, s1, s2, s3, s4, s5, s6, s7, s8⟩; go_simp; with_reducible rfl
     rotate_left
     · exact nrm
     refine one_ (i := 4) (N := some 60) (bs 10 255) rfl rfl (one_of HT_.out (by kernel_rfl)) (by decide) (fun K hK => ?_); refine goes_ Try.func30 (by kernel_rfl) rfl #[.slice Ao47 t198.length co47, .agg #[.int .i64 a1_3, .int .i64 a1_4]] (by rfl) rfl rfl mpq ?_; with_reducible refine (wire_putTime.calls kj30 _ _ t198 a1_3 a1_4 t202 _ ?side1 ?side2 A41.out).mono ?_
     (case side1 => exact cp ((Kd.R_reads' HO201.out).2.2)); (case side2 => exact (Kd.R_reads' HO201.out).2.1); rintro e w48 ⟨v203, rfl, ho0, hb⟩; refine ⟨_, rfl, ?_⟩; have n0_ := Aside0.mk (Kd.R_elder' (rp HO_0.out) (Kd.R_base ho0) hb); have n1_ := Aside0.mk (Kd.R_elder' (rp HO201.out) (Kd.R_base ho0) hb); have n2_ := Aside0.mk (Kd.R_lower (Kd.R_new' (Kd.R_new' ho0 (Kd.R_lt (rp HO_0.out))) (Kd.R_lt (rp HO201.out))) (below_size bl)); have n3_ := Aside0.mk (blk_below (g := gb177) (o := .cells #[.int .i64 a1_0, .int .i64 a1_1, .slice A1_2 l1_2.length c1_2, .int .i64 a1_3, .int .i64 a1_4, .int .i64 a1_5, .slice A1_6 l1_6.length c1_6, .int .i64 a1_7, .slice A1_8 l1_8.length c1_8] 40 (0, 0)) bk hb); have n4_ := Aside0.mk (below_step bl hb); clear HO_0; clear HO201; clear BK177; clear HB; have HO_0 := n0_; have HO201 := n1_; have HO204 := n2_; have BK177 := n3_; have HB := n4_; clear n0_ n1_ n2_ n3_ n4_; (try clear hb); (try clear hb2); (try clear hk); (try clear hi); (try clear ho0); obtain ⟨Ao49, co49, eo49⟩ := Kd.R_slice HO204.out; (first | subst eo49 | (injection eo49 with f1_ f2_ f3_; have f4_ := f1_.symm; have f5_ := f3_.symm; clear f1_ f2_ f3_; subst f4_; subst f5_)); refine hK.out _ _ (cells9 BK177.out) (fun hHeld => ?_); clear hK K; refine norm_ (a' := ?_) ?_ ?_; rotate_left
     · show Act.put _ (some 60) _ = _; simp only [Act.put, List.setIfInBounds_toArray, List.set_cons_zero, List.set_cons_succ, i64_w, i32_w]; rfl
     refine one_ (i := 8) (N := some 64) (bs 10 511) rfl rfl (one_of HT_.out (by kernel_rfl)) (by decide) (fun K hK => ?_); refine goes_ Try.func48 (by kernel_rfl) rfl #[.slice Ao49 t202.length co49, .int .i64 a1_5] (by rfl) rfl rfl mpq ?_; with_reducible refine (num_PutInt.calls kj30 _ _ t202 a1_5 t205 _ ?side1 ?side2 A42.out).mono ?_
     (case side1 => exact cp ((Kd.R_reads' HO204.out).2.2)); (case side2 => exact (Kd.R_reads' HO204.out).2.1); rintro e w50 ⟨v206, rfl, ho0, hb⟩; refine ⟨_, rfl, ?_⟩; have n0_ := Aside0.mk (Kd.R_elder' (rp HO_0.out) (Kd.R_base ho0) hb); have n1_ := Aside0.mk (Kd.R_elder' (rp HO201.out) (Kd.R_base ho0) hb); have n2_ := Aside0.mk (Kd.R_elder' (rp HO204.out) (Kd.R_base ho0) hb); have n3_ := Aside0.mk (Kd.R_lower (Kd.R_new' (Kd.R_new' (Kd.R_new' ho0 (Kd.R_lt (rp HO_0.out))) (Kd.R_lt (rp HO201.out))) (Kd.R_lt (rp HO204.out))) (below_size bl)); have n4_ := Aside0.mk (blk_below (g := gb177) (o := .cells #[.int .i64 a1_0, .int .i64 a1_1, .slice A1_2 l1_2.length c1_2, .int .i64 a1_3, .int .i64 a1_4, .int .i64 a1_5, .slice A1_6 l1_6.length c1_6, .int .i64 a1_7, .slice A1_8 l1_8.length c1_8] 40 (0, 0)) bk hb); have n5_ := Aside0.mk (below_step bl hb); clear HO_0; clear HO201; clear HO204; clear BK177; clear HB; have HO_0 := n0_; have HO201 := n1_; have HO204 := n2_; have HO207 := n3_; have BK177 := n4_; have HB := n5_; clear n0_ n1_ n2_ n3_ n4_ n5_; (try clear hb); (try clear hb2); (try clear hk); (try clear hi); (try clear ho0); refine hK.out _ _ (cells9 BK177.out) (fun hHeld => ?_); clear hK K; refine norm_ (a' := ?_) ?_ ?_; rotate_left
     · show Act.put _ (some 64) _ = _; simp only [Act.put, List.setIfInBounds_toArray, List.set_cons_zero, List.set_cons_succ, i64_w, i32_w]; rfl
     refine pure_ (i := 9) (N := some 0) (v := ?_) (a' := ?_) (bs 10 1023) rfl rfl (any_of HT_.out (by kernel_rfl)) (fun _ _ _ h => h) (Or.inl ⟨by rfl, ?_⟩) ?_ ?_; rotate_left
     · intro w'; go_simp; with_reducible rfl
     rotate_left
     · exact nrm
     refine done_ (done_of HT_.out (by kernel_rfl)) ?_; try go_wp2
     go_meet
     case rel => exact ⟨_, (t205), H', ⟨by have := HJ7.out; have := HJ24.out; have := HJ30.out; first | omega | exact Nat.le_refl _⟩, ⟨by (with_reducible repeat (first | apply Kd.R_alloc | apply Kd.R_drewN | apply Kd.R_drew)); exact Kd.R_mono HO207.out (fun _ hk => trivial)⟩, ⟨bp BK177.out⟩, ⟨bl⟩⟩
    clear HC38; (try clear c4); (try clear c4b0); (try clear c4b1); (try clear c7); (try clear hcz10_0); (try clear hcz10_1); (try clear hcz10_2); (try clear hcz10_3); (try clear hcz10_4); (try clear hcz10_5); (try clear hcz10_6); (try clear hcz10_7); (try clear hcz10_8); (try clear hcz12_0); (try clear hcz12_1); (try clear hcz12_2); (try clear hcz12_3); (try clear hcz12_4); (try clear hcz12_5); (try clear hcz12_6); (try clear hcz12_7); (try clear hcz12_8); (try clear hfz10_0); (try clear hfz10_1); (try clear hfz10_2); (try clear hfz10_3); (try clear hfz10_4); (try clear hfz10_5); (try clear hfz10_6); (try clear hfz10_7); (try clear hfz10_8); (try clear hfz12_0); (try clear hfz12_1); (try clear hfz12_2); (try clear hfz12_3); (try clear hfz12_4); (try clear hfz12_5); (try clear hfz12_6); (try clear hfz12_7); (try clear hfz12_8); obtain ⟨kq, x0_37, HA, HJ37, HO_0, BK177, HB⟩ := hcut; cases kq with
    | zero => exact absurd HA.out (by simp [wire_Put.j3])
    | succ kj37 =>
     have H := HA.out; clear HA; simp only [wire_Put.j3] at H; by_cases c51 : (Go.bits .and .i64 t179 16) > 0
     rotate_left
     ·
      rw [if_neg c51] at H; have c51b0 : decide (0 < (Go.bits .and .i64 t179 16)) = false := decide_eq_false c51; clear c51; by_cases c64 : (Go.bits .and .i64 t179 32) > 0
      rotate_left
      ·
       rw [if_neg c64] at H; have c64b0 : decide (0 < (Go.bits .and .i64 t179 32)) = false := decide_eq_false c64; clear c64; simp only [Option.some.injEq, Prod.mk.injEq] at H; obtain ⟨rfl, rfl⟩ := H; go_wp2
       go_ret2
       exact ⟨_, erq, rp HO_0.out, bl⟩
      rw [if_pos c64] at H; have c64b0 : decide (0 < (Go.bits .and .i64 t179 32)) = true := decide_eq_true c64; clear c64; replace H := Option.bind_eq_some_iff.mp H; obtain ⟨t214, A650, H⟩ := H; replace H : (some (t214, 0)) = some (r1, r2) := H; have A65 := Aside0.mk A650; clear A650; simp only [Option.some.injEq, Prod.mk.injEq] at H; obtain ⟨rfl, rfl⟩ := H; obtain ⟨hcz66_0, hcz66_1, hcz66_2, hcz66_3, hcz66_4, hcz66_5, hcz66_6, hcz66_7, hcz66_8⟩ := cells9 BK177.out; obtain ⟨hfz66_0, hfz66_1, hfz66_2, hfz66_3, hfz66_4, hfz66_5, hfz66_6, hfz66_7, hfz66_8⟩ := frz9 BK177.out; obtain ⟨Ao67, co67, eo67⟩ := Kd.R_slice HO_0.out; subst eo67; go_wp2_with (first | ((with_reducible refine gate_callee (f := 9) rfl ?_); refine goesL_ (some 79) rfl rfl Try.func9 (by kernel_rfl) rfl #[.slice Ao67 x0_37.length co67, .slice A1_6 l1_6.length c1_6] rfl mpq ?_; (with_reducible refine (wire_PutFront.calls kj37 _ _ x0_37 _ _ l1_6 t214 _ ?side1 ?side2 ?side3 ?side4 A65.out).mono ?_); (case side1 => exact cp ((Kd.R_reads' HO_0.out).2.2)); (case side2 => exact (Kd.R_reads' HO_0.out).2.1); (case side3 => exact cp ((Kd.C_below HR1_6.out HB.out))); (case side4 => exact HC1_6.out); rintro e w68 ⟨v215, rfl, ho0, hb⟩; refine ⟨_, rfl, ?_⟩; have n0_ := Aside0.mk (Kd.R_elder' (rp HO_0.out) (Kd.R_base ho0) hb); have n1_ := Aside0.mk (Kd.R_lower (Kd.R_new' ho0 (Kd.R_lt (rp HO_0.out))) (below_size bl)); have n2_ := Aside0.mk (blk_below (g := gb177) (o := .cells #[.int .i64 a1_0, .int .i64 a1_1, .slice A1_2 l1_2.length c1_2, .int .i64 a1_3, .int .i64 a1_4, .int .i64 a1_5, .slice A1_6 l1_6.length c1_6, .int .i64 a1_7, .slice A1_8 l1_8.length c1_8] 40 (0, 0)) bk hb); have n3_ := Aside0.mk (below_step bl hb); clear HO_0; clear BK177; clear HB; have HO_0 := n0_; have HO216 := n1_; have BK177 := n2_; have HB := n3_; clear n0_ n1_ n2_ n3_; (try clear hb); (try clear hb2); (try clear hk); (try clear hi); (try clear ho0)))
      go_ret2
      exact ⟨_, erq, by (with_reducible repeat (first | apply Kd.R_alloc | apply Kd.R_drewN | apply Kd.R_drew)); exact Kd.R_mono HO216.out (fun _ hk => trivial), bl⟩
     rw [if_pos c51] at H; have c51b0 : decide (0 < (Go.bits .and .i64 t179 16)) = true := decide_eq_true c51; clear c51; replace H := Option.bind_eq_some_iff.mp H; obtain ⟨t208, A520, H⟩ := H; replace H : (if (Go.bits .and .i64 t179 32) > 0 then ((wire_PutFront.f kj37 t208 l1_6).bind fun t211 => (some (t211, 0))) else (some (t208, 0))) = some (r1, r2) := H; have A52 := Aside0.mk A520; clear A520; by_cases c53 : (Go.bits .and .i64 t179 32) > 0
     rotate_left
     ·
      rw [if_neg c53] at H; have c53b0 : decide (0 < (Go.bits .and .i64 t179 32)) = false := decide_eq_false c53; clear c53; simp only [Option.some.injEq, Prod.mk.injEq] at H; obtain ⟨rfl, rfl⟩ := H; obtain ⟨hcz61_0, hcz61_1, hcz61_2, hcz61_3, hcz61_4, hcz61_5, hcz61_6, hcz61_7, hcz61_8⟩ := cells9 BK177.out; obtain ⟨hfz61_0, hfz61_1, hfz61_2, hfz61_3, hfz61_4, hfz61_5, hfz61_6, hfz61_7, hfz61_8⟩ := frz9 BK177.out; obtain ⟨Ao62, co62, eo62⟩ := Kd.R_slice HO_0.out; subst eo62; go_wp2_with (first | ((with_reducible refine gate_callee (f := 30) rfl ?_); refine goesL_ (some 72) rfl rfl Try.func30 (by kernel_rfl) rfl #[.slice Ao62 x0_37.length co62, .agg #[.int .i64 a1_3, .int .i64 a1_4]] rfl mpq ?_; (with_reducible refine (wire_putTime.calls kj37 _ _ x0_37 a1_3 a1_4 t208 _ ?side1 ?side2 A52.out).mono ?_); (case side1 => exact cp ((Kd.R_reads' HO_0.out).2.2)); (case side2 => exact (Kd.R_reads' HO_0.out).2.1); rintro e w63 ⟨v209, rfl, ho0, hb⟩; refine ⟨_, rfl, ?_⟩; have n0_ := Aside0.mk (Kd.R_elder' (rp HO_0.out) (Kd.R_base ho0) hb); have n1_ := Aside0.mk (Kd.R_lower (Kd.R_new' ho0 (Kd.R_lt (rp HO_0.out))) (below_size bl)); have n2_ := Aside0.mk (blk_below (g := gb177) (o := .cells #[.int .i64 a1_0, .int .i64 a1_1, .slice A1_2 l1_2.length c1_2, .int .i64 a1_3, .int .i64 a1_4, .int .i64 a1_5, .slice A1_6 l1_6.length c1_6, .int .i64 a1_7, .slice A1_8 l1_8.length c1_8] 40 (0, 0)) bk hb); have n3_ := Aside0.mk (below_step bl hb); clear HO_0; clear BK177; clear HB; have HO_0 := n0_; have HO210 := n1_; have BK177 := n2_; have HB := n3_; clear n0_ n1_ n2_ n3_; (try clear hb); (try clear hb2); (try clear hk); (try clear hi); (try clear ho0)))
      go_ret2
      exact ⟨_, erq, by (with_reducible repeat (first | apply Kd.R_alloc | apply Kd.R_drewN | apply Kd.R_drew)); exact Kd.R_mono HO210.out (fun _ hk => trivial), bl⟩
     rw [if_pos c53] at H; have c53b0 : decide (0 < (Go.bits .and .i64 t179 32)) = true := decide_eq_true c53; clear c53; replace H := Option.bind_eq_some_iff.mp H; obtain ⟨t211, A540, H⟩ := H; replace H : (some (t211, 0)) = some (r1, r2) := H; have A54 := Aside0.mk A540; clear A540; simp only [Option.some.injEq, Prod.mk.injEq] at H; obtain ⟨rfl, rfl⟩ := H; obtain ⟨hcz55_0, hcz55_1, hcz55_2, hcz55_3, hcz55_4, hcz55_5, hcz55_6, hcz55_7, hcz55_8⟩ := cells9 BK177.out; obtain ⟨hfz55_0, hfz55_1, hfz55_2, hfz55_3, hfz55_4, hfz55_5, hfz55_6, hfz55_7, hfz55_8⟩ := frz9 BK177.out; obtain ⟨Ao56, co56, eo56⟩ := Kd.R_slice HO_0.out; subst eo56; go_wp2_with (first | ((with_reducible refine gate_callee (f := 30) rfl ?_); refine goesL_ (some 72) rfl rfl Try.func30 (by kernel_rfl) rfl #[.slice Ao56 x0_37.length co56, .agg #[.int .i64 a1_3, .int .i64 a1_4]] rfl mpq ?_; (with_reducible refine (wire_putTime.calls kj37 _ _ x0_37 a1_3 a1_4 t208 _ ?side1 ?side2 A52.out).mono ?_); (case side1 => exact cp ((Kd.R_reads' HO_0.out).2.2)); (case side2 => exact (Kd.R_reads' HO_0.out).2.1); rintro e w57 ⟨v209, rfl, ho0, hb⟩; refine ⟨_, rfl, ?_⟩; have n0_ := Aside0.mk (Kd.R_elder' (rp HO_0.out) (Kd.R_base ho0) hb); have n1_ := Aside0.mk (Kd.R_lower (Kd.R_new' ho0 (Kd.R_lt (rp HO_0.out))) (below_size bl)); have n2_ := Aside0.mk (blk_below (g := gb177) (o := .cells #[.int .i64 a1_0, .int .i64 a1_1, .slice A1_2 l1_2.length c1_2, .int .i64 a1_3, .int .i64 a1_4, .int .i64 a1_5, .slice A1_6 l1_6.length c1_6, .int .i64 a1_7, .slice A1_8 l1_8.length c1_8] 40 (0, 0)) bk hb); have n3_ := Aside0.mk (below_step bl hb); clear HO_0; clear BK177; clear HB; have HO_0 := n0_; have HO210 := n1_; have BK177 := n2_; have HB := n3_; clear n0_ n1_ n2_ n3_; (try clear hb); (try clear hb2); (try clear hk); (try clear hi); (try clear ho0); obtain ⟨hcz58_0, hcz58_1, hcz58_2, hcz58_3, hcz58_4, hcz58_5, hcz58_6, hcz58_7, hcz58_8⟩ := cells9 BK177.out; obtain ⟨hfz58_0, hfz58_1, hfz58_2, hfz58_3, hfz58_4, hfz58_5, hfz58_6, hfz58_7, hfz58_8⟩ := frz9 BK177.out; obtain ⟨Ao59, co59, eo59⟩ := Kd.R_slice HO210.out; subst eo59) | ((with_reducible refine gate_callee (f := 9) rfl ?_); refine goesL_ (some 79) rfl rfl Try.func9 (by kernel_rfl) rfl #[.slice Ao59 t208.length co59, .slice A1_6 l1_6.length c1_6] rfl mpq ?_; (with_reducible refine (wire_PutFront.calls kj37 _ _ t208 _ _ l1_6 t211 _ ?side1 ?side2 ?side3 ?side4 A54.out).mono ?_); (case side1 => exact cp ((Kd.R_reads' HO210.out).2.2)); (case side2 => exact (Kd.R_reads' HO210.out).2.1); (case side3 => exact cp ((Kd.C_below HR1_6.out HB.out))); (case side4 => exact HC1_6.out); rintro e w60 ⟨v212, rfl, ho0, hb⟩; refine ⟨_, rfl, ?_⟩; have n0_ := Aside0.mk (Kd.R_elder' (rp HO_0.out) (Kd.R_base ho0) hb); have n1_ := Aside0.mk (Kd.R_elder' (rp HO210.out) (Kd.R_base ho0) hb); have n2_ := Aside0.mk (Kd.R_lower (Kd.R_new' (Kd.R_new' ho0 (Kd.R_lt (rp HO_0.out))) (Kd.R_lt (rp HO210.out))) (below_size bl)); have n3_ := Aside0.mk (blk_below (g := gb177) (o := .cells #[.int .i64 a1_0, .int .i64 a1_1, .slice A1_2 l1_2.length c1_2, .int .i64 a1_3, .int .i64 a1_4, .int .i64 a1_5, .slice A1_6 l1_6.length c1_6, .int .i64 a1_7, .slice A1_8 l1_8.length c1_8] 40 (0, 0)) bk hb); have n4_ := Aside0.mk (below_step bl hb); clear HO_0; clear HO210; clear BK177; clear HB; have HO_0 := n0_; have HO210 := n1_; have HO213 := n2_; have BK177 := n3_; have HB := n4_; clear n0_ n1_ n2_ n3_ n4_; (try clear hb); (try clear hb2); (try clear hk); (try clear hi); (try clear ho0)))
     go_ret2
     exact ⟨_, erq, by (with_reducible repeat (first | apply Kd.R_alloc | apply Kd.R_drewN | apply Kd.R_drew)); exact Kd.R_mono HO213.out (fun _ hk => trivial), bl⟩
end Go.Proofs.Ytpplklickfioiaa.PWirePuts
