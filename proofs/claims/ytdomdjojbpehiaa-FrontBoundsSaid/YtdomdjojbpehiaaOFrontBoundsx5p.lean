/- One piece of the machine's side of the law, written by a program over the translation; Lean checks it. -/
import Derived.Test.YtdomdjojbpehiaaOFrontBoundsx0
import Derived.Test.YtdomdjojbpehiaaOFrontBoundsx2
import Derived.Test.YtdomdjojbpehiaaOFrontBoundsx3
import Derived.Test.YtdomdjojbpehiaaOFrontBoundsx4
namespace Go.Proofs.Ytdomdjojbpehiaa.PFrontBounds
open Go.RowKit Go.Proofs.YtdomdjojbpehiaaW.PrintWords Go.Proofs.YtdomdjojbpehiaaW.PrintLast Go.Proofs.YtdomdjojbpehiaaW.PrintMore
attribute [local go_sem] max2_int min2_int max_two min_two max_three min_three max_four min_four   -- for this text's walks alone
set_option linter.unusedVariables false
set_option linter.unusedSimpArgs false

/-! ### runnellaw05_FrontBounds: function 7 -/
def runnellaw05_FrontBounds.f (k : Nat) (l0 : List (S24)) (l1 : List (S24)) (a2_0 : Int) (a2_1 : Int) : Option (Bool) := (runnellaw05_much.f l0 l1).bind fun t197 => (if t197 = true then ((runnellaw05_live.f k).bind fun t198 => (some t198)) else ((front_Ahead.f k l0 a2_0 a2_1).bind fun t199 => ((front_Ahead.f k l1 a2_0 a2_1).bind fun t200 => ((front_Meet.f k l0 l1).bind fun t201 => ((front_Ahead.f k t201 a2_0 a2_1).bind fun t204 => (if t199 = true then (if (t204 == true) = true then ((front_Join.f k l0 l1).bind fun t205 => ((front_Ahead.f k t205 a2_0 a2_1).bind fun t208 => (if (t208 == t200) = true then ((front_LessEq.f k l0 l1).bind fun t209 => (if t209 = true then (if t200 = true then ((front_Meet.f k l0 l1).bind fun t210 => ((front_LessEq.f k t210 l0).bind fun t213 => (if t213 = true then ((front_Join.f k l0 l1).bind fun t214 => ((front_LessEq.f k l0 t214).bind fun t217 => (if t217 = true then ((runnellaw05_live.f k).bind fun t218 => (some t218)) else (some false)))) else (some false)))) else ((front_Meet.f k l0 l1).bind fun t219 => ((front_LessEq.f k t219 l0).bind fun t222 => (if t222 = true then ((front_Join.f k l0 l1).bind fun t223 => ((front_LessEq.f k l0 t223).bind fun t226 => (if t226 = true then ((runnellaw05_live.f k).bind fun t227 => (some t227)) else (some false)))) else (some false))))) else ((front_Meet.f k l0 l1).bind fun t228 => ((front_LessEq.f k t228 l0).bind fun t231 => (if t231 = true then ((front_Join.f k l0 l1).bind fun t232 => ((front_LessEq.f k l0 t232).bind fun t235 => (if t235 = true then ((runnellaw05_live.f k).bind fun t236 => (some t236)) else (some false)))) else (some false)))))) else (some false)))) else (some false)) else (if (t204 == t200) = true then ((front_Join.f k l0 l1).bind fun t237 => ((front_Ahead.f k t237 a2_0 a2_1).bind fun t240 => (if (t240 == false) = true then ((front_LessEq.f k l0 l1).bind fun t241 => (if t241 = true then (if t200 = true then (some false) else ((front_Meet.f k l0 l1).bind fun t242 => ((front_LessEq.f k t242 l0).bind fun t245 => (if t245 = true then ((front_Join.f k l0 l1).bind fun t246 => ((front_LessEq.f k l0 t246).bind fun t249 => (if t249 = true then ((runnellaw05_live.f k).bind fun t250 => (some t250)) else (some false)))) else (some false))))) else ((front_Meet.f k l0 l1).bind fun t251 => ((front_LessEq.f k t251 l0).bind fun t254 => (if t254 = true then ((front_Join.f k l0 l1).bind fun t255 => ((front_LessEq.f k l0 t255).bind fun t258 => (if t258 = true then ((runnellaw05_live.f k).bind fun t259 => (some t259)) else (some false)))) else (some false)))))) else (some false)))) else (some false))))))))
theorem runnellaw05_FrontBounds.mono : ∀ a0 a1 a2 a3 k, LeO (runnellaw05_FrontBounds.f k a0 a1 a2 a3) (runnellaw05_FrontBounds.f (k + 1) a0 a1 a2 a3) := by
 intro a0 a1 a2 a3 k
 unfold runnellaw05_FrontBounds.f
 repeat' first
   | (with_reducible exact front_Ahead.mono _ _ _ _)
   | (with_reducible exact front_Join.mono _ _ _)
   | (with_reducible exact front_LessEq.mono _ _ _)
   | (with_reducible exact front_Meet.mono _ _ _)
   | (with_reducible exact runnellaw05_live.mono _)
   | (with_reducible exact LeO.refl _)
   | (with_reducible exact LeO.none _)
   | (with_reducible refine LeO.ite ?_ ?_)
   | (with_reducible refine LeO.bind ?_ (fun _ => ?_))
   | exact front_Ahead.mono _ _ _ _
   | exact front_Join.mono _ _ _
   | exact front_LessEq.mono _ _ _
   | exact front_Meet.mono _ _ _
   | exact runnellaw05_live.mono _
   | exact LeO.none _
   | refine LeO.ite ?_ ?_
   | refine LeO.bind ?_ (fun _ => ?_)
def runnellaw05_FrontBounds.T3 : Bool × List (List Nat × List Nat) := (true, [([], []), ([], []), ([0, 1], [0, 1]), ([], []), ([], []), ([3, 4, 2], [3, 4]), ([2, 5, 0, 1, 2], [2]), ([5, 6, 0, 1, 2, 3, 4, 5, 6], [5])])
def runnellaw05_FrontBounds.B3 : List Nat := [0, 0, 3, 0, 0, 31, 63, 127]
theorem runnellaw05_FrontBounds.tab3 : rtab .any (opsOf Try.f7 3) = runnellaw05_FrontBounds.T3 := by kernel_rfl
theorem runnellaw05_FrontBounds.bits3 : waitsOk runnellaw05_FrontBounds.T3.2 runnellaw05_FrontBounds.B3 = true := by kernel_rfl
def runnellaw05_FrontBounds.T4 : Bool × List (List Nat × List Nat) := (true, [([], []), ([], []), ([0, 1], [0, 1]), ([], []), ([2, 3, 2], [2, 3]), ([], []), ([5, 4], [5]), ([6], [6]), ([6, 7], [6, 7]), ([4, 8], [4, 8]), ([9, 6], [9]), ([10], [10]), ([10], [10]), ([11, 12, 10, 10], [10, 11, 12]), ([10], [10]), ([13, 14, 13, 10], [10, 13, 14]), ([10], [10]), ([16, 15, 10], [10, 16]), ([17], [17]), ([17, 18, 10], [10, 17, 18]), ([15, 19, 10], [10, 15, 19]), ([10, 20], [10, 20]), ([21, 17], [21]), ([22], [22]), ([22], [22]), ([23, 24, 22, 22], [22, 23, 24]), ([25, 22], [22, 25]), ([26, 25, 22], [22, 26]), ([27], [27]), ([28, 27], [27, 28]), ([27, 29, 22], [22, 27, 29]), ([30, 27, 22], [22, 30]), ([31], [31]), ([31, 32, 22], [22, 31, 32]), ([22, 33], [22, 33]), ([34, 31], [34]), ([35], [35]), ([35], [35]), ([36, 37, 35, 35], [35, 36, 37]), ([35], [35]), ([38, 39, 38, 35], [35, 38, 39]), ([35, 40], [35, 40]), ([41, 40], [41]), ([42], [42]), ([42], [42]), ([42], [42]), ([44, 45, 42, 42], [42, 44, 45]), ([43, 46, 46, 42], [42, 43, 46]), ([42, 47], [42, 47]), ([48, 47], [48]), ([49, 49], [49]), ([49, 50], [49, 50]), ([51, 50, 0, 1, 2, 3, 4, 5, 6, 7, 8, 9, 10, 11, 12, 13, 14, 15, 16, 17, 18, 19, 20, 21, 22, 23, 24, 25, 26, 27, 28, 29, 30, 31, 32, 33, 34, 35, 36, 37, 38, 39, 40, 41, 42, 43, 44, 45, 46, 47, 48, 49, 50, 51], [51])])
def runnellaw05_FrontBounds.B4 : List Nat := [0, 0, 3, 0, 15, 0, 63, 127, 255, 511, 1023, 2047, 2047, 8191, 2047, 32767, 2047, 131071, 262143, 524287, 1048575, 2097151, 4194303, 8388607, 8388607, 33554431, 67108863, 134217727, 268435455, 536870911, 1073741823, 2147483647, 4294967295, 8589934591, 17179869183, 34359738367, 68719476735, 68719476735, 274877906943, 68719476735, 1099511627775, 2199023255551, 4398046511103, 8796093022207, 8796093022207, 8796093022207, 61572651155455, 140737488355327, 281474976710655, 562949953421311, 1125899906842623, 2251799813685247, 4503599627370495]
theorem runnellaw05_FrontBounds.tab4 : rtab .any (opsOf Try.f7 4) = runnellaw05_FrontBounds.T4 := by kernel_rfl
theorem runnellaw05_FrontBounds.bits4 : waitsOk runnellaw05_FrontBounds.T4.2 runnellaw05_FrontBounds.B4 = true := by kernel_rfl
/-- A statement that hides another. -/
structure runnellaw05_FrontBounds.calls.Hid (P : Prop) : Prop where
 out : P
set_option maxHeartbeats 8000000 in
set_option maxRecDepth 100000 in
noncomputable def runnellaw05_FrontBounds.calls.pre : (P0 : Prop) ×' (P1 : Prop) ×' (P2 : Prop) ×' (P3 : Prop) ×' (runnellaw05_FrontBounds.calls.Hid P0 → runnellaw05_FrontBounds.calls.Hid P1 → runnellaw05_FrontBounds.calls.Hid P2 → runnellaw05_FrontBounds.calls.Hid P3 → ∀ (k : Nat) (A0 : Option Addr) (c0 : Nat) (l0 : List (S24)) (A1 : Option Addr) (c1 : Nat) (l1 : List (S24)) (a2_0 : Int) (a2_1 : Int) (r : Bool) (w : World) (hr0 : Kd.C k24 w A0 l0.length l0) (hc0 : l0.length ≤ c0) (hr1 : Kd.C k24 w A1 l1.length l1) (hc1 : l1.length ≤ c1) (hrt : r = true) (h : runnellaw05_FrontBounds.f k l0 l1 a2_0 a2_1 = some r), Calls Try.prog 7 #[.slice A0 l0.length c0, .slice A1 l1.length c1, .agg #[.int .i64 a2_0, .int .i64 a2_1]] w fun e w' => e = .returned (.bool r) ∧ Below w.heap.size w w') := by
 apply PSigma.mk
 apply PSigma.mk
 apply PSigma.mk
 apply PSigma.mk
 · intro hl_0 hl_1 hl_2 hl_3 k A0 c0 l0 A1 c1 l1 a2_0 a2_1 r w hr0 hc0 hr1 hc1 hrt h
   have hu24 := Try.underlying24
   have HR0 := Aside0.mk hr0
   have HC0 := Aside0.mk hc0
   clear hr0 hc0
   have HR1 := Aside0.mk hr1
   have HC1 := Aside0.mk hc1
   clear hr1 hc1
   have HB := Aside0.mk (Below.refl w.heap.size w)
   have H : ((runnellaw05_much.f l0 l1).bind fun t197 => (if t197 = true then ((runnellaw05_live.f k).bind fun t198 => (some t198)) else ((front_Ahead.f k l0 a2_0 a2_1).bind fun t199 => ((front_Ahead.f k l1 a2_0 a2_1).bind fun t200 => ((front_Meet.f k l0 l1).bind fun t201 => ((front_Ahead.f k t201 a2_0 a2_1).bind fun t204 => (if t199 = true then (if (t204 == true) = true then ((front_Join.f k l0 l1).bind fun t205 => ((front_Ahead.f k t205 a2_0 a2_1).bind fun t208 => (if (t208 == t200) = true then ((front_LessEq.f k l0 l1).bind fun t209 => (if t209 = true then (if t200 = true then ((front_Meet.f k l0 l1).bind fun t210 => ((front_LessEq.f k t210 l0).bind fun t213 => (if t213 = true then ((front_Join.f k l0 l1).bind fun t214 => ((front_LessEq.f k l0 t214).bind fun t217 => (if t217 = true then ((runnellaw05_live.f k).bind fun t218 => (some t218)) else (some false)))) else (some false)))) else ((front_Meet.f k l0 l1).bind fun t219 => ((front_LessEq.f k t219 l0).bind fun t222 => (if t222 = true then ((front_Join.f k l0 l1).bind fun t223 => ((front_LessEq.f k l0 t223).bind fun t226 => (if t226 = true then ((runnellaw05_live.f k).bind fun t227 => (some t227)) else (some false)))) else (some false))))) else ((front_Meet.f k l0 l1).bind fun t228 => ((front_LessEq.f k t228 l0).bind fun t231 => (if t231 = true then ((front_Join.f k l0 l1).bind fun t232 => ((front_LessEq.f k l0 t232).bind fun t235 => (if t235 = true then ((runnellaw05_live.f k).bind fun t236 => (some t236)) else (some false)))) else (some false)))))) else (some false)))) else (some false)) else (if (t204 == t200) = true then ((front_Join.f k l0 l1).bind fun t237 => ((front_Ahead.f k t237 a2_0 a2_1).bind fun t240 => (if (t240 == false) = true then ((front_LessEq.f k l0 l1).bind fun t241 => (if t241 = true then (if t200 = true then (some false) else ((front_Meet.f k l0 l1).bind fun t242 => ((front_LessEq.f k t242 l0).bind fun t245 => (if t245 = true then ((front_Join.f k l0 l1).bind fun t246 => ((front_LessEq.f k l0 t246).bind fun t249 => (if t249 = true then ((runnellaw05_live.f k).bind fun t250 => (some t250)) else (some false)))) else (some false))))) else ((front_Meet.f k l0 l1).bind fun t251 => ((front_LessEq.f k t251 l0).bind fun t254 => (if t254 = true then ((front_Join.f k l0 l1).bind fun t255 => ((front_LessEq.f k l0 t255).bind fun t258 => (if t258 = true then ((runnellaw05_live.f k).bind fun t259 => (some t259)) else (some false)))) else (some false)))))) else (some false)))) else (some false))))))))) = some r := h
   clear h
   replace H := Option.bind_eq_some_iff.mp H
   obtain ⟨t197, A40, H⟩ := H
   replace H : (if t197 = true then ((runnellaw05_live.f k).bind fun t198 => (some t198)) else ((front_Ahead.f k l0 a2_0 a2_1).bind fun t199 => ((front_Ahead.f k l1 a2_0 a2_1).bind fun t200 => ((front_Meet.f k l0 l1).bind fun t201 => ((front_Ahead.f k t201 a2_0 a2_1).bind fun t204 => (if t199 = true then (if (t204 == true) = true then ((front_Join.f k l0 l1).bind fun t205 => ((front_Ahead.f k t205 a2_0 a2_1).bind fun t208 => (if (t208 == t200) = true then ((front_LessEq.f k l0 l1).bind fun t209 => (if t209 = true then (if t200 = true then ((front_Meet.f k l0 l1).bind fun t210 => ((front_LessEq.f k t210 l0).bind fun t213 => (if t213 = true then ((front_Join.f k l0 l1).bind fun t214 => ((front_LessEq.f k l0 t214).bind fun t217 => (if t217 = true then ((runnellaw05_live.f k).bind fun t218 => (some t218)) else (some false)))) else (some false)))) else ((front_Meet.f k l0 l1).bind fun t219 => ((front_LessEq.f k t219 l0).bind fun t222 => (if t222 = true then ((front_Join.f k l0 l1).bind fun t223 => ((front_LessEq.f k l0 t223).bind fun t226 => (if t226 = true then ((runnellaw05_live.f k).bind fun t227 => (some t227)) else (some false)))) else (some false))))) else ((front_Meet.f k l0 l1).bind fun t228 => ((front_LessEq.f k t228 l0).bind fun t231 => (if t231 = true then ((front_Join.f k l0 l1).bind fun t232 => ((front_LessEq.f k l0 t232).bind fun t235 => (if t235 = true then ((runnellaw05_live.f k).bind fun t236 => (some t236)) else (some false)))) else (some false)))))) else (some false)))) else (some false)) else (if (t204 == t200) = true then ((front_Join.f k l0 l1).bind fun t237 => ((front_Ahead.f k t237 a2_0 a2_1).bind fun t240 => (if (t240 == false) = true then ((front_LessEq.f k l0 l1).bind fun t241 => (if t241 = true then (if t200 = true then (some false) else ((front_Meet.f k l0 l1).bind fun t242 => ((front_LessEq.f k t242 l0).bind fun t245 => (if t245 = true then ((front_Join.f k l0 l1).bind fun t246 => ((front_LessEq.f k l0 t246).bind fun t249 => (if t249 = true then ((runnellaw05_live.f k).bind fun t250 => (some t250)) else (some false)))) else (some false))))) else ((front_Meet.f k l0 l1).bind fun t251 => ((front_LessEq.f k t251 l0).bind fun t254 => (if t254 = true then ((front_Join.f k l0 l1).bind fun t255 => ((front_LessEq.f k l0 t255).bind fun t258 => (if t258 = true then ((runnellaw05_live.f k).bind fun t259 => (some t259)) else (some false)))) else (some false)))))) else (some false)))) else (some false)))))))) = some r := H
   have A4 := Aside0.mk A40
   clear A40
   by_cases c5 : t197 = true
   ·
    subst c5
    have H1 : ((runnellaw05_live.f k).bind fun t198 => (some t198)) = some r := by rw [if_pos rfl] at H; exact H
    clear H
    have H := H1
    clear H1
    replace H := Option.bind_eq_some_iff.mp H
    obtain ⟨t198, A60, H⟩ := H
    replace H : (some t198) = some r := H
    have A6 := Aside0.mk A60
    clear A60
    obtain rfl := Option.some.inj H
    go_enter Try.func7, Try.ntmps7
    go_wp2_with (first | ((with_reducible refine gate_dst (N := 5) rfl ?_); refine box_event ?hg (N := 5) ?hd (cs := #[.int .i64 a2_0, .int .i64 a2_1]) (t := 24) ?hr ?_; (case hd => rfl); (case hg => rfl); (case hr => first | (go_simp; done) | (go_simp; rfl)); intro gb196 hg w7 hbox hb; have n0_ := Aside0.mk (below_step (by repeat (first | (with_reducible first | exact HB.out | apply below_alloc | apply pw_below_drewN | apply below_drew1) | exact HB.out)) hb); have n1_ := Aside0.mk (hbox); have n2_ := Aside0.mk ((by rw [hg]; exact (below_size (by repeat (first | (with_reducible first | exact HB.out | apply below_alloc | apply pw_below_drewN | apply below_drew1) | exact HB.out))) : w.heap.size ≤ gb196)); have n3_ := Aside0.mk ((by rw [hg]; exact (below_size (by repeat (first | (with_reducible first | exact HB.out | apply below_alloc | apply pw_below_drewN | apply below_drew1) | exact HB.out))) : w.heap.size ≤ gb196)); clear HB; have HB := n0_; have BK196 := n1_; have GW196 := n2_; have GE196 := n3_; clear n0_ n1_ n2_ n3_; clear hb hbox hg) | ((with_reducible refine gate_callee (f := 9) rfl ?_); refine goesL_ (some 11) rfl rfl Try.func9 (by kernel_rfl) rfl #[.slice A0 l0.length c0, .slice A1 l1.length c1] rfl (by (try simp only [List.map_toArray, List.map_cons, List.map_nil]); first | done | rfl | (simp only [List.length_drop, List.length_take]; rfl)) ?_; (with_reducible refine (runnellaw05_much.calls _ _ l0 _ _ l1 true _ ?side1 ?side2 ?side3 ?side4 A4.out).mono ?_); (case side1 => repeat (first | exact (Kd.C_below HR0.out HB.out) | (with_reducible refine Kd.C_alloc ?_ _) | (with_reducible refine Kd.C_drewN ?_ _) | (with_reducible refine Kd.C_drew ?_))); (case side2 => exact HC0.out); (case side3 => repeat (first | exact (Kd.C_below HR1.out HB.out) | (with_reducible refine Kd.C_alloc ?_ _) | (with_reducible refine Kd.C_drewN ?_ _) | (with_reducible refine Kd.C_drew ?_))); (case side4 => exact HC1.out); rintro e w' ⟨rfl, ⟨nd, rfl⟩⟩; refine ⟨_, rfl, ?_⟩) | ((with_reducible refine gate_callee (f := 10) rfl ?_); refine goesL_ (some 12) rfl rfl Try.func10 (by kernel_rfl) rfl #[] rfl (by (try simp only [List.map_toArray, List.map_cons, List.map_nil]); first | done | rfl | (simp only [List.length_drop, List.length_take]; rfl)) ?_; (with_reducible refine (runnellaw05_live.calls k  t198 _ A6.out).mono ?_); rintro e w8 ⟨rfl, hb⟩; refine ⟨_, rfl, ?_⟩; have n0_ := Aside0.mk (blk_below (g := gb196) (o := .cells #[.int .i64 a2_0, .int .i64 a2_1] 24 (0, 0)) (by (with_reducible repeat (first | refine blk_drewN ?_ _ | refine blk_drew ?_ | refine blk_alloc ?_ _)); exact BK196.out) hb); have n1_ := Aside0.mk (below_step (by repeat (first | (with_reducible first | exact HB.out | apply below_alloc | apply pw_below_drewN | apply below_drew1 | refine below_set ?_ GE196.out) | exact HB.out)) hb); clear BK196; clear HB; have BK196 := n0_; have HB := n1_; clear n0_ n1_; (try clear hb); (try clear hb2); (try clear hk); (try clear hi); have hcy1_0 : w8.cell? ⟨gb196, 0, none⟩ = some (.int .i64 a2_0) := (blk_cell BK196.out 0).trans rfl; have hcy1_1 : w8.cell? ⟨gb196, 1, none⟩ = some (.int .i64 a2_1) := (blk_cell BK196.out 1).trans rfl))
    go_ret
    exact ⟨by first | rfl | (simp [errW_none, errW_some] <;> rfl) | (simp [*, errW_none, errW_some] <;> rfl), by repeat (first | (with_reducible first | exact HB.out | apply below_alloc | apply pw_below_drewN | apply below_drew1 | refine below_set ?_ GE196.out) | exact HB.out)⟩
   ·
    replace c5 := Bool.eq_false_iff.mpr c5
    subst c5
    have H1 : ((front_Ahead.f k l0 a2_0 a2_1).bind fun t199 => ((front_Ahead.f k l1 a2_0 a2_1).bind fun t200 => ((front_Meet.f k l0 l1).bind fun t201 => ((front_Ahead.f k t201 a2_0 a2_1).bind fun t204 => (if t199 = true then (if (t204 == true) = true then ((front_Join.f k l0 l1).bind fun t205 => ((front_Ahead.f k t205 a2_0 a2_1).bind fun t208 => (if (t208 == t200) = true then ((front_LessEq.f k l0 l1).bind fun t209 => (if t209 = true then (if t200 = true then ((front_Meet.f k l0 l1).bind fun t210 => ((front_LessEq.f k t210 l0).bind fun t213 => (if t213 = true then ((front_Join.f k l0 l1).bind fun t214 => ((front_LessEq.f k l0 t214).bind fun t217 => (if t217 = true then ((runnellaw05_live.f k).bind fun t218 => (some t218)) else (some false)))) else (some false)))) else ((front_Meet.f k l0 l1).bind fun t219 => ((front_LessEq.f k t219 l0).bind fun t222 => (if t222 = true then ((front_Join.f k l0 l1).bind fun t223 => ((front_LessEq.f k l0 t223).bind fun t226 => (if t226 = true then ((runnellaw05_live.f k).bind fun t227 => (some t227)) else (some false)))) else (some false))))) else ((front_Meet.f k l0 l1).bind fun t228 => ((front_LessEq.f k t228 l0).bind fun t231 => (if t231 = true then ((front_Join.f k l0 l1).bind fun t232 => ((front_LessEq.f k l0 t232).bind fun t235 => (if t235 = true then ((runnellaw05_live.f k).bind fun t236 => (some t236)) else (some false)))) else (some false)))))) else (some false)))) else (some false)) else (if (t204 == t200) = true then ((front_Join.f k l0 l1).bind fun t237 => ((front_Ahead.f k t237 a2_0 a2_1).bind fun t240 => (if (t240 == false) = true then ((front_LessEq.f k l0 l1).bind fun t241 => (if t241 = true then (if t200 = true then (some false) else ((front_Meet.f k l0 l1).bind fun t242 => ((front_LessEq.f k t242 l0).bind fun t245 => (if t245 = true then ((front_Join.f k l0 l1).bind fun t246 => ((front_LessEq.f k l0 t246).bind fun t249 => (if t249 = true then ((runnellaw05_live.f k).bind fun t250 => (some t250)) else (some false)))) else (some false))))) else ((front_Meet.f k l0 l1).bind fun t251 => ((front_LessEq.f k t251 l0).bind fun t254 => (if t254 = true then ((front_Join.f k l0 l1).bind fun t255 => ((front_LessEq.f k l0 t255).bind fun t258 => (if t258 = true then ((runnellaw05_live.f k).bind fun t259 => (some t259)) else (some false)))) else (some false)))))) else (some false)))) else (some false))))))) = some r := by rw [if_neg (show ¬ (false = true) by decide)] at H; exact H
    clear H
    have H := H1
    clear H1
    replace H := Option.bind_eq_some_iff.mp H
    obtain ⟨t199, A90, H⟩ := H
    replace H : ((front_Ahead.f k l1 a2_0 a2_1).bind fun t200 => ((front_Meet.f k l0 l1).bind fun t201 => ((front_Ahead.f k t201 a2_0 a2_1).bind fun t204 => (if t199 = true then (if (t204 == true) = true then ((front_Join.f k l0 l1).bind fun t205 => ((front_Ahead.f k t205 a2_0 a2_1).bind fun t208 => (if (t208 == t200) = true then ((front_LessEq.f k l0 l1).bind fun t209 => (if t209 = true then (if t200 = true then ((front_Meet.f k l0 l1).bind fun t210 => ((front_LessEq.f k t210 l0).bind fun t213 => (if t213 = true then ((front_Join.f k l0 l1).bind fun t214 => ((front_LessEq.f k l0 t214).bind fun t217 => (if t217 = true then ((runnellaw05_live.f k).bind fun t218 => (some t218)) else (some false)))) else (some false)))) else ((front_Meet.f k l0 l1).bind fun t219 => ((front_LessEq.f k t219 l0).bind fun t222 => (if t222 = true then ((front_Join.f k l0 l1).bind fun t223 => ((front_LessEq.f k l0 t223).bind fun t226 => (if t226 = true then ((runnellaw05_live.f k).bind fun t227 => (some t227)) else (some false)))) else (some false))))) else ((front_Meet.f k l0 l1).bind fun t228 => ((front_LessEq.f k t228 l0).bind fun t231 => (if t231 = true then ((front_Join.f k l0 l1).bind fun t232 => ((front_LessEq.f k l0 t232).bind fun t235 => (if t235 = true then ((runnellaw05_live.f k).bind fun t236 => (some t236)) else (some false)))) else (some false)))))) else (some false)))) else (some false)) else (if (t204 == t200) = true then ((front_Join.f k l0 l1).bind fun t237 => ((front_Ahead.f k t237 a2_0 a2_1).bind fun t240 => (if (t240 == false) = true then ((front_LessEq.f k l0 l1).bind fun t241 => (if t241 = true then (if t200 = true then (some false) else ((front_Meet.f k l0 l1).bind fun t242 => ((front_LessEq.f k t242 l0).bind fun t245 => (if t245 = true then ((front_Join.f k l0 l1).bind fun t246 => ((front_LessEq.f k l0 t246).bind fun t249 => (if t249 = true then ((runnellaw05_live.f k).bind fun t250 => (some t250)) else (some false)))) else (some false))))) else ((front_Meet.f k l0 l1).bind fun t251 => ((front_LessEq.f k t251 l0).bind fun t254 => (if t254 = true then ((front_Join.f k l0 l1).bind fun t255 => ((front_LessEq.f k l0 t255).bind fun t258 => (if t258 = true then ((runnellaw05_live.f k).bind fun t259 => (some t259)) else (some false)))) else (some false)))))) else (some false)))) else (some false)))))) = some r := H
    have A9 := Aside0.mk A90
    clear A90
    replace H := Option.bind_eq_some_iff.mp H
    obtain ⟨t200, A100, H⟩ := H
    replace H : ((front_Meet.f k l0 l1).bind fun t201 => ((front_Ahead.f k t201 a2_0 a2_1).bind fun t204 => (if t199 = true then (if (t204 == true) = true then ((front_Join.f k l0 l1).bind fun t205 => ((front_Ahead.f k t205 a2_0 a2_1).bind fun t208 => (if (t208 == t200) = true then ((front_LessEq.f k l0 l1).bind fun t209 => (if t209 = true then (if t200 = true then ((front_Meet.f k l0 l1).bind fun t210 => ((front_LessEq.f k t210 l0).bind fun t213 => (if t213 = true then ((front_Join.f k l0 l1).bind fun t214 => ((front_LessEq.f k l0 t214).bind fun t217 => (if t217 = true then ((runnellaw05_live.f k).bind fun t218 => (some t218)) else (some false)))) else (some false)))) else ((front_Meet.f k l0 l1).bind fun t219 => ((front_LessEq.f k t219 l0).bind fun t222 => (if t222 = true then ((front_Join.f k l0 l1).bind fun t223 => ((front_LessEq.f k l0 t223).bind fun t226 => (if t226 = true then ((runnellaw05_live.f k).bind fun t227 => (some t227)) else (some false)))) else (some false))))) else ((front_Meet.f k l0 l1).bind fun t228 => ((front_LessEq.f k t228 l0).bind fun t231 => (if t231 = true then ((front_Join.f k l0 l1).bind fun t232 => ((front_LessEq.f k l0 t232).bind fun t235 => (if t235 = true then ((runnellaw05_live.f k).bind fun t236 => (some t236)) else (some false)))) else (some false)))))) else (some false)))) else (some false)) else (if (t204 == t200) = true then ((front_Join.f k l0 l1).bind fun t237 => ((front_Ahead.f k t237 a2_0 a2_1).bind fun t240 => (if (t240 == false) = true then ((front_LessEq.f k l0 l1).bind fun t241 => (if t241 = true then (if t200 = true then (some false) else ((front_Meet.f k l0 l1).bind fun t242 => ((front_LessEq.f k t242 l0).bind fun t245 => (if t245 = true then ((front_Join.f k l0 l1).bind fun t246 => ((front_LessEq.f k l0 t246).bind fun t249 => (if t249 = true then ((runnellaw05_live.f k).bind fun t250 => (some t250)) else (some false)))) else (some false))))) else ((front_Meet.f k l0 l1).bind fun t251 => ((front_LessEq.f k t251 l0).bind fun t254 => (if t254 = true then ((front_Join.f k l0 l1).bind fun t255 => ((front_LessEq.f k l0 t255).bind fun t258 => (if t258 = true then ((runnellaw05_live.f k).bind fun t259 => (some t259)) else (some false)))) else (some false)))))) else (some false)))) else (some false))))) = some r := H
    have A10 := Aside0.mk A100
    clear A100
    replace H := Option.bind_eq_some_iff.mp H
    obtain ⟨t201, A110, H⟩ := H
    replace H : ((front_Ahead.f k t201 a2_0 a2_1).bind fun t204 => (if t199 = true then (if (t204 == true) = true then ((front_Join.f k l0 l1).bind fun t205 => ((front_Ahead.f k t205 a2_0 a2_1).bind fun t208 => (if (t208 == t200) = true then ((front_LessEq.f k l0 l1).bind fun t209 => (if t209 = true then (if t200 = true then ((front_Meet.f k l0 l1).bind fun t210 => ((front_LessEq.f k t210 l0).bind fun t213 => (if t213 = true then ((front_Join.f k l0 l1).bind fun t214 => ((front_LessEq.f k l0 t214).bind fun t217 => (if t217 = true then ((runnellaw05_live.f k).bind fun t218 => (some t218)) else (some false)))) else (some false)))) else ((front_Meet.f k l0 l1).bind fun t219 => ((front_LessEq.f k t219 l0).bind fun t222 => (if t222 = true then ((front_Join.f k l0 l1).bind fun t223 => ((front_LessEq.f k l0 t223).bind fun t226 => (if t226 = true then ((runnellaw05_live.f k).bind fun t227 => (some t227)) else (some false)))) else (some false))))) else ((front_Meet.f k l0 l1).bind fun t228 => ((front_LessEq.f k t228 l0).bind fun t231 => (if t231 = true then ((front_Join.f k l0 l1).bind fun t232 => ((front_LessEq.f k l0 t232).bind fun t235 => (if t235 = true then ((runnellaw05_live.f k).bind fun t236 => (some t236)) else (some false)))) else (some false)))))) else (some false)))) else (some false)) else (if (t204 == t200) = true then ((front_Join.f k l0 l1).bind fun t237 => ((front_Ahead.f k t237 a2_0 a2_1).bind fun t240 => (if (t240 == false) = true then ((front_LessEq.f k l0 l1).bind fun t241 => (if t241 = true then (if t200 = true then (some false) else ((front_Meet.f k l0 l1).bind fun t242 => ((front_LessEq.f k t242 l0).bind fun t245 => (if t245 = true then ((front_Join.f k l0 l1).bind fun t246 => ((front_LessEq.f k l0 t246).bind fun t249 => (if t249 = true then ((runnellaw05_live.f k).bind fun t250 => (some t250)) else (some false)))) else (some false))))) else ((front_Meet.f k l0 l1).bind fun t251 => ((front_LessEq.f k t251 l0).bind fun t254 => (if t254 = true then ((front_Join.f k l0 l1).bind fun t255 => ((front_LessEq.f k l0 t255).bind fun t258 => (if t258 = true then ((runnellaw05_live.f k).bind fun t259 => (some t259)) else (some false)))) else (some false)))))) else (some false)))) else (some false)))) = some r := H
    have A11 := Aside0.mk A110
    clear A110
    replace H := Option.bind_eq_some_iff.mp H
    obtain ⟨t204, A120, H⟩ := H
    replace H : (if t199 = true then (if (t204 == true) = true then ((front_Join.f k l0 l1).bind fun t205 => ((front_Ahead.f k t205 a2_0 a2_1).bind fun t208 => (if (t208 == t200) = true then ((front_LessEq.f k l0 l1).bind fun t209 => (if t209 = true then (if t200 = true then ((front_Meet.f k l0 l1).bind fun t210 => ((front_LessEq.f k t210 l0).bind fun t213 => (if t213 = true then ((front_Join.f k l0 l1).bind fun t214 => ((front_LessEq.f k l0 t214).bind fun t217 => (if t217 = true then ((runnellaw05_live.f k).bind fun t218 => (some t218)) else (some false)))) else (some false)))) else ((front_Meet.f k l0 l1).bind fun t219 => ((front_LessEq.f k t219 l0).bind fun t222 => (if t222 = true then ((front_Join.f k l0 l1).bind fun t223 => ((front_LessEq.f k l0 t223).bind fun t226 => (if t226 = true then ((runnellaw05_live.f k).bind fun t227 => (some t227)) else (some false)))) else (some false))))) else ((front_Meet.f k l0 l1).bind fun t228 => ((front_LessEq.f k t228 l0).bind fun t231 => (if t231 = true then ((front_Join.f k l0 l1).bind fun t232 => ((front_LessEq.f k l0 t232).bind fun t235 => (if t235 = true then ((runnellaw05_live.f k).bind fun t236 => (some t236)) else (some false)))) else (some false)))))) else (some false)))) else (some false)) else (if (t204 == t200) = true then ((front_Join.f k l0 l1).bind fun t237 => ((front_Ahead.f k t237 a2_0 a2_1).bind fun t240 => (if (t240 == false) = true then ((front_LessEq.f k l0 l1).bind fun t241 => (if t241 = true then (if t200 = true then (some false) else ((front_Meet.f k l0 l1).bind fun t242 => ((front_LessEq.f k t242 l0).bind fun t245 => (if t245 = true then ((front_Join.f k l0 l1).bind fun t246 => ((front_LessEq.f k l0 t246).bind fun t249 => (if t249 = true then ((runnellaw05_live.f k).bind fun t250 => (some t250)) else (some false)))) else (some false))))) else ((front_Meet.f k l0 l1).bind fun t251 => ((front_LessEq.f k t251 l0).bind fun t254 => (if t254 = true then ((front_Join.f k l0 l1).bind fun t255 => ((front_LessEq.f k l0 t255).bind fun t258 => (if t258 = true then ((runnellaw05_live.f k).bind fun t259 => (some t259)) else (some false)))) else (some false)))))) else (some false)))) else (some false))) = some r := H
    have A12 := Aside0.mk A120
    clear A120
    by_cases c13 : t199 = true
    ·
     subst c13
     have H1 : (if (t204 == true) = true then ((front_Join.f k l0 l1).bind fun t205 => ((front_Ahead.f k t205 a2_0 a2_1).bind fun t208 => (if (t208 == t200) = true then ((front_LessEq.f k l0 l1).bind fun t209 => (if t209 = true then (if t200 = true then ((front_Meet.f k l0 l1).bind fun t210 => ((front_LessEq.f k t210 l0).bind fun t213 => (if t213 = true then ((front_Join.f k l0 l1).bind fun t214 => ((front_LessEq.f k l0 t214).bind fun t217 => (if t217 = true then ((runnellaw05_live.f k).bind fun t218 => (some t218)) else (some false)))) else (some false)))) else ((front_Meet.f k l0 l1).bind fun t219 => ((front_LessEq.f k t219 l0).bind fun t222 => (if t222 = true then ((front_Join.f k l0 l1).bind fun t223 => ((front_LessEq.f k l0 t223).bind fun t226 => (if t226 = true then ((runnellaw05_live.f k).bind fun t227 => (some t227)) else (some false)))) else (some false))))) else ((front_Meet.f k l0 l1).bind fun t228 => ((front_LessEq.f k t228 l0).bind fun t231 => (if t231 = true then ((front_Join.f k l0 l1).bind fun t232 => ((front_LessEq.f k l0 t232).bind fun t235 => (if t235 = true then ((runnellaw05_live.f k).bind fun t236 => (some t236)) else (some false)))) else (some false)))))) else (some false)))) else (some false)) = some r := by rw [if_pos rfl] at H; exact H
     clear H
     have H := H1
     clear H1
     by_cases c14 : (t204 == true) = true
     ·
      rw [if_pos c14] at H
      have c14b0 : (t204 == true) = true := c14
      (try (have c14b1 : decide (t204 = true) = true := by simpa using c14))
      (try (have c14b2 : (t204 == true) = true := by simpa using c14))
      clear c14
      replace H := Option.bind_eq_some_iff.mp H
      obtain ⟨t205, A150, H⟩ := H
      replace H : ((front_Ahead.f k t205 a2_0 a2_1).bind fun t208 => (if (t208 == t200) = true then ((front_LessEq.f k l0 l1).bind fun t209 => (if t209 = true then (if t200 = true then ((front_Meet.f k l0 l1).bind fun t210 => ((front_LessEq.f k t210 l0).bind fun t213 => (if t213 = true then ((front_Join.f k l0 l1).bind fun t214 => ((front_LessEq.f k l0 t214).bind fun t217 => (if t217 = true then ((runnellaw05_live.f k).bind fun t218 => (some t218)) else (some false)))) else (some false)))) else ((front_Meet.f k l0 l1).bind fun t219 => ((front_LessEq.f k t219 l0).bind fun t222 => (if t222 = true then ((front_Join.f k l0 l1).bind fun t223 => ((front_LessEq.f k l0 t223).bind fun t226 => (if t226 = true then ((runnellaw05_live.f k).bind fun t227 => (some t227)) else (some false)))) else (some false))))) else ((front_Meet.f k l0 l1).bind fun t228 => ((front_LessEq.f k t228 l0).bind fun t231 => (if t231 = true then ((front_Join.f k l0 l1).bind fun t232 => ((front_LessEq.f k l0 t232).bind fun t235 => (if t235 = true then ((runnellaw05_live.f k).bind fun t236 => (some t236)) else (some false)))) else (some false)))))) else (some false))) = some r := H
      have A15 := Aside0.mk A150
      clear A150
      replace H := Option.bind_eq_some_iff.mp H
      obtain ⟨t208, A160, H⟩ := H
      replace H : (if (t208 == t200) = true then ((front_LessEq.f k l0 l1).bind fun t209 => (if t209 = true then (if t200 = true then ((front_Meet.f k l0 l1).bind fun t210 => ((front_LessEq.f k t210 l0).bind fun t213 => (if t213 = true then ((front_Join.f k l0 l1).bind fun t214 => ((front_LessEq.f k l0 t214).bind fun t217 => (if t217 = true then ((runnellaw05_live.f k).bind fun t218 => (some t218)) else (some false)))) else (some false)))) else ((front_Meet.f k l0 l1).bind fun t219 => ((front_LessEq.f k t219 l0).bind fun t222 => (if t222 = true then ((front_Join.f k l0 l1).bind fun t223 => ((front_LessEq.f k l0 t223).bind fun t226 => (if t226 = true then ((runnellaw05_live.f k).bind fun t227 => (some t227)) else (some false)))) else (some false))))) else ((front_Meet.f k l0 l1).bind fun t228 => ((front_LessEq.f k t228 l0).bind fun t231 => (if t231 = true then ((front_Join.f k l0 l1).bind fun t232 => ((front_LessEq.f k l0 t232).bind fun t235 => (if t235 = true then ((runnellaw05_live.f k).bind fun t236 => (some t236)) else (some false)))) else (some false)))))) else (some false)) = some r := H
      have A16 := Aside0.mk A160
      clear A160
      by_cases c17 : (t208 == t200) = true
      ·
       rw [if_pos c17] at H
       have c17b0 : (t208 == t200) = true := c17
       (try (have c17b1 : decide (t208 = t200) = true := by simpa using c17))
       (try (have c17b2 : (t208 == t200) = true := by simpa using c17))
       clear c17
       replace H := Option.bind_eq_some_iff.mp H
       obtain ⟨t209, A180, H⟩ := H
       replace H : (if t209 = true then (if t200 = true then ((front_Meet.f k l0 l1).bind fun t210 => ((front_LessEq.f k t210 l0).bind fun t213 => (if t213 = true then ((front_Join.f k l0 l1).bind fun t214 => ((front_LessEq.f k l0 t214).bind fun t217 => (if t217 = true then ((runnellaw05_live.f k).bind fun t218 => (some t218)) else (some false)))) else (some false)))) else ((front_Meet.f k l0 l1).bind fun t219 => ((front_LessEq.f k t219 l0).bind fun t222 => (if t222 = true then ((front_Join.f k l0 l1).bind fun t223 => ((front_LessEq.f k l0 t223).bind fun t226 => (if t226 = true then ((runnellaw05_live.f k).bind fun t227 => (some t227)) else (some false)))) else (some false))))) else ((front_Meet.f k l0 l1).bind fun t228 => ((front_LessEq.f k t228 l0).bind fun t231 => (if t231 = true then ((front_Join.f k l0 l1).bind fun t232 => ((front_LessEq.f k l0 t232).bind fun t235 => (if t235 = true then ((runnellaw05_live.f k).bind fun t236 => (some t236)) else (some false)))) else (some false))))) = some r := H
       have A18 := Aside0.mk A180
       clear A180
       by_cases c19 : t209 = true
       ·
        subst c19
        have H1 : (if t200 = true then ((front_Meet.f k l0 l1).bind fun t210 => ((front_LessEq.f k t210 l0).bind fun t213 => (if t213 = true then ((front_Join.f k l0 l1).bind fun t214 => ((front_LessEq.f k l0 t214).bind fun t217 => (if t217 = true then ((runnellaw05_live.f k).bind fun t218 => (some t218)) else (some false)))) else (some false)))) else ((front_Meet.f k l0 l1).bind fun t219 => ((front_LessEq.f k t219 l0).bind fun t222 => (if t222 = true then ((front_Join.f k l0 l1).bind fun t223 => ((front_LessEq.f k l0 t223).bind fun t226 => (if t226 = true then ((runnellaw05_live.f k).bind fun t227 => (some t227)) else (some false)))) else (some false))))) = some r := by rw [if_pos rfl] at H; exact H
        clear H
        have H := H1
        clear H1
        by_cases c20 : t200 = true
        ·
         revert hu24
         repeat (first | revert ‹Exit → Act → World → Prop› | revert ‹Nat → Act → World → Prop› | revert ‹Act → World → Prop› | revert ‹World → Prop› | revert ‹World› | revert ‹Nat› | revert ‹Int› | revert ‹Bool› | revert ‹Value› | revert ‹Option Addr› | revert ‹Addr› | revert ‹List Int› | revert ‹List Nat› | revert ‹String› | revert ‹List Bool› | revert ‹List (List Int)› | revert ‹Exit› | revert ‹S24› | revert ‹List (S24)›)
         exact hl_0.out
        ·
         revert hu24
         repeat (first | revert ‹Exit → Act → World → Prop› | revert ‹Nat → Act → World → Prop› | revert ‹Act → World → Prop› | revert ‹World → Prop› | revert ‹World› | revert ‹Nat› | revert ‹Int› | revert ‹Bool› | revert ‹Value› | revert ‹Option Addr› | revert ‹Addr› | revert ‹List Int› | revert ‹List Nat› | revert ‹String› | revert ‹List Bool› | revert ‹List (List Int)› | revert ‹Exit› | revert ‹S24› | revert ‹List (S24)›)
         exact hl_1.out
       ·
        replace c19 := Bool.eq_false_iff.mpr c19
        subst c19
        have H1 : ((front_Meet.f k l0 l1).bind fun t228 => ((front_LessEq.f k t228 l0).bind fun t231 => (if t231 = true then ((front_Join.f k l0 l1).bind fun t232 => ((front_LessEq.f k l0 t232).bind fun t235 => (if t235 = true then ((runnellaw05_live.f k).bind fun t236 => (some t236)) else (some false)))) else (some false)))) = some r := by rw [if_neg (show ¬ (false = true) by decide)] at H; exact H
        clear H
        have H := H1
        clear H1
        replace H := Option.bind_eq_some_iff.mp H
        obtain ⟨t228, A1390, H⟩ := H
        replace H : ((front_LessEq.f k t228 l0).bind fun t231 => (if t231 = true then ((front_Join.f k l0 l1).bind fun t232 => ((front_LessEq.f k l0 t232).bind fun t235 => (if t235 = true then ((runnellaw05_live.f k).bind fun t236 => (some t236)) else (some false)))) else (some false))) = some r := H
        have A139 := Aside0.mk A1390
        clear A1390
        replace H := Option.bind_eq_some_iff.mp H
        obtain ⟨t231, A1400, H⟩ := H
        replace H : (if t231 = true then ((front_Join.f k l0 l1).bind fun t232 => ((front_LessEq.f k l0 t232).bind fun t235 => (if t235 = true then ((runnellaw05_live.f k).bind fun t236 => (some t236)) else (some false)))) else (some false)) = some r := H
        have A140 := Aside0.mk A1400
        clear A1400
        by_cases c141 : t231 = true
        ·
         subst c141
         have H1 : ((front_Join.f k l0 l1).bind fun t232 => ((front_LessEq.f k l0 t232).bind fun t235 => (if t235 = true then ((runnellaw05_live.f k).bind fun t236 => (some t236)) else (some false)))) = some r := by rw [if_pos rfl] at H; exact H
         clear H
         have H := H1
         clear H1
         replace H := Option.bind_eq_some_iff.mp H
         obtain ⟨t232, A1420, H⟩ := H
         replace H : ((front_LessEq.f k l0 t232).bind fun t235 => (if t235 = true then ((runnellaw05_live.f k).bind fun t236 => (some t236)) else (some false))) = some r := H
         have A142 := Aside0.mk A1420
         clear A1420
         replace H := Option.bind_eq_some_iff.mp H
         obtain ⟨t235, A1430, H⟩ := H
         replace H : (if t235 = true then ((runnellaw05_live.f k).bind fun t236 => (some t236)) else (some false)) = some r := H
         have A143 := Aside0.mk A1430
         clear A1430
         by_cases c144 : t235 = true
         ·
          subst c144
          have H1 : ((runnellaw05_live.f k).bind fun t236 => (some t236)) = some r := by rw [if_pos rfl] at H; exact H
          clear H
          have H := H1
          clear H1
          replace H := Option.bind_eq_some_iff.mp H
          obtain ⟨t236, A1450, H⟩ := H
          replace H : (some t236) = some r := H
          have A145 := Aside0.mk A1450
          clear A1450
          obtain rfl := Option.some.inj H
          go_enter Try.func7, Try.ntmps7
          try go_wp2_with (first | ((with_reducible refine gate_dst (N := 5) rfl ?_); refine box_event ?hg (N := 5) ?hd (cs := #[.int .i64 a2_0, .int .i64 a2_1]) (t := 24) ?hr ?_; (case hd => rfl); (case hg => rfl); (case hr => first | (go_simp; done) | (go_simp; rfl)); intro gb196 hg w146 hbox hb; have n0_ := Aside0.mk (below_step (by repeat (first | (with_reducible first | exact HB.out | apply below_alloc | apply pw_below_drewN | apply below_drew1) | exact HB.out)) hb); have n1_ := Aside0.mk (hbox); have n2_ := Aside0.mk ((by rw [hg]; exact (below_size (by repeat (first | (with_reducible first | exact HB.out | apply below_alloc | apply pw_below_drewN | apply below_drew1) | exact HB.out))) : w.heap.size ≤ gb196)); have n3_ := Aside0.mk ((by rw [hg]; exact (below_size (by repeat (first | (with_reducible first | exact HB.out | apply below_alloc | apply pw_below_drewN | apply below_drew1) | exact HB.out))) : w.heap.size ≤ gb196)); clear HB; have HB := n0_; have BK196 := n1_; have GW196 := n2_; have GE196 := n3_; clear n0_ n1_ n2_ n3_; clear hb hbox hg) | ((with_reducible refine gate_callee (f := 9) rfl ?_); refine goesL_ (some 11) rfl rfl Try.func9 (by kernel_rfl) rfl #[.slice A0 l0.length c0, .slice A1 l1.length c1] rfl (by (try simp only [List.map_toArray, List.map_cons, List.map_nil]); first | done | rfl | (simp only [List.length_drop, List.length_take]; rfl)) ?_; (with_reducible refine (runnellaw05_much.calls _ _ l0 _ _ l1 false _ ?side1 ?side2 ?side3 ?side4 A4.out).mono ?_); (case side1 => repeat (first | exact (Kd.C_below HR0.out HB.out) | (with_reducible refine Kd.C_alloc ?_ _) | (with_reducible refine Kd.C_drewN ?_ _) | (with_reducible refine Kd.C_drew ?_))); (case side2 => exact HC0.out); (case side3 => repeat (first | exact (Kd.C_below HR1.out HB.out) | (with_reducible refine Kd.C_alloc ?_ _) | (with_reducible refine Kd.C_drewN ?_ _) | (with_reducible refine Kd.C_drew ?_))); (case side4 => exact HC1.out); rintro e w' ⟨rfl, ⟨nd, rfl⟩⟩; refine ⟨_, rfl, ?_⟩))
          (try (rw [drewN_self w146]; generalize hq_ : World.drewN w146 _ = w146; have n0_ : Aside0 (w146.heap[gb196]? = some (.cells #[.int .i64 a2_0, .int .i64 a2_1] 24 (0, 0))) := ⟨by rw [← hq_]; exact (by (with_reducible repeat (first | refine blk_drewN ?_ _ | refine blk_drew ?_ | refine blk_alloc ?_ _)); exact BK196.out)⟩; have n1_ : Aside0 (Below w.heap.size w w146) := ⟨by rw [← hq_]; exact (by repeat (first | (with_reducible first | exact HB.out | apply below_alloc | apply pw_below_drewN | apply below_drew1 | refine below_set ?_ GE196.out) | exact HB.out))⟩; clear BK196 HB hq_; have BK196 := n0_; have HB := n1_; clear n0_ n1_))
          have n0_ := Aside0.mk (blk_drew BK196.out)
          have n1_ := Aside0.mk (below_drew1 HB.out)
          clear BK196
          clear HB
          have BK196 := n0_
          have HB := n1_
          clear n0_ n1_
          refine start_ (n := 8) (S := fun w' => w'.cell? ⟨gb196, 0, none⟩ = some (.int .i64 a2_0) ∧ w'.cell? ⟨gb196, 1, none⟩ = some (.int .i64 a2_1)) (ds := []) #[false, false, false, false, false, false, false, false] (by kernel_rfl) rfl rfl ⟨(blk_cell BK196.out 0).trans rfl, (blk_cell BK196.out 1).trans rfl⟩ (fun hHeld => ?_); refine with_tabW runnellaw05_FrontBounds.tab3 runnellaw05_FrontBounds.bits3 (fun HT_ HW_ => ?_)
          generalize w146.drew = w147 at BK196 HB hHeld ⊢
          refine pure_ (i := 0) (N := some 13) (v := ?_) (a' := ?_) #[true, false, false, false, false, false, false, false] rfl rfl (any_of HT_.out (by kernel_rfl)) (fun _ _ _ h => h) (Or.inl ⟨by rfl, ?_⟩) ?_ ?_
          rotate_left
          ·
           intro w'
           go_simp
           with_reducible rfl
          rotate_left
          ·
           simp only [Act.put, List.setIfInBounds_toArray, List.set_cons_zero, List.set_cons_succ, i64_w, i32_w]
           rfl
          refine pure_ (i := 3) (N := some 16) (v := ?_) (a' := ?_) #[true, false, false, true, false, false, false, false] rfl rfl (any_of HT_.out (by kernel_rfl)) (fun _ _ _ h => h) (Or.inl ⟨by rfl, ?_⟩) ?_ ?_
          rotate_left
          ·
           intro w'
           go_simp
           with_reducible rfl
          rotate_left
          ·
           simp only [Act.put, List.setIfInBounds_toArray, List.set_cons_zero, List.set_cons_succ, i64_w, i32_w]
           rfl
          refine take_ (i := 1) (N := some 14) (v := ?_) (a' := ?_) #[true, true, false, true, false, false, false, false] rfl rfl (take_ofW HT_.out HW_.out (by kernel_rfl)) (fun _ _ _ h => h) (Or.inl ⟨by rfl, ?_⟩) hHeld ?_ ?_
          rotate_left
          ·
           rintro w' ⟨s0, s1⟩
           go_simp
           with_reducible rfl
          rotate_left
          ·
           simp only [Act.put, List.setIfInBounds_toArray, List.set_cons_zero, List.set_cons_succ, i64_w, i32_w]
           rfl
          refine take_ (i := 4) (N := some 17) (v := ?_) (a' := ?_) #[true, true, false, true, true, false, false, false] rfl rfl (take_ofW HT_.out HW_.out (by kernel_rfl)) (fun _ _ _ h => h) (Or.inl ⟨by rfl, ?_⟩) hHeld ?_ ?_
          rotate_left
          ·
           rintro w' ⟨s0, s1⟩
           go_simp
           with_reducible rfl
          rotate_left
          ·
           simp only [Act.put, List.setIfInBounds_toArray, List.set_cons_zero, List.set_cons_succ, i64_w, i32_w]
           rfl
          refine one_ (i := 2) (N := some 15) #[true, true, true, true, true, false, false, false] rfl rfl (one_of HT_.out (by kernel_rfl)) (by decide) (fun K hK => ?_)
          refine goes_ Try.func14 (by kernel_rfl) rfl #[.slice A0 l0.length c0, .agg #[.int .i64 a2_0, .int .i64 a2_1]] (by rfl) rfl rfl (by (try simp only [List.map_toArray, List.map_cons, List.map_nil]); first | done | rfl | (simp only [List.length_drop, List.length_take]; rfl)) ?_
          with_reducible refine (front_Ahead.calls k _ _ l0 a2_0 a2_1 true _ ?side1 ?side2 A9.out).mono ?_
          (case side1 => repeat (first | exact (Kd.C_below HR0.out HB.out) | (with_reducible refine Kd.C_alloc ?_ _) | (with_reducible refine Kd.C_drewN ?_ _) | (with_reducible refine Kd.C_drew ?_)))
          (case side2 => exact HC0.out)
          rintro e w148 ⟨rfl, hb⟩
          refine ⟨_, rfl, ?_⟩
          have n0_ := Aside0.mk (blk_below (g := gb196) (o := .cells #[.int .i64 a2_0, .int .i64 a2_1] 24 (0, 0)) (by (with_reducible repeat (first | refine blk_drewN ?_ _ | refine blk_drew ?_ | refine blk_alloc ?_ _)); exact BK196.out) hb)
          have n1_ := Aside0.mk (below_step (by repeat (first | (with_reducible first | exact HB.out | apply below_alloc | apply pw_below_drewN | apply below_drew1 | refine below_set ?_ GE196.out) | exact HB.out)) hb)
          clear BK196
          clear HB
          have BK196 := n0_
          have HB := n1_
          clear n0_ n1_
          (try clear hb)
          (try clear hb2)
          (try clear hk)
          (try clear hi)
          refine hK.out _ _ ⟨(blk_cell BK196.out 0).trans rfl, (blk_cell BK196.out 1).trans rfl⟩ (fun hHeld => ?_)
          clear hK K
          refine norm_ (a' := ?_) ?_ ?_
          rotate_left
          ·
           show Act.put _ (some 15) _ = _
           simp only [Act.put, List.setIfInBounds_toArray, List.set_cons_zero, List.set_cons_succ, i64_w, i32_w]
           rfl
          refine one_ (i := 5) (N := some 18) #[true, true, true, true, true, true, false, false] rfl rfl (one_of HT_.out (by kernel_rfl)) (by decide) (fun K hK => ?_)
          refine goes_ Try.func14 (by kernel_rfl) rfl #[.slice A1 l1.length c1, .agg #[.int .i64 a2_0, .int .i64 a2_1]] (by rfl) rfl rfl (by (try simp only [List.map_toArray, List.map_cons, List.map_nil]); first | done | rfl | (simp only [List.length_drop, List.length_take]; rfl)) ?_
          with_reducible refine (front_Ahead.calls k _ _ l1 a2_0 a2_1 t200 _ ?side1 ?side2 A10.out).mono ?_
          (case side1 => repeat (first | exact (Kd.C_below HR1.out HB.out) | (with_reducible refine Kd.C_alloc ?_ _) | (with_reducible refine Kd.C_drewN ?_ _) | (with_reducible refine Kd.C_drew ?_)))
          (case side2 => exact HC1.out)
          rintro e w149 ⟨rfl, hb⟩
          refine ⟨_, rfl, ?_⟩
          have n0_ := Aside0.mk (blk_below (g := gb196) (o := .cells #[.int .i64 a2_0, .int .i64 a2_1] 24 (0, 0)) (by (with_reducible repeat (first | refine blk_drewN ?_ _ | refine blk_drew ?_ | refine blk_alloc ?_ _)); exact BK196.out) hb)
          have n1_ := Aside0.mk (below_step (by repeat (first | (with_reducible first | exact HB.out | apply below_alloc | apply pw_below_drewN | apply below_drew1 | refine below_set ?_ GE196.out) | exact HB.out)) hb)
          clear BK196
          clear HB
          have BK196 := n0_
          have HB := n1_
          clear n0_ n1_
          (try clear hb)
          (try clear hb2)
          (try clear hk)
          (try clear hi)
          refine hK.out _ _ ⟨(blk_cell BK196.out 0).trans rfl, (blk_cell BK196.out 1).trans rfl⟩ (fun hHeld => ?_)
          clear hK K
          refine norm_ (a' := ?_) ?_ ?_
          rotate_left
          ·
           show Act.put _ (some 18) _ = _
           simp only [Act.put, List.setIfInBounds_toArray, List.set_cons_zero, List.set_cons_succ, i64_w, i32_w]
           rfl
          refine pure_ (i := 6) (N := some 7) (v := ?_) (a' := ?_) #[true, true, true, true, true, true, true, false] rfl rfl (any_of HT_.out (by kernel_rfl)) (fun _ _ _ h => h) (Or.inl ⟨by rfl, ?_⟩) ?_ ?_
          rotate_left
          ·
           intro w'
           go_simp
           with_reducible rfl
          rotate_left
          ·
           simp only [Act.put, List.setIfInBounds_toArray, List.set_cons_zero, List.set_cons_succ, i64_w, i32_w]
           rfl
          refine pure_ (i := 7) (N := some 8) (v := ?_) (a' := ?_) #[true, true, true, true, true, true, true, true] rfl rfl (any_of HT_.out (by kernel_rfl)) (fun _ _ _ h => h) (Or.inl ⟨by rfl, ?_⟩) ?_ ?_
          rotate_left
          ·
           intro w'
           go_simp
           with_reducible rfl
          rotate_left
          ·
           simp only [Act.put, List.setIfInBounds_toArray, List.set_cons_zero, List.set_cons_succ, i64_w, i32_w]
           rfl
          refine done_ (done_of HT_.out (by kernel_rfl)) ?_
          try go_wp2
          have n0_ := Aside0.mk (blk_drew BK196.out)
          have n1_ := Aside0.mk (below_drew1 HB.out)
          clear BK196
          clear HB
          have BK196 := n0_
          have HB := n1_
          clear n0_ n1_
          refine start_ (n := 53) (S := fun w' => w'.cell? ⟨gb196, 0, none⟩ = some (.int .i64 a2_0) ∧ w'.cell? ⟨gb196, 1, none⟩ = some (.int .i64 a2_1)) (ds := []) #[false, false, false, false, false, false, false, false, false, false, false, false, false, false, false, false, false, false, false, false, false, false, false, false, false, false, false, false, false, false, false, false, false, false, false, false, false, false, false, false, false, false, false, false, false, false, false, false, false, false, false, false, false] (by kernel_rfl) rfl rfl ⟨(blk_cell BK196.out 0).trans rfl, (blk_cell BK196.out 1).trans rfl⟩ (fun hHeld => ?_); refine with_tabW runnellaw05_FrontBounds.tab4 runnellaw05_FrontBounds.bits4 (fun HT_ HW_ => ?_)
          generalize w149.drew = w150 at BK196 HB hHeld ⊢
          refine pure_ (i := 0) (N := some 19) (v := ?_) (a' := ?_) #[true, false, false, false, false, false, false, false, false, false, false, false, false, false, false, false, false, false, false, false, false, false, false, false, false, false, false, false, false, false, false, false, false, false, false, false, false, false, false, false, false, false, false, false, false, false, false, false, false, false, false, false, false] rfl rfl (any_of HT_.out (by kernel_rfl)) (fun _ _ _ h => h) (Or.inl ⟨by rfl, ?_⟩) ?_ ?_
          rotate_left
          ·
           intro w'
           go_simp
           with_reducible rfl
          rotate_left
          ·
           simp only [Act.put, List.setIfInBounds_toArray, List.set_cons_zero, List.set_cons_succ, i64_w, i32_w]
           rfl
          refine pure_ (i := 1) (N := some 20) (v := ?_) (a' := ?_) #[true, true, false, false, false, false, false, false, false, false, false, false, false, false, false, false, false, false, false, false, false, false, false, false, false, false, false, false, false, false, false, false, false, false, false, false, false, false, false, false, false, false, false, false, false, false, false, false, false, false, false, false, false] rfl rfl (any_of HT_.out (by kernel_rfl)) (fun _ _ _ h => h) (Or.inl ⟨by rfl, ?_⟩) ?_ ?_
          rotate_left
          ·
           intro w'
           go_simp
           with_reducible rfl
          rotate_left
          ·
           simp only [Act.put, List.setIfInBounds_toArray, List.set_cons_zero, List.set_cons_succ, i64_w, i32_w]
           rfl
          refine pure_ (i := 5) (N := some 24) (v := ?_) (a' := ?_) #[true, true, false, false, false, true, false, false, false, false, false, false, false, false, false, false, false, false, false, false, false, false, false, false, false, false, false, false, false, false, false, false, false, false, false, false, false, false, false, false, false, false, false, false, false, false, false, false, false, false, false, false, false] rfl rfl (any_of HT_.out (by kernel_rfl)) (fun _ _ _ h => h) (Or.inl ⟨by rfl, ?_⟩) ?_ ?_
          rotate_left
          ·
           intro w'
           go_simp
           with_reducible rfl
          rotate_left
          ·
           simp only [Act.put, List.setIfInBounds_toArray, List.set_cons_zero, List.set_cons_succ, i64_w, i32_w]
           rfl
          refine take_ (i := 3) (N := some 22) (v := ?_) (a' := ?_) #[true, true, false, true, false, true, false, false, false, false, false, false, false, false, false, false, false, false, false, false, false, false, false, false, false, false, false, false, false, false, false, false, false, false, false, false, false, false, false, false, false, false, false, false, false, false, false, false, false, false, false, false, false] rfl rfl (take_ofW HT_.out HW_.out (by kernel_rfl)) (fun _ _ _ h => h) (Or.inl ⟨by rfl, ?_⟩) hHeld ?_ ?_
          rotate_left
          ·
           rintro w' ⟨s0, s1⟩
           go_simp
           with_reducible rfl
          rotate_left
          ·
           simp only [Act.put, List.setIfInBounds_toArray, List.set_cons_zero, List.set_cons_succ, i64_w, i32_w]
           rfl
          refine one_ (i := 2) (N := some 21) #[true, true, true, true, false, true, false, false, false, false, false, false, false, false, false, false, false, false, false, false, false, false, false, false, false, false, false, false, false, false, false, false, false, false, false, false, false, false, false, false, false, false, false, false, false, false, false, false, false, false, false, false, false] rfl rfl (one_of HT_.out (by kernel_rfl)) (by decide) (fun K hK => ?_)
          refine goes_ Try.func23 (by kernel_rfl) rfl #[.slice A0 l0.length c0, .slice A1 l1.length c1] (by rfl) rfl rfl (by (try simp only [List.map_toArray, List.map_cons, List.map_nil]); first | done | rfl | (simp only [List.length_drop, List.length_take]; rfl)) ?_
          with_reducible refine (front_Meet.calls k _ _ l0 _ _ l1 t201 _ ?side1 ?side2 ?side3 ?side4 A11.out).mono ?_
          (case side1 => repeat (first | exact (Kd.C_below HR0.out HB.out) | (with_reducible refine Kd.C_alloc ?_ _) | (with_reducible refine Kd.C_drewN ?_ _) | (with_reducible refine Kd.C_drew ?_)))
          (case side2 => exact HC0.out)
          (case side3 => repeat (first | exact (Kd.C_below HR1.out HB.out) | (with_reducible refine Kd.C_alloc ?_ _) | (with_reducible refine Kd.C_drewN ?_ _) | (with_reducible refine Kd.C_drew ?_)))
          (case side4 => exact HC1.out)
          rintro e w151 ⟨v202, rfl, ho0, hb⟩
          refine ⟨_, rfl, ?_⟩
          have n0_ := Aside0.mk (Kd.R_lower (Kd.R_newB ho0 (g := gb196) (o := .cells #[.int .i64 a2_0, .int .i64 a2_1] 24 (0, 0)) (by (with_reducible repeat (first | refine blk_drewN ?_ _ | refine blk_drew ?_ | refine blk_alloc ?_ _)); exact BK196.out)) (below_size (by repeat (first | (with_reducible first | exact HB.out | apply below_alloc | apply pw_below_drewN | apply below_drew1 | refine below_set ?_ GE196.out) | exact HB.out))))
          have n1_ := Aside0.mk (blk_below (g := gb196) (o := .cells #[.int .i64 a2_0, .int .i64 a2_1] 24 (0, 0)) (by (with_reducible repeat (first | refine blk_drewN ?_ _ | refine blk_drew ?_ | refine blk_alloc ?_ _)); exact BK196.out) hb)
          have n2_ := Aside0.mk (below_step (by repeat (first | (with_reducible first | exact HB.out | apply below_alloc | apply pw_below_drewN | apply below_drew1 | refine below_set ?_ GE196.out) | exact HB.out)) hb)
          clear BK196
          clear HB
          have HO203 := n0_
          have BK196 := n1_
          have HB := n2_
          clear n0_ n1_ n2_
          (try clear hb)
          (try clear hb2)
          (try clear hk)
          (try clear hi)
          (try clear ho0)
          obtain ⟨Ao152, co152, eo152⟩ := Kd.R_slice HO203.out
          (first | subst eo152 | (injection eo152 with f1_ f2_ f3_; have f4_ := f1_.symm; have f5_ := f3_.symm; clear f1_ f2_ f3_; subst f4_; subst f5_))
          refine hK.out _ _ ⟨(blk_cell BK196.out 0).trans rfl, (blk_cell BK196.out 1).trans rfl⟩ (fun hHeld => ?_)
          clear hK K
          refine norm_ (a' := ?_) ?_ ?_
          rotate_left
          ·
           show Act.put _ (some 21) _ = _
           simp only [Act.put, List.setIfInBounds_toArray, List.set_cons_zero, List.set_cons_succ, i64_w, i32_w]
           rfl
          refine one_ (i := 4) (N := some 23) #[true, true, true, true, true, true, false, false, false, false, false, false, false, false, false, false, false, false, false, false, false, false, false, false, false, false, false, false, false, false, false, false, false, false, false, false, false, false, false, false, false, false, false, false, false, false, false, false, false, false, false, false, false] rfl rfl (one_of HT_.out (by kernel_rfl)) (by decide) (fun K hK => ?_)
          refine goes_ Try.func14 (by kernel_rfl) rfl #[.slice Ao152 t201.length co152, .agg #[.int .i64 a2_0, .int .i64 a2_1]] (by rfl) rfl rfl (by (try simp only [List.map_toArray, List.map_cons, List.map_nil]); first | done | rfl | (simp only [List.length_drop, List.length_take]; rfl)) ?_
          with_reducible refine (front_Ahead.calls k _ _ t201 a2_0 a2_1 t204 _ ?side1 ?side2 A12.out).mono ?_
          (case side1 => repeat (first | exact (Kd.R_reads' HO203.out).2.2 | (with_reducible refine Kd.C_alloc ?_ _) | (with_reducible refine Kd.C_drewN ?_ _) | (with_reducible refine Kd.C_drew ?_)))
          (case side2 => exact (Kd.R_reads' HO203.out).2.1)
          rintro e w153 ⟨rfl, hb⟩
          refine ⟨_, rfl, ?_⟩
          have n0_ := Aside0.mk (Kd.R_below (by (with_reducible repeat (first | apply Kd.R_alloc | apply Kd.R_drewN | apply Kd.R_drew)); exact HO203.out) hb)
          have n1_ := Aside0.mk (blk_below (g := gb196) (o := .cells #[.int .i64 a2_0, .int .i64 a2_1] 24 (0, 0)) (by (with_reducible repeat (first | refine blk_drewN ?_ _ | refine blk_drew ?_ | refine blk_alloc ?_ _)); exact BK196.out) hb)
          have n2_ := Aside0.mk (below_step (by repeat (first | (with_reducible first | exact HB.out | apply below_alloc | apply pw_below_drewN | apply below_drew1 | refine below_set ?_ GE196.out) | exact HB.out)) hb)
          clear HO203
          clear BK196
          clear HB
          have HO203 := n0_
          have BK196 := n1_
          have HB := n2_
          clear n0_ n1_ n2_
          (try clear hb)
          (try clear hb2)
          (try clear hk)
          (try clear hi)
          refine hK.out _ _ ⟨(blk_cell BK196.out 0).trans rfl, (blk_cell BK196.out 1).trans rfl⟩ (fun hHeld => ?_)
          clear hK K
          refine norm_ (a' := ?_) ?_ ?_
          rotate_left
          ·
           show Act.put _ (some 23) _ = _
           simp only [Act.put, List.setIfInBounds_toArray, List.set_cons_zero, List.set_cons_succ, i64_w, i32_w]
           rfl
          refine pure_ (i := 6) (N := some 25) (v := ?_) (a' := ?_) #[true, true, true, true, true, true, true, false, false, false, false, false, false, false, false, false, false, false, false, false, false, false, false, false, false, false, false, false, false, false, false, false, false, false, false, false, false, false, false, false, false, false, false, false, false, false, false, false, false, false, false, false, false] rfl rfl (any_of HT_.out (by kernel_rfl)) (fun _ _ _ h => h) (Or.inl ⟨by rfl, ?_⟩) ?_ ?_
          rotate_left
          ·
           intro w'
           go_simp
           with_reducible rfl
          rotate_left
          ·
           simp only [Act.put, List.setIfInBounds_toArray, List.set_cons_zero, List.set_cons_succ, i64_w, i32_w]
           rfl
          refine pure_ (i := 7) (N := some 26) (v := undef) (a' := ?_) #[true, true, true, true, true, true, true, true, false, false, false, false, false, false, false, false, false, false, false, false, false, false, false, false, false, false, false, false, false, false, false, false, false, false, false, false, false, false, false, false, false, false, false, false, false, false, false, false, false, false, false, false, false] rfl rfl (any_of HT_.out (by kernel_rfl)) (fun _ _ _ h => h) (Or.inr ⟨by rfl, rfl⟩) ?_ ?_
          rotate_left
          ·
           simp only [Act.put, List.setIfInBounds_toArray, List.set_cons_zero, List.set_cons_succ, i64_w, i32_w]
           rfl
          refine pure_ (i := 8) (N := some 27) (v := ?_) (a' := ?_) #[true, true, true, true, true, true, true, true, true, false, false, false, false, false, false, false, false, false, false, false, false, false, false, false, false, false, false, false, false, false, false, false, false, false, false, false, false, false, false, false, false, false, false, false, false, false, false, false, false, false, false, false, false] rfl rfl (any_of HT_.out (by kernel_rfl)) (fun _ _ _ h => h) (Or.inl ⟨by rfl, ?_⟩) ?_ ?_
          rotate_left
          ·
           intro w'
           go_simp
           with_reducible rfl
          rotate_left
          ·
           simp only [Act.put, List.setIfInBounds_toArray, List.set_cons_zero, List.set_cons_succ, i64_w, i32_w]
           rfl
          refine pure_ (i := 9) (N := some 28) (v := ?_) (a' := ?_) #[true, true, true, true, true, true, true, true, true, true, false, false, false, false, false, false, false, false, false, false, false, false, false, false, false, false, false, false, false, false, false, false, false, false, false, false, false, false, false, false, false, false, false, false, false, false, false, false, false, false, false, false, false] rfl rfl (any_of HT_.out (by kernel_rfl)) (fun _ _ _ h => h) (Or.inl ⟨by rfl, ?_⟩) ?_ ?_
          rotate_left
          ·
           intro w'
           go_simp
           with_reducible rfl
          rotate_left
          ·
           simp only [Act.put, List.setIfInBounds_toArray, List.set_cons_zero, List.set_cons_succ, i64_w, i32_w]
           rfl
          refine pure_ (i := 10) (N := some 29) (v := ?_) (a' := ?_) #[true, true, true, true, true, true, true, true, true, true, true, false, false, false, false, false, false, false, false, false, false, false, false, false, false, false, false, false, false, false, false, false, false, false, false, false, false, false, false, false, false, false, false, false, false, false, false, false, false, false, false, false, false] rfl rfl (any_of HT_.out (by kernel_rfl)) (fun _ _ _ h => h) (Or.inl ⟨by rfl, ?_⟩) ?_ ?_
          rotate_left
          ·
           intro w'
           go_simp
           with_reducible rfl
          rotate_left
          ·
           simp only [Act.put, List.setIfInBounds_toArray, List.set_cons_zero, List.set_cons_succ, i64_w, i32_w]
           rfl
          refine pure_ (i := 11) (N := some 30) (v := ?_) (a' := ?_) #[true, true, true, true, true, true, true, true, true, true, true, true, false, false, false, false, false, false, false, false, false, false, false, false, false, false, false, false, false, false, false, false, false, false, false, false, false, false, false, false, false, false, false, false, false, false, false, false, false, false, false, false, false] rfl rfl (any_of HT_.out (by kernel_rfl)) (fun _ _ _ h => h) (Or.inl ⟨by rfl, ?_⟩) ?_ ?_
          rotate_left
          ·
           intro w'
           go_simp
           with_reducible rfl
          rotate_left
          ·
           simp only [Act.put, List.setIfInBounds_toArray, List.set_cons_zero, List.set_cons_succ, i64_w, i32_w]
           rfl
          refine pure_ (i := 12) (N := some 31) (v := ?_) (a' := ?_) #[true, true, true, true, true, true, true, true, true, true, true, true, true, false, false, false, false, false, false, false, false, false, false, false, false, false, false, false, false, false, false, false, false, false, false, false, false, false, false, false, false, false, false, false, false, false, false, false, false, false, false, false, false] rfl rfl (any_of HT_.out (by kernel_rfl)) (fun _ _ _ h => h) (Or.inl ⟨by rfl, ?_⟩) ?_ ?_
          rotate_left
          ·
           intro w'
           go_simp
           with_reducible rfl
          rotate_left
          ·
           simp only [Act.put, List.setIfInBounds_toArray, List.set_cons_zero, List.set_cons_succ, i64_w, i32_w]
           rfl
          refine pure_ (i := 16) (N := some 35) (v := ?_) (a' := ?_) #[true, true, true, true, true, true, true, true, true, true, true, true, true, false, false, false, true, false, false, false, false, false, false, false, false, false, false, false, false, false, false, false, false, false, false, false, false, false, false, false, false, false, false, false, false, false, false, false, false, false, false, false, false] rfl rfl (any_of HT_.out (by kernel_rfl)) (fun _ _ _ h => h) (Or.inl ⟨by rfl, ?_⟩) ?_ ?_
          rotate_left
          ·
           intro w'
           go_simp
           with_reducible rfl
          rotate_left
          ·
           simp only [Act.put, List.setIfInBounds_toArray, List.set_cons_zero, List.set_cons_succ, i64_w, i32_w]
           rfl
          refine take_ (i := 14) (N := some 33) (v := ?_) (a' := ?_) #[true, true, true, true, true, true, true, true, true, true, true, true, true, false, true, false, true, false, false, false, false, false, false, false, false, false, false, false, false, false, false, false, false, false, false, false, false, false, false, false, false, false, false, false, false, false, false, false, false, false, false, false, false] rfl rfl (take_ofW HT_.out HW_.out (by kernel_rfl)) (fun _ _ _ h => h) (Or.inl ⟨by rfl, ?_⟩) hHeld ?_ ?_
          rotate_left
          ·
           rintro w' ⟨s0, s1⟩
           go_simp
           with_reducible rfl
          rotate_left
          ·
           simp only [Act.put, List.setIfInBounds_toArray, List.set_cons_zero, List.set_cons_succ, i64_w, i32_w]
           rfl
          refine one_ (i := 13) (N := some 32) #[true, true, true, true, true, true, true, true, true, true, true, true, true, true, true, false, true, false, false, false, false, false, false, false, false, false, false, false, false, false, false, false, false, false, false, false, false, false, false, false, false, false, false, false, false, false, false, false, false, false, false, false, false] rfl rfl (one_of HT_.out (by kernel_rfl)) (by decide) (fun K hK => ?_)
          refine goes_ Try.func24 (by kernel_rfl) rfl #[.slice A0 l0.length c0, .slice A1 l1.length c1] (by rfl) rfl rfl (by (try simp only [List.map_toArray, List.map_cons, List.map_nil]); first | done | rfl | (simp only [List.length_drop, List.length_take]; rfl)) ?_
          with_reducible refine (front_Join.calls k _ _ l0 _ _ l1 t205 _ ?side1 ?side2 ?side3 ?side4 A15.out).mono ?_
          (case side1 => repeat (first | exact (Kd.C_below HR0.out HB.out) | (with_reducible refine Kd.C_alloc ?_ _) | (with_reducible refine Kd.C_drewN ?_ _) | (with_reducible refine Kd.C_drew ?_)))
          (case side2 => exact HC0.out)
          (case side3 => repeat (first | exact (Kd.C_below HR1.out HB.out) | (with_reducible refine Kd.C_alloc ?_ _) | (with_reducible refine Kd.C_drewN ?_ _) | (with_reducible refine Kd.C_drew ?_)))
          (case side4 => exact HC1.out)
          rintro e w154 ⟨v206, rfl, ho0, hb⟩
          refine ⟨_, rfl, ?_⟩
          have n0_ := Aside0.mk (Kd.R_elder' (by (with_reducible repeat (first | apply Kd.R_alloc | apply Kd.R_drewN | apply Kd.R_drew)); exact HO203.out) (Kd.R_base ho0) hb)
          have n1_ := Aside0.mk (Kd.R_lower (Kd.R_newB (Kd.R_new' ho0 (Kd.R_lt (by (with_reducible repeat (first | apply Kd.R_alloc | apply Kd.R_drewN | apply Kd.R_drew)); exact HO203.out))) (g := gb196) (o := .cells #[.int .i64 a2_0, .int .i64 a2_1] 24 (0, 0)) (by (with_reducible repeat (first | refine blk_drewN ?_ _ | refine blk_drew ?_ | refine blk_alloc ?_ _)); exact BK196.out)) (below_size (by repeat (first | (with_reducible first | exact HB.out | apply below_alloc | apply pw_below_drewN | apply below_drew1 | refine below_set ?_ GE196.out) | exact HB.out))))
          have n2_ := Aside0.mk (blk_below (g := gb196) (o := .cells #[.int .i64 a2_0, .int .i64 a2_1] 24 (0, 0)) (by (with_reducible repeat (first | refine blk_drewN ?_ _ | refine blk_drew ?_ | refine blk_alloc ?_ _)); exact BK196.out) hb)
          have n3_ := Aside0.mk (below_step (by repeat (first | (with_reducible first | exact HB.out | apply below_alloc | apply pw_below_drewN | apply below_drew1 | refine below_set ?_ GE196.out) | exact HB.out)) hb)
          clear HO203
          clear BK196
          clear HB
          have HO203 := n0_
          have HO207 := n1_
          have BK196 := n2_
          have HB := n3_
          clear n0_ n1_ n2_ n3_
          (try clear hb)
          (try clear hb2)
          (try clear hk)
          (try clear hi)
          (try clear ho0)
          obtain ⟨Ao155, co155, eo155⟩ := Kd.R_slice HO207.out
          (first | subst eo155 | (injection eo155 with f1_ f2_ f3_; have f4_ := f1_.symm; have f5_ := f3_.symm; clear f1_ f2_ f3_; subst f4_; subst f5_))
          refine hK.out _ _ ⟨(blk_cell BK196.out 0).trans rfl, (blk_cell BK196.out 1).trans rfl⟩ (fun hHeld => ?_)
          clear hK K
          refine norm_ (a' := ?_) ?_ ?_
          rotate_left
          ·
           show Act.put _ (some 32) _ = _
           simp only [Act.put, List.setIfInBounds_toArray, List.set_cons_zero, List.set_cons_succ, i64_w, i32_w]
           rfl
          refine one_ (i := 15) (N := some 34) #[true, true, true, true, true, true, true, true, true, true, true, true, true, true, true, true, true, false, false, false, false, false, false, false, false, false, false, false, false, false, false, false, false, false, false, false, false, false, false, false, false, false, false, false, false, false, false, false, false, false, false, false, false] rfl rfl (one_of HT_.out (by kernel_rfl)) (by decide) (fun K hK => ?_)
          refine goes_ Try.func14 (by kernel_rfl) rfl #[.slice Ao155 t205.length co155, .agg #[.int .i64 a2_0, .int .i64 a2_1]] (by rfl) rfl rfl (by (try simp only [List.map_toArray, List.map_cons, List.map_nil]); first | done | rfl | (simp only [List.length_drop, List.length_take]; rfl)) ?_
          with_reducible refine (front_Ahead.calls k _ _ t205 a2_0 a2_1 t208 _ ?side1 ?side2 A16.out).mono ?_
          (case side1 => repeat (first | exact (Kd.R_reads' HO207.out).2.2 | (with_reducible refine Kd.C_alloc ?_ _) | (with_reducible refine Kd.C_drewN ?_ _) | (with_reducible refine Kd.C_drew ?_)))
          (case side2 => exact (Kd.R_reads' HO207.out).2.1)
          rintro e w156 ⟨rfl, hb⟩
          refine ⟨_, rfl, ?_⟩
          have n0_ := Aside0.mk (Kd.R_below (by (with_reducible repeat (first | apply Kd.R_alloc | apply Kd.R_drewN | apply Kd.R_drew)); exact HO203.out) hb)
          have n1_ := Aside0.mk (Kd.R_below (by (with_reducible repeat (first | apply Kd.R_alloc | apply Kd.R_drewN | apply Kd.R_drew)); exact HO207.out) hb)
          have n2_ := Aside0.mk (blk_below (g := gb196) (o := .cells #[.int .i64 a2_0, .int .i64 a2_1] 24 (0, 0)) (by (with_reducible repeat (first | refine blk_drewN ?_ _ | refine blk_drew ?_ | refine blk_alloc ?_ _)); exact BK196.out) hb)
          have n3_ := Aside0.mk (below_step (by repeat (first | (with_reducible first | exact HB.out | apply below_alloc | apply pw_below_drewN | apply below_drew1 | refine below_set ?_ GE196.out) | exact HB.out)) hb)
          clear HO203
          clear HO207
          clear BK196
          clear HB
          have HO203 := n0_
          have HO207 := n1_
          have BK196 := n2_
          have HB := n3_
          clear n0_ n1_ n2_ n3_
          (try clear hb)
          (try clear hb2)
          (try clear hk)
          (try clear hi)
          refine hK.out _ _ ⟨(blk_cell BK196.out 0).trans rfl, (blk_cell BK196.out 1).trans rfl⟩ (fun hHeld => ?_)
          clear hK K
          refine norm_ (a' := ?_) ?_ ?_
          rotate_left
          ·
           show Act.put _ (some 34) _ = _
           simp only [Act.put, List.setIfInBounds_toArray, List.set_cons_zero, List.set_cons_succ, i64_w, i32_w]
           rfl
          refine pure_ (i := 17) (N := some 36) (v := ?_) (a' := ?_) #[true, true, true, true, true, true, true, true, true, true, true, true, true, true, true, true, true, true, false, false, false, false, false, false, false, false, false, false, false, false, false, false, false, false, false, false, false, false, false, false, false, false, false, false, false, false, false, false, false, false, false, false, false] rfl rfl (any_of HT_.out (by kernel_rfl)) (fun _ _ _ h => h) (Or.inl ⟨by rfl, ?_⟩) ?_ ?_
          rotate_left
          ·
           intro w'
           go_simp
           with_reducible rfl
          rotate_left
          ·
           simp only [Act.put, List.setIfInBounds_toArray, List.set_cons_zero, List.set_cons_succ, i64_w, i32_w]
           rfl
          refine pure_ (i := 18) (N := some 37) (v := ?_) (a' := ?_) #[true, true, true, true, true, true, true, true, true, true, true, true, true, true, true, true, true, true, true, false, false, false, false, false, false, false, false, false, false, false, false, false, false, false, false, false, false, false, false, false, false, false, false, false, false, false, false, false, false, false, false, false, false] rfl rfl (any_of HT_.out (by kernel_rfl)) (fun _ _ _ h => h) (Or.inl ⟨by rfl, ?_⟩) ?_ ?_
          rotate_left
          ·
           intro w'
           go_simp
           with_reducible rfl
          rotate_left
          ·
           simp only [Act.put, List.setIfInBounds_toArray, List.set_cons_zero, List.set_cons_succ, i64_w, i32_w]
           rfl
          refine pure_ (i := 19) (N := some 38) (v := ?_) (a' := ?_) #[true, true, true, true, true, true, true, true, true, true, true, true, true, true, true, true, true, true, true, true, false, false, false, false, false, false, false, false, false, false, false, false, false, false, false, false, false, false, false, false, false, false, false, false, false, false, false, false, false, false, false, false, false] rfl rfl (any_of HT_.out (by kernel_rfl)) (fun _ _ _ h => h) (Or.inl ⟨by rfl, ?_⟩) ?_ ?_
          rotate_left
          ·
           intro w'
           go_simp
           with_reducible rfl
          rotate_left
          ·
           simp only [Act.put, List.setIfInBounds_toArray, List.set_cons_zero, List.set_cons_succ, i64_w, i32_w]
           rfl
          refine pure_ (i := 20) (N := some 39) (v := ?_) (a' := ?_) #[true, true, true, true, true, true, true, true, true, true, true, true, true, true, true, true, true, true, true, true, true, false, false, false, false, false, false, false, false, false, false, false, false, false, false, false, false, false, false, false, false, false, false, false, false, false, false, false, false, false, false, false, false] rfl rfl (any_of HT_.out (by kernel_rfl)) (fun _ _ _ h => h) (Or.inl ⟨by rfl, ?_⟩) ?_ ?_
          rotate_left
          ·
           intro w'
           go_simp
           with_reducible rfl
          rotate_left
          ·
           simp only [Act.put, List.setIfInBounds_toArray, List.set_cons_zero, List.set_cons_succ, i64_w, i32_w]
           rfl
          refine pure_ (i := 21) (N := some 40) (v := ?_) (a' := ?_) #[true, true, true, true, true, true, true, true, true, true, true, true, true, true, true, true, true, true, true, true, true, true, false, false, false, false, false, false, false, false, false, false, false, false, false, false, false, false, false, false, false, false, false, false, false, false, false, false, false, false, false, false, false] rfl rfl (any_of HT_.out (by kernel_rfl)) (fun _ _ _ h => h) (Or.inl ⟨by rfl, ?_⟩) ?_ ?_
          rotate_left
          ·
           intro w'
           go_simp
           with_reducible rfl
          rotate_left
          ·
           simp only [Act.put, List.setIfInBounds_toArray, List.set_cons_zero, List.set_cons_succ, i64_w, i32_w]
           rfl
          refine pure_ (i := 22) (N := some 41) (v := ?_) (a' := ?_) #[true, true, true, true, true, true, true, true, true, true, true, true, true, true, true, true, true, true, true, true, true, true, true, false, false, false, false, false, false, false, false, false, false, false, false, false, false, false, false, false, false, false, false, false, false, false, false, false, false, false, false, false, false] rfl rfl (any_of HT_.out (by kernel_rfl)) (fun _ _ _ h => h) (Or.inl ⟨by rfl, ?_⟩) ?_ ?_
          rotate_left
          ·
           intro w'
           go_simp
           with_reducible rfl
          rotate_left
          ·
           simp only [Act.put, List.setIfInBounds_toArray, List.set_cons_zero, List.set_cons_succ, i64_w, i32_w]
           rfl
          refine pure_ (i := 23) (N := some 42) (v := ?_) (a' := ?_) #[true, true, true, true, true, true, true, true, true, true, true, true, true, true, true, true, true, true, true, true, true, true, true, true, false, false, false, false, false, false, false, false, false, false, false, false, false, false, false, false, false, false, false, false, false, false, false, false, false, false, false, false, false] rfl rfl (any_of HT_.out (by kernel_rfl)) (fun _ _ _ h => h) (Or.inl ⟨by rfl, ?_⟩) ?_ ?_
          rotate_left
          ·
           intro w'
           go_simp
           with_reducible rfl
          rotate_left
          ·
           simp only [Act.put, List.setIfInBounds_toArray, List.set_cons_zero, List.set_cons_succ, i64_w, i32_w]
           rfl
          refine pure_ (i := 24) (N := some 43) (v := ?_) (a' := ?_) #[true, true, true, true, true, true, true, true, true, true, true, true, true, true, true, true, true, true, true, true, true, true, true, true, true, false, false, false, false, false, false, false, false, false, false, false, false, false, false, false, false, false, false, false, false, false, false, false, false, false, false, false, false] rfl rfl (any_of HT_.out (by kernel_rfl)) (fun _ _ _ h => h) (Or.inl ⟨by rfl, ?_⟩) ?_ ?_
          rotate_left
          ·
           intro w'
           go_simp
           with_reducible rfl
          rotate_left
          ·
           simp only [Act.put, List.setIfInBounds_toArray, List.set_cons_zero, List.set_cons_succ, i64_w, i32_w]
           rfl
          refine one_ (i := 25) (N := some 44) #[true, true, true, true, true, true, true, true, true, true, true, true, true, true, true, true, true, true, true, true, true, true, true, true, true, true, false, false, false, false, false, false, false, false, false, false, false, false, false, false, false, false, false, false, false, false, false, false, false, false, false, false, false] rfl rfl (one_of HT_.out (by kernel_rfl)) (by decide) (fun K hK => ?_)
          refine goes_ Try.func25 (by kernel_rfl) rfl #[.slice A0 l0.length c0, .slice A1 l1.length c1] (by rfl) rfl rfl (by (try simp only [List.map_toArray, List.map_cons, List.map_nil]); first | done | rfl | (simp only [List.length_drop, List.length_take]; rfl)) ?_
          with_reducible refine (front_LessEq.calls k _ _ l0 _ _ l1 false _ ?side1 ?side2 ?side3 ?side4 A18.out).mono ?_
          (case side1 => repeat (first | exact (Kd.C_below HR0.out HB.out) | (with_reducible refine Kd.C_alloc ?_ _) | (with_reducible refine Kd.C_drewN ?_ _) | (with_reducible refine Kd.C_drew ?_)))
          (case side2 => exact HC0.out)
          (case side3 => repeat (first | exact (Kd.C_below HR1.out HB.out) | (with_reducible refine Kd.C_alloc ?_ _) | (with_reducible refine Kd.C_drewN ?_ _) | (with_reducible refine Kd.C_drew ?_)))
          (case side4 => exact HC1.out)
          rintro e w157 ⟨rfl, hb⟩
          refine ⟨_, rfl, ?_⟩
          have n0_ := Aside0.mk (Kd.R_below (by (with_reducible repeat (first | apply Kd.R_alloc | apply Kd.R_drewN | apply Kd.R_drew)); exact HO203.out) hb)
          have n1_ := Aside0.mk (Kd.R_below (by (with_reducible repeat (first | apply Kd.R_alloc | apply Kd.R_drewN | apply Kd.R_drew)); exact HO207.out) hb)
          have n2_ := Aside0.mk (blk_below (g := gb196) (o := .cells #[.int .i64 a2_0, .int .i64 a2_1] 24 (0, 0)) (by (with_reducible repeat (first | refine blk_drewN ?_ _ | refine blk_drew ?_ | refine blk_alloc ?_ _)); exact BK196.out) hb)
          have n3_ := Aside0.mk (below_step (by repeat (first | (with_reducible first | exact HB.out | apply below_alloc | apply pw_below_drewN | apply below_drew1 | refine below_set ?_ GE196.out) | exact HB.out)) hb)
          clear HO203
          clear HO207
          clear BK196
          clear HB
          have HO203 := n0_
          have HO207 := n1_
          have BK196 := n2_
          have HB := n3_
          clear n0_ n1_ n2_ n3_
          (try clear hb)
          (try clear hb2)
          (try clear hk)
          (try clear hi)
          refine hK.out _ _ ⟨(blk_cell BK196.out 0).trans rfl, (blk_cell BK196.out 1).trans rfl⟩ (fun hHeld => ?_)
          clear hK K
          refine norm_ (a' := ?_) ?_ ?_
          rotate_left
          ·
           show Act.put _ (some 44) _ = _
           simp only [Act.put, List.setIfInBounds_toArray, List.set_cons_zero, List.set_cons_succ, i64_w, i32_w]
           rfl
          refine pure_ (i := 26) (N := some 45) (v := ?_) (a' := ?_) #[true, true, true, true, true, true, true, true, true, true, true, true, true, true, true, true, true, true, true, true, true, true, true, true, true, true, true, false, false, false, false, false, false, false, false, false, false, false, false, false, false, false, false, false, false, false, false, false, false, false, false, false, false] rfl rfl (any_of HT_.out (by kernel_rfl)) (fun _ _ _ h => h) (Or.inl ⟨by rfl, ?_⟩) ?_ ?_
          rotate_left
          ·
           intro w'
           go_simp
           with_reducible rfl
          rotate_left
          ·
           simp only [Act.put, List.setIfInBounds_toArray, List.set_cons_zero, List.set_cons_succ, i64_w, i32_w]
           rfl
          refine pure_ (i := 27) (N := some 46) (v := ?_) (a' := ?_) #[true, true, true, true, true, true, true, true, true, true, true, true, true, true, true, true, true, true, true, true, true, true, true, true, true, true, true, true, false, false, false, false, false, false, false, false, false, false, false, false, false, false, false, false, false, false, false, false, false, false, false, false, false] rfl rfl (any_of HT_.out (by kernel_rfl)) (fun _ _ _ h => h) (Or.inl ⟨by rfl, ?_⟩) ?_ ?_
          rotate_left
          ·
           intro w'
           go_simp
           with_reducible rfl
          rotate_left
          ·
           simp only [Act.put, List.setIfInBounds_toArray, List.set_cons_zero, List.set_cons_succ, i64_w, i32_w]
           rfl
          refine pure_ (i := 28) (N := some 47) (v := undef) (a' := ?_) #[true, true, true, true, true, true, true, true, true, true, true, true, true, true, true, true, true, true, true, true, true, true, true, true, true, true, true, true, true, false, false, false, false, false, false, false, false, false, false, false, false, false, false, false, false, false, false, false, false, false, false, false, false] rfl rfl (any_of HT_.out (by kernel_rfl)) (fun _ _ _ h => h) (Or.inr ⟨by rfl, rfl⟩) ?_ ?_
          rotate_left
          ·
           simp only [Act.put, List.setIfInBounds_toArray, List.set_cons_zero, List.set_cons_succ, i64_w, i32_w]
           rfl
          refine pure_ (i := 29) (N := some 48) (v := undef) (a' := ?_) #[true, true, true, true, true, true, true, true, true, true, true, true, true, true, true, true, true, true, true, true, true, true, true, true, true, true, true, true, true, true, false, false, false, false, false, false, false, false, false, false, false, false, false, false, false, false, false, false, false, false, false, false, false] rfl rfl (any_of HT_.out (by kernel_rfl)) (fun _ _ _ h => h) (Or.inr ⟨by rfl, rfl⟩) ?_ ?_
          rotate_left
          ·
           simp only [Act.put, List.setIfInBounds_toArray, List.set_cons_zero, List.set_cons_succ, i64_w, i32_w]
           rfl
          refine pure_ (i := 30) (N := some 49) (v := ?_) (a' := ?_) #[true, true, true, true, true, true, true, true, true, true, true, true, true, true, true, true, true, true, true, true, true, true, true, true, true, true, true, true, true, true, true, false, false, false, false, false, false, false, false, false, false, false, false, false, false, false, false, false, false, false, false, false, false] rfl rfl (any_of HT_.out (by kernel_rfl)) (fun _ _ _ h => h) (Or.inl ⟨by rfl, ?_⟩) ?_ ?_
          rotate_left
          ·
           intro w'
           go_simp
           with_reducible rfl
          rotate_left
          ·
           simp only [Act.put, List.setIfInBounds_toArray, List.set_cons_zero, List.set_cons_succ, i64_w, i32_w]
           rfl
          refine pure_ (i := 31) (N := some 50) (v := ?_) (a' := ?_) #[true, true, true, true, true, true, true, true, true, true, true, true, true, true, true, true, true, true, true, true, true, true, true, true, true, true, true, true, true, true, true, true, false, false, false, false, false, false, false, false, false, false, false, false, false, false, false, false, false, false, false, false, false] rfl rfl (any_of HT_.out (by kernel_rfl)) (fun _ _ _ h => h) (Or.inl ⟨by rfl, ?_⟩) ?_ ?_
          rotate_left
          ·
           intro w'
           go_simp
           with_reducible rfl
          rotate_left
          ·
           simp only [Act.put, List.setIfInBounds_toArray, List.set_cons_zero, List.set_cons_succ, i64_w, i32_w]
           rfl
          refine pure_ (i := 32) (N := some 51) (v := undef) (a' := ?_) #[true, true, true, true, true, true, true, true, true, true, true, true, true, true, true, true, true, true, true, true, true, true, true, true, true, true, true, true, true, true, true, true, true, false, false, false, false, false, false, false, false, false, false, false, false, false, false, false, false, false, false, false, false] rfl rfl (any_of HT_.out (by kernel_rfl)) (fun _ _ _ h => h) (Or.inr ⟨by rfl, rfl⟩) ?_ ?_
          rotate_left
          ·
           simp only [Act.put, List.setIfInBounds_toArray, List.set_cons_zero, List.set_cons_succ, i64_w, i32_w]
           rfl
          refine pure_ (i := 33) (N := some 52) (v := ?_) (a' := ?_) #[true, true, true, true, true, true, true, true, true, true, true, true, true, true, true, true, true, true, true, true, true, true, true, true, true, true, true, true, true, true, true, true, true, true, false, false, false, false, false, false, false, false, false, false, false, false, false, false, false, false, false, false, false] rfl rfl (any_of HT_.out (by kernel_rfl)) (fun _ _ _ h => h) (Or.inl ⟨by rfl, ?_⟩) ?_ ?_
          rotate_left
          ·
           intro w'
           go_simp
           with_reducible rfl
          rotate_left
          ·
           simp only [Act.put, List.setIfInBounds_toArray, List.set_cons_zero, List.set_cons_succ, i64_w, i32_w]
           rfl
          refine pure_ (i := 34) (N := some 53) (v := ?_) (a' := ?_) #[true, true, true, true, true, true, true, true, true, true, true, true, true, true, true, true, true, true, true, true, true, true, true, true, true, true, true, true, true, true, true, true, true, true, true, false, false, false, false, false, false, false, false, false, false, false, false, false, false, false, false, false, false] rfl rfl (any_of HT_.out (by kernel_rfl)) (fun _ _ _ h => h) (Or.inl ⟨by rfl, ?_⟩) ?_ ?_
          rotate_left
          ·
           intro w'
           go_simp
           with_reducible rfl
          rotate_left
          ·
           simp only [Act.put, List.setIfInBounds_toArray, List.set_cons_zero, List.set_cons_succ, i64_w, i32_w]
           rfl
          refine pure_ (i := 35) (N := some 54) (v := ?_) (a' := ?_) #[true, true, true, true, true, true, true, true, true, true, true, true, true, true, true, true, true, true, true, true, true, true, true, true, true, true, true, true, true, true, true, true, true, true, true, true, false, false, false, false, false, false, false, false, false, false, false, false, false, false, false, false, false] rfl rfl (any_of HT_.out (by kernel_rfl)) (fun _ _ _ h => h) (Or.inl ⟨by rfl, ?_⟩) ?_ ?_
          rotate_left
          ·
           intro w'
           go_simp
           with_reducible rfl
          rotate_left
          ·
           simp only [Act.put, List.setIfInBounds_toArray, List.set_cons_zero, List.set_cons_succ, i64_w, i32_w]
           rfl
          refine pure_ (i := 36) (N := some 55) (v := ?_) (a' := ?_) #[true, true, true, true, true, true, true, true, true, true, true, true, true, true, true, true, true, true, true, true, true, true, true, true, true, true, true, true, true, true, true, true, true, true, true, true, true, false, false, false, false, false, false, false, false, false, false, false, false, false, false, false, false] rfl rfl (any_of HT_.out (by kernel_rfl)) (fun _ _ _ h => h) (Or.inl ⟨by rfl, ?_⟩) ?_ ?_
          rotate_left
          ·
           intro w'
           go_simp
           with_reducible rfl
          rotate_left
          ·
           simp only [Act.put, List.setIfInBounds_toArray, List.set_cons_zero, List.set_cons_succ, i64_w, i32_w]
           rfl
          refine pure_ (i := 37) (N := some 56) (v := ?_) (a' := ?_) #[true, true, true, true, true, true, true, true, true, true, true, true, true, true, true, true, true, true, true, true, true, true, true, true, true, true, true, true, true, true, true, true, true, true, true, true, true, true, false, false, false, false, false, false, false, false, false, false, false, false, false, false, false] rfl rfl (any_of HT_.out (by kernel_rfl)) (fun _ _ _ h => h) (Or.inl ⟨by rfl, ?_⟩) ?_ ?_
          rotate_left
          ·
           intro w'
           go_simp
           with_reducible rfl
          rotate_left
          ·
           simp only [Act.put, List.setIfInBounds_toArray, List.set_cons_zero, List.set_cons_succ, i64_w, i32_w]
           rfl
          refine pure_ (i := 39) (N := some 58) (v := ?_) (a' := ?_) #[true, true, true, true, true, true, true, true, true, true, true, true, true, true, true, true, true, true, true, true, true, true, true, true, true, true, true, true, true, true, true, true, true, true, true, true, true, true, false, true, false, false, false, false, false, false, false, false, false, false, false, false, false] rfl rfl (any_of HT_.out (by kernel_rfl)) (fun _ _ _ h => h) (Or.inl ⟨by rfl, ?_⟩) ?_ ?_
          rotate_left
          ·
           intro w'
           go_simp
           with_reducible rfl
          rotate_left
          ·
           simp only [Act.put, List.setIfInBounds_toArray, List.set_cons_zero, List.set_cons_succ, i64_w, i32_w]
           rfl
          refine one_ (i := 38) (N := some 57) #[true, true, true, true, true, true, true, true, true, true, true, true, true, true, true, true, true, true, true, true, true, true, true, true, true, true, true, true, true, true, true, true, true, true, true, true, true, true, true, true, false, false, false, false, false, false, false, false, false, false, false, false, false] rfl rfl (one_of HT_.out (by kernel_rfl)) (by decide) (fun K hK => ?_)
          refine goes_ Try.func23 (by kernel_rfl) rfl #[.slice A0 l0.length c0, .slice A1 l1.length c1] (by rfl) rfl rfl (by (try simp only [List.map_toArray, List.map_cons, List.map_nil]); first | done | rfl | (simp only [List.length_drop, List.length_take]; rfl)) ?_
          with_reducible refine (front_Meet.calls k _ _ l0 _ _ l1 t228 _ ?side1 ?side2 ?side3 ?side4 A139.out).mono ?_
          (case side1 => repeat (first | exact (Kd.C_below HR0.out HB.out) | (with_reducible refine Kd.C_alloc ?_ _) | (with_reducible refine Kd.C_drewN ?_ _) | (with_reducible refine Kd.C_drew ?_)))
          (case side2 => exact HC0.out)
          (case side3 => repeat (first | exact (Kd.C_below HR1.out HB.out) | (with_reducible refine Kd.C_alloc ?_ _) | (with_reducible refine Kd.C_drewN ?_ _) | (with_reducible refine Kd.C_drew ?_)))
          (case side4 => exact HC1.out)
          rintro e w158 ⟨v229, rfl, ho0, hb⟩
          refine ⟨_, rfl, ?_⟩
          have n0_ := Aside0.mk (Kd.R_elder' (by (with_reducible repeat (first | apply Kd.R_alloc | apply Kd.R_drewN | apply Kd.R_drew)); exact HO203.out) (Kd.R_base ho0) hb)
          have n1_ := Aside0.mk (Kd.R_elder' (by (with_reducible repeat (first | apply Kd.R_alloc | apply Kd.R_drewN | apply Kd.R_drew)); exact HO207.out) (Kd.R_base ho0) hb)
          have n2_ := Aside0.mk (Kd.R_lower (Kd.R_newB (Kd.R_new' (Kd.R_new' ho0 (Kd.R_lt (by (with_reducible repeat (first | apply Kd.R_alloc | apply Kd.R_drewN | apply Kd.R_drew)); exact HO203.out))) (Kd.R_lt (by (with_reducible repeat (first | apply Kd.R_alloc | apply Kd.R_drewN | apply Kd.R_drew)); exact HO207.out))) (g := gb196) (o := .cells #[.int .i64 a2_0, .int .i64 a2_1] 24 (0, 0)) (by (with_reducible repeat (first | refine blk_drewN ?_ _ | refine blk_drew ?_ | refine blk_alloc ?_ _)); exact BK196.out)) (below_size (by repeat (first | (with_reducible first | exact HB.out | apply below_alloc | apply pw_below_drewN | apply below_drew1 | refine below_set ?_ GE196.out) | exact HB.out))))
          have n3_ := Aside0.mk (blk_below (g := gb196) (o := .cells #[.int .i64 a2_0, .int .i64 a2_1] 24 (0, 0)) (by (with_reducible repeat (first | refine blk_drewN ?_ _ | refine blk_drew ?_ | refine blk_alloc ?_ _)); exact BK196.out) hb)
          have n4_ := Aside0.mk (below_step (by repeat (first | (with_reducible first | exact HB.out | apply below_alloc | apply pw_below_drewN | apply below_drew1 | refine below_set ?_ GE196.out) | exact HB.out)) hb)
          clear HO203
          clear HO207
          clear BK196
          clear HB
          have HO203 := n0_
          have HO207 := n1_
          have HO230 := n2_
          have BK196 := n3_
          have HB := n4_
          clear n0_ n1_ n2_ n3_ n4_
          (try clear hb)
          (try clear hb2)
          (try clear hk)
          (try clear hi)
          (try clear ho0)
          obtain ⟨Ao159, co159, eo159⟩ := Kd.R_slice HO230.out
          (first | subst eo159 | (injection eo159 with f1_ f2_ f3_; have f4_ := f1_.symm; have f5_ := f3_.symm; clear f1_ f2_ f3_; subst f4_; subst f5_))
          refine hK.out _ _ ⟨(blk_cell BK196.out 0).trans rfl, (blk_cell BK196.out 1).trans rfl⟩ (fun hHeld => ?_)
          clear hK K
          refine norm_ (a' := ?_) ?_ ?_
          rotate_left
          ·
           show Act.put _ (some 57) _ = _
           simp only [Act.put, List.setIfInBounds_toArray, List.set_cons_zero, List.set_cons_succ, i64_w, i32_w]
           rfl
          refine one_ (i := 40) (N := some 59) #[true, true, true, true, true, true, true, true, true, true, true, true, true, true, true, true, true, true, true, true, true, true, true, true, true, true, true, true, true, true, true, true, true, true, true, true, true, true, true, true, true, false, false, false, false, false, false, false, false, false, false, false, false] rfl rfl (one_of HT_.out (by kernel_rfl)) (by decide) (fun K hK => ?_)
          refine goes_ Try.func25 (by kernel_rfl) rfl #[.slice Ao159 t228.length co159, .slice A0 l0.length c0] (by rfl) rfl rfl (by (try simp only [List.map_toArray, List.map_cons, List.map_nil]); first | done | rfl | (simp only [List.length_drop, List.length_take]; rfl)) ?_
          with_reducible refine (front_LessEq.calls k _ _ t228 _ _ l0 true _ ?side1 ?side2 ?side3 ?side4 A140.out).mono ?_
          (case side1 => repeat (first | exact (Kd.R_reads' HO230.out).2.2 | (with_reducible refine Kd.C_alloc ?_ _) | (with_reducible refine Kd.C_drewN ?_ _) | (with_reducible refine Kd.C_drew ?_)))
          (case side2 => exact (Kd.R_reads' HO230.out).2.1)
          (case side3 => repeat (first | exact (Kd.C_below HR0.out HB.out) | (with_reducible refine Kd.C_alloc ?_ _) | (with_reducible refine Kd.C_drewN ?_ _) | (with_reducible refine Kd.C_drew ?_)))
          (case side4 => exact HC0.out)
          rintro e w160 ⟨rfl, hb⟩
          refine ⟨_, rfl, ?_⟩
          have n0_ := Aside0.mk (Kd.R_below (by (with_reducible repeat (first | apply Kd.R_alloc | apply Kd.R_drewN | apply Kd.R_drew)); exact HO203.out) hb)
          have n1_ := Aside0.mk (Kd.R_below (by (with_reducible repeat (first | apply Kd.R_alloc | apply Kd.R_drewN | apply Kd.R_drew)); exact HO207.out) hb)
          have n2_ := Aside0.mk (Kd.R_below (by (with_reducible repeat (first | apply Kd.R_alloc | apply Kd.R_drewN | apply Kd.R_drew)); exact HO230.out) hb)
          have n3_ := Aside0.mk (blk_below (g := gb196) (o := .cells #[.int .i64 a2_0, .int .i64 a2_1] 24 (0, 0)) (by (with_reducible repeat (first | refine blk_drewN ?_ _ | refine blk_drew ?_ | refine blk_alloc ?_ _)); exact BK196.out) hb)
          have n4_ := Aside0.mk (below_step (by repeat (first | (with_reducible first | exact HB.out | apply below_alloc | apply pw_below_drewN | apply below_drew1 | refine below_set ?_ GE196.out) | exact HB.out)) hb)
          clear HO203
          clear HO207
          clear HO230
          clear BK196
          clear HB
          have HO203 := n0_
          have HO207 := n1_
          have HO230 := n2_
          have BK196 := n3_
          have HB := n4_
          clear n0_ n1_ n2_ n3_ n4_
          (try clear hb)
          (try clear hb2)
          (try clear hk)
          (try clear hi)
          refine hK.out _ _ ⟨(blk_cell BK196.out 0).trans rfl, (blk_cell BK196.out 1).trans rfl⟩ (fun hHeld => ?_)
          clear hK K
          refine norm_ (a' := ?_) ?_ ?_
          rotate_left
          ·
           show Act.put _ (some 59) _ = _
           simp only [Act.put, List.setIfInBounds_toArray, List.set_cons_zero, List.set_cons_succ, i64_w, i32_w]
           rfl
          refine pure_ (i := 41) (N := some 60) (v := ?_) (a' := ?_) #[true, true, true, true, true, true, true, true, true, true, true, true, true, true, true, true, true, true, true, true, true, true, true, true, true, true, true, true, true, true, true, true, true, true, true, true, true, true, true, true, true, true, false, false, false, false, false, false, false, false, false, false, false] rfl rfl (any_of HT_.out (by kernel_rfl)) (fun _ _ _ h => h) (Or.inl ⟨by rfl, ?_⟩) ?_ ?_
          rotate_left
          ·
           intro w'
           go_simp
           with_reducible rfl
          rotate_left
          ·
           simp only [Act.put, List.setIfInBounds_toArray, List.set_cons_zero, List.set_cons_succ, i64_w, i32_w]
           rfl
          refine pure_ (i := 42) (N := some 61) (v := ?_) (a' := ?_) #[true, true, true, true, true, true, true, true, true, true, true, true, true, true, true, true, true, true, true, true, true, true, true, true, true, true, true, true, true, true, true, true, true, true, true, true, true, true, true, true, true, true, true, false, false, false, false, false, false, false, false, false, false] rfl rfl (any_of HT_.out (by kernel_rfl)) (fun _ _ _ h => h) (Or.inl ⟨by rfl, ?_⟩) ?_ ?_
          rotate_left
          ·
           intro w'
           go_simp
           with_reducible rfl
          rotate_left
          ·
           simp only [Act.put, List.setIfInBounds_toArray, List.set_cons_zero, List.set_cons_succ, i64_w, i32_w]
           rfl
          refine pure_ (i := 43) (N := some 62) (v := ?_) (a' := ?_) #[true, true, true, true, true, true, true, true, true, true, true, true, true, true, true, true, true, true, true, true, true, true, true, true, true, true, true, true, true, true, true, true, true, true, true, true, true, true, true, true, true, true, true, true, false, false, false, false, false, false, false, false, false] rfl rfl (any_of HT_.out (by kernel_rfl)) (fun _ _ _ h => h) (Or.inl ⟨by rfl, ?_⟩) ?_ ?_
          rotate_left
          ·
           intro w'
           go_simp
           with_reducible rfl
          rotate_left
          ·
           simp only [Act.put, List.setIfInBounds_toArray, List.set_cons_zero, List.set_cons_succ, i64_w, i32_w]
           rfl
          refine pure_ (i := 44) (N := some 63) (v := ?_) (a' := ?_) #[true, true, true, true, true, true, true, true, true, true, true, true, true, true, true, true, true, true, true, true, true, true, true, true, true, true, true, true, true, true, true, true, true, true, true, true, true, true, true, true, true, true, true, true, true, false, false, false, false, false, false, false, false] rfl rfl (any_of HT_.out (by kernel_rfl)) (fun _ _ _ h => h) (Or.inl ⟨by rfl, ?_⟩) ?_ ?_
          rotate_left
          ·
           intro w'
           go_simp
           with_reducible rfl
          rotate_left
          ·
           simp only [Act.put, List.setIfInBounds_toArray, List.set_cons_zero, List.set_cons_succ, i64_w, i32_w]
           rfl
          refine pure_ (i := 45) (N := some 64) (v := ?_) (a' := ?_) #[true, true, true, true, true, true, true, true, true, true, true, true, true, true, true, true, true, true, true, true, true, true, true, true, true, true, true, true, true, true, true, true, true, true, true, true, true, true, true, true, true, true, true, true, true, true, false, false, false, false, false, false, false] rfl rfl (any_of HT_.out (by kernel_rfl)) (fun _ _ _ h => h) (Or.inl ⟨by rfl, ?_⟩) ?_ ?_
          rotate_left
          ·
           intro w'
           go_simp
           with_reducible rfl
          rotate_left
          ·
           simp only [Act.put, List.setIfInBounds_toArray, List.set_cons_zero, List.set_cons_succ, i64_w, i32_w]
           rfl
          refine one_ (i := 46) (N := some 65) #[true, true, true, true, true, true, true, true, true, true, true, true, true, true, true, true, true, true, true, true, true, true, true, true, true, true, true, true, true, true, true, true, true, true, true, true, true, true, true, true, true, true, true, true, true, true, true, false, false, false, false, false, false] rfl rfl (one_of HT_.out (by kernel_rfl)) (by decide) (fun K hK => ?_)
          refine goes_ Try.func24 (by kernel_rfl) rfl #[.slice A0 l0.length c0, .slice A1 l1.length c1] (by rfl) rfl rfl (by (try simp only [List.map_toArray, List.map_cons, List.map_nil]); first | done | rfl | (simp only [List.length_drop, List.length_take]; rfl)) ?_
          with_reducible refine (front_Join.calls k _ _ l0 _ _ l1 t232 _ ?side1 ?side2 ?side3 ?side4 A142.out).mono ?_
          (case side1 => repeat (first | exact (Kd.C_below HR0.out HB.out) | (with_reducible refine Kd.C_alloc ?_ _) | (with_reducible refine Kd.C_drewN ?_ _) | (with_reducible refine Kd.C_drew ?_)))
          (case side2 => exact HC0.out)
          (case side3 => repeat (first | exact (Kd.C_below HR1.out HB.out) | (with_reducible refine Kd.C_alloc ?_ _) | (with_reducible refine Kd.C_drewN ?_ _) | (with_reducible refine Kd.C_drew ?_)))
          (case side4 => exact HC1.out)
          rintro e w161 ⟨v233, rfl, ho0, hb⟩
          refine ⟨_, rfl, ?_⟩
          have n0_ := Aside0.mk (Kd.R_elder' (by (with_reducible repeat (first | apply Kd.R_alloc | apply Kd.R_drewN | apply Kd.R_drew)); exact HO203.out) (Kd.R_base ho0) hb)
          have n1_ := Aside0.mk (Kd.R_elder' (by (with_reducible repeat (first | apply Kd.R_alloc | apply Kd.R_drewN | apply Kd.R_drew)); exact HO207.out) (Kd.R_base ho0) hb)
          have n2_ := Aside0.mk (Kd.R_elder' (by (with_reducible repeat (first | apply Kd.R_alloc | apply Kd.R_drewN | apply Kd.R_drew)); exact HO230.out) (Kd.R_base ho0) hb)
          have n3_ := Aside0.mk (Kd.R_lower (Kd.R_newB (Kd.R_new' (Kd.R_new' (Kd.R_new' ho0 (Kd.R_lt (by (with_reducible repeat (first | apply Kd.R_alloc | apply Kd.R_drewN | apply Kd.R_drew)); exact HO203.out))) (Kd.R_lt (by (with_reducible repeat (first | apply Kd.R_alloc | apply Kd.R_drewN | apply Kd.R_drew)); exact HO207.out))) (Kd.R_lt (by (with_reducible repeat (first | apply Kd.R_alloc | apply Kd.R_drewN | apply Kd.R_drew)); exact HO230.out))) (g := gb196) (o := .cells #[.int .i64 a2_0, .int .i64 a2_1] 24 (0, 0)) (by (with_reducible repeat (first | refine blk_drewN ?_ _ | refine blk_drew ?_ | refine blk_alloc ?_ _)); exact BK196.out)) (below_size (by repeat (first | (with_reducible first | exact HB.out | apply below_alloc | apply pw_below_drewN | apply below_drew1 | refine below_set ?_ GE196.out) | exact HB.out))))
          have n4_ := Aside0.mk (blk_below (g := gb196) (o := .cells #[.int .i64 a2_0, .int .i64 a2_1] 24 (0, 0)) (by (with_reducible repeat (first | refine blk_drewN ?_ _ | refine blk_drew ?_ | refine blk_alloc ?_ _)); exact BK196.out) hb)
          have n5_ := Aside0.mk (below_step (by repeat (first | (with_reducible first | exact HB.out | apply below_alloc | apply pw_below_drewN | apply below_drew1 | refine below_set ?_ GE196.out) | exact HB.out)) hb)
          clear HO203
          clear HO207
          clear HO230
          clear BK196
          clear HB
          have HO203 := n0_
          have HO207 := n1_
          have HO230 := n2_
          have HO234 := n3_
          have BK196 := n4_
          have HB := n5_
          clear n0_ n1_ n2_ n3_ n4_ n5_
          (try clear hb)
          (try clear hb2)
          (try clear hk)
          (try clear hi)
          (try clear ho0)
          obtain ⟨Ao162, co162, eo162⟩ := Kd.R_slice HO234.out
          (first | subst eo162 | (injection eo162 with f1_ f2_ f3_; have f4_ := f1_.symm; have f5_ := f3_.symm; clear f1_ f2_ f3_; subst f4_; subst f5_))
          refine hK.out _ _ ⟨(blk_cell BK196.out 0).trans rfl, (blk_cell BK196.out 1).trans rfl⟩ (fun hHeld => ?_)
          clear hK K
          refine norm_ (a' := ?_) ?_ ?_
          rotate_left
          ·
           show Act.put _ (some 65) _ = _
           simp only [Act.put, List.setIfInBounds_toArray, List.set_cons_zero, List.set_cons_succ, i64_w, i32_w]
           rfl
          refine one_ (i := 47) (N := some 66) #[true, true, true, true, true, true, true, true, true, true, true, true, true, true, true, true, true, true, true, true, true, true, true, true, true, true, true, true, true, true, true, true, true, true, true, true, true, true, true, true, true, true, true, true, true, true, true, true, false, false, false, false, false] rfl rfl (one_of HT_.out (by kernel_rfl)) (by decide) (fun K hK => ?_)
          refine goes_ Try.func25 (by kernel_rfl) rfl #[.slice A0 l0.length c0, .slice Ao162 t232.length co162] (by rfl) rfl rfl (by (try simp only [List.map_toArray, List.map_cons, List.map_nil]); first | done | rfl | (simp only [List.length_drop, List.length_take]; rfl)) ?_
          with_reducible refine (front_LessEq.calls k _ _ l0 _ _ t232 true _ ?side1 ?side2 ?side3 ?side4 A143.out).mono ?_
          (case side1 => repeat (first | exact (Kd.C_below HR0.out HB.out) | (with_reducible refine Kd.C_alloc ?_ _) | (with_reducible refine Kd.C_drewN ?_ _) | (with_reducible refine Kd.C_drew ?_)))
          (case side2 => exact HC0.out)
          (case side3 => repeat (first | exact (Kd.R_reads' HO234.out).2.2 | (with_reducible refine Kd.C_alloc ?_ _) | (with_reducible refine Kd.C_drewN ?_ _) | (with_reducible refine Kd.C_drew ?_)))
          (case side4 => exact (Kd.R_reads' HO234.out).2.1)
          rintro e w163 ⟨rfl, hb⟩
          refine ⟨_, rfl, ?_⟩
          have n0_ := Aside0.mk (Kd.R_below (by (with_reducible repeat (first | apply Kd.R_alloc | apply Kd.R_drewN | apply Kd.R_drew)); exact HO203.out) hb)
          have n1_ := Aside0.mk (Kd.R_below (by (with_reducible repeat (first | apply Kd.R_alloc | apply Kd.R_drewN | apply Kd.R_drew)); exact HO207.out) hb)
          have n2_ := Aside0.mk (Kd.R_below (by (with_reducible repeat (first | apply Kd.R_alloc | apply Kd.R_drewN | apply Kd.R_drew)); exact HO230.out) hb)
          have n3_ := Aside0.mk (Kd.R_below (by (with_reducible repeat (first | apply Kd.R_alloc | apply Kd.R_drewN | apply Kd.R_drew)); exact HO234.out) hb)
          have n4_ := Aside0.mk (blk_below (g := gb196) (o := .cells #[.int .i64 a2_0, .int .i64 a2_1] 24 (0, 0)) (by (with_reducible repeat (first | refine blk_drewN ?_ _ | refine blk_drew ?_ | refine blk_alloc ?_ _)); exact BK196.out) hb)
          have n5_ := Aside0.mk (below_step (by repeat (first | (with_reducible first | exact HB.out | apply below_alloc | apply pw_below_drewN | apply below_drew1 | refine below_set ?_ GE196.out) | exact HB.out)) hb)
          clear HO203
          clear HO207
          clear HO230
          clear HO234
          clear BK196
          clear HB
          have HO203 := n0_
          have HO207 := n1_
          have HO230 := n2_
          have HO234 := n3_
          have BK196 := n4_
          have HB := n5_
          clear n0_ n1_ n2_ n3_ n4_ n5_
          (try clear hb)
          (try clear hb2)
          (try clear hk)
          (try clear hi)
          refine hK.out _ _ ⟨(blk_cell BK196.out 0).trans rfl, (blk_cell BK196.out 1).trans rfl⟩ (fun hHeld => ?_)
          clear hK K
          refine norm_ (a' := ?_) ?_ ?_
          rotate_left
          ·
           show Act.put _ (some 66) _ = _
           simp only [Act.put, List.setIfInBounds_toArray, List.set_cons_zero, List.set_cons_succ, i64_w, i32_w]
           rfl
          refine pure_ (i := 48) (N := some 67) (v := ?_) (a' := ?_) #[true, true, true, true, true, true, true, true, true, true, true, true, true, true, true, true, true, true, true, true, true, true, true, true, true, true, true, true, true, true, true, true, true, true, true, true, true, true, true, true, true, true, true, true, true, true, true, true, true, false, false, false, false] rfl rfl (any_of HT_.out (by kernel_rfl)) (fun _ _ _ h => h) (Or.inl ⟨by rfl, ?_⟩) ?_ ?_
          rotate_left
          ·
           intro w'
           go_simp
           with_reducible rfl
          rotate_left
          ·
           simp only [Act.put, List.setIfInBounds_toArray, List.set_cons_zero, List.set_cons_succ, i64_w, i32_w]
           rfl
          refine pure_ (i := 49) (N := some 68) (v := ?_) (a' := ?_) #[true, true, true, true, true, true, true, true, true, true, true, true, true, true, true, true, true, true, true, true, true, true, true, true, true, true, true, true, true, true, true, true, true, true, true, true, true, true, true, true, true, true, true, true, true, true, true, true, true, true, false, false, false] rfl rfl (any_of HT_.out (by kernel_rfl)) (fun _ _ _ h => h) (Or.inl ⟨by rfl, ?_⟩) ?_ ?_
          rotate_left
          ·
           intro w'
           go_simp
           with_reducible rfl
          rotate_left
          ·
           simp only [Act.put, List.setIfInBounds_toArray, List.set_cons_zero, List.set_cons_succ, i64_w, i32_w]
           rfl
          refine one_ (i := 50) (N := some 69) #[true, true, true, true, true, true, true, true, true, true, true, true, true, true, true, true, true, true, true, true, true, true, true, true, true, true, true, true, true, true, true, true, true, true, true, true, true, true, true, true, true, true, true, true, true, true, true, true, true, true, true, false, false] rfl rfl (one_of HT_.out (by kernel_rfl)) (by decide) (fun K hK => ?_)
          refine goes_ Try.func10 (by kernel_rfl) rfl #[] (by rfl) rfl rfl (by (try simp only [List.map_toArray, List.map_cons, List.map_nil]); first | done | rfl | (simp only [List.length_drop, List.length_take]; rfl)) ?_
          with_reducible refine (runnellaw05_live.calls k  t236 _ A145.out).mono ?_
          rintro e w164 ⟨rfl, hb⟩
          refine ⟨_, rfl, ?_⟩
          have n0_ := Aside0.mk (Kd.R_below (by (with_reducible repeat (first | apply Kd.R_alloc | apply Kd.R_drewN | apply Kd.R_drew)); exact HO203.out) hb)
          have n1_ := Aside0.mk (Kd.R_below (by (with_reducible repeat (first | apply Kd.R_alloc | apply Kd.R_drewN | apply Kd.R_drew)); exact HO207.out) hb)
          have n2_ := Aside0.mk (Kd.R_below (by (with_reducible repeat (first | apply Kd.R_alloc | apply Kd.R_drewN | apply Kd.R_drew)); exact HO230.out) hb)
          have n3_ := Aside0.mk (Kd.R_below (by (with_reducible repeat (first | apply Kd.R_alloc | apply Kd.R_drewN | apply Kd.R_drew)); exact HO234.out) hb)
          have n4_ := Aside0.mk (blk_below (g := gb196) (o := .cells #[.int .i64 a2_0, .int .i64 a2_1] 24 (0, 0)) (by (with_reducible repeat (first | refine blk_drewN ?_ _ | refine blk_drew ?_ | refine blk_alloc ?_ _)); exact BK196.out) hb)
          have n5_ := Aside0.mk (below_step (by repeat (first | (with_reducible first | exact HB.out | apply below_alloc | apply pw_below_drewN | apply below_drew1 | refine below_set ?_ GE196.out) | exact HB.out)) hb)
          clear HO203
          clear HO207
          clear HO230
          clear HO234
          clear BK196
          clear HB
          have HO203 := n0_
          have HO207 := n1_
          have HO230 := n2_
          have HO234 := n3_
          have BK196 := n4_
          have HB := n5_
          clear n0_ n1_ n2_ n3_ n4_ n5_
          (try clear hb)
          (try clear hb2)
          (try clear hk)
          (try clear hi)
          refine hK.out _ _ ⟨(blk_cell BK196.out 0).trans rfl, (blk_cell BK196.out 1).trans rfl⟩ (fun hHeld => ?_)
          clear hK K
          refine norm_ (a' := ?_) ?_ ?_
          rotate_left
          ·
           show Act.put _ (some 69) _ = _
           simp only [Act.put, List.setIfInBounds_toArray, List.set_cons_zero, List.set_cons_succ, i64_w, i32_w]
           rfl
          refine pure_ (i := 51) (N := some 70) (v := ?_) (a' := ?_) #[true, true, true, true, true, true, true, true, true, true, true, true, true, true, true, true, true, true, true, true, true, true, true, true, true, true, true, true, true, true, true, true, true, true, true, true, true, true, true, true, true, true, true, true, true, true, true, true, true, true, true, true, false] rfl rfl (any_of HT_.out (by kernel_rfl)) (fun _ _ _ h => h) (Or.inl ⟨by rfl, ?_⟩) ?_ ?_
          rotate_left
          ·
           intro w'
           go_simp
           with_reducible rfl
          rotate_left
          ·
           simp only [Act.put, List.setIfInBounds_toArray, List.set_cons_zero, List.set_cons_succ, i64_w, i32_w]
           rfl
          refine pure_ (i := 52) (N := some 6) (v := ?_) (a' := ?_) #[true, true, true, true, true, true, true, true, true, true, true, true, true, true, true, true, true, true, true, true, true, true, true, true, true, true, true, true, true, true, true, true, true, true, true, true, true, true, true, true, true, true, true, true, true, true, true, true, true, true, true, true, true] rfl rfl (any_of HT_.out (by kernel_rfl)) (fun _ _ _ h => h) (Or.inl ⟨by rfl, ?_⟩) ?_ ?_
          rotate_left
          ·
           intro w'
           go_simp
           with_reducible rfl
          rotate_left
          ·
           simp only [Act.put, List.setIfInBounds_toArray, List.set_cons_zero, List.set_cons_succ, i64_w, i32_w]
           rfl
          refine done_ (done_of HT_.out (by kernel_rfl)) ?_
          try go_wp2
          go_ret
          exact ⟨by first | rfl | (simp [errW_none, errW_some] <;> rfl) | (simp [*, errW_none, errW_some] <;> rfl), by repeat (first | (with_reducible first | exact HB.out | apply below_alloc | apply pw_below_drewN | apply below_drew1 | refine below_set ?_ GE196.out) | exact HB.out)⟩
         ·
          replace c144 := Bool.eq_false_iff.mpr c144
          subst c144
          have H1 : (some false) = some r := by rw [if_neg (show ¬ (false = true) by decide)] at H; exact H
          clear H
          have H := H1
          clear H1
          exact absurd ((Option.some.inj H).trans hrt) Bool.false_ne_true
        ·
         replace c141 := Bool.eq_false_iff.mpr c141
         subst c141
         have H1 : (some false) = some r := by rw [if_neg (show ¬ (false = true) by decide)] at H; exact H
         clear H
         have H := H1
         clear H1
         exact absurd ((Option.some.inj H).trans hrt) Bool.false_ne_true
      ·
       rw [if_neg c17] at H
       have c17b0 : (t208 == t200) = false := by simpa using c17
       (try (have c17b1 : decide (t208 = t200) = false := by simpa using c17))
       (try (have c17b2 : (t208 == t200) = false := by simpa using c17))
       (try (have c17b3 : ¬ (t208 = t200) := by simpa using c17))
       clear c17
       exact absurd ((Option.some.inj H).trans hrt) Bool.false_ne_true
     ·
      rw [if_neg c14] at H
      have c14b0 : (t204 == true) = false := by simpa using c14
      (try (have c14b1 : decide (t204 = true) = false := by simpa using c14))
      (try (have c14b2 : (t204 == true) = false := by simpa using c14))
      (try (have c14b3 : ¬ (t204 = true) := by simpa using c14))
      clear c14
      exact absurd ((Option.some.inj H).trans hrt) Bool.false_ne_true
    ·
     replace c13 := Bool.eq_false_iff.mpr c13
     subst c13
     have H1 : (if (t204 == t200) = true then ((front_Join.f k l0 l1).bind fun t237 => ((front_Ahead.f k t237 a2_0 a2_1).bind fun t240 => (if (t240 == false) = true then ((front_LessEq.f k l0 l1).bind fun t241 => (if t241 = true then (if t200 = true then (some false) else ((front_Meet.f k l0 l1).bind fun t242 => ((front_LessEq.f k t242 l0).bind fun t245 => (if t245 = true then ((front_Join.f k l0 l1).bind fun t246 => ((front_LessEq.f k l0 t246).bind fun t249 => (if t249 = true then ((runnellaw05_live.f k).bind fun t250 => (some t250)) else (some false)))) else (some false))))) else ((front_Meet.f k l0 l1).bind fun t251 => ((front_LessEq.f k t251 l0).bind fun t254 => (if t254 = true then ((front_Join.f k l0 l1).bind fun t255 => ((front_LessEq.f k l0 t255).bind fun t258 => (if t258 = true then ((runnellaw05_live.f k).bind fun t259 => (some t259)) else (some false)))) else (some false)))))) else (some false)))) else (some false)) = some r := by rw [if_neg (show ¬ (false = true) by decide)] at H; exact H
     clear H
     have H := H1
     clear H1
     by_cases c217 : (t204 == t200) = true
     ·
      rw [if_pos c217] at H
      have c217b0 : (t204 == t200) = true := c217
      (try (have c217b1 : decide (t204 = t200) = true := by simpa using c217))
      (try (have c217b2 : (t204 == t200) = true := by simpa using c217))
      clear c217
      replace H := Option.bind_eq_some_iff.mp H
      obtain ⟨t237, A2180, H⟩ := H
      replace H : ((front_Ahead.f k t237 a2_0 a2_1).bind fun t240 => (if (t240 == false) = true then ((front_LessEq.f k l0 l1).bind fun t241 => (if t241 = true then (if t200 = true then (some false) else ((front_Meet.f k l0 l1).bind fun t242 => ((front_LessEq.f k t242 l0).bind fun t245 => (if t245 = true then ((front_Join.f k l0 l1).bind fun t246 => ((front_LessEq.f k l0 t246).bind fun t249 => (if t249 = true then ((runnellaw05_live.f k).bind fun t250 => (some t250)) else (some false)))) else (some false))))) else ((front_Meet.f k l0 l1).bind fun t251 => ((front_LessEq.f k t251 l0).bind fun t254 => (if t254 = true then ((front_Join.f k l0 l1).bind fun t255 => ((front_LessEq.f k l0 t255).bind fun t258 => (if t258 = true then ((runnellaw05_live.f k).bind fun t259 => (some t259)) else (some false)))) else (some false)))))) else (some false))) = some r := H
      have A218 := Aside0.mk A2180
      clear A2180
      replace H := Option.bind_eq_some_iff.mp H
      obtain ⟨t240, A2190, H⟩ := H
      replace H : (if (t240 == false) = true then ((front_LessEq.f k l0 l1).bind fun t241 => (if t241 = true then (if t200 = true then (some false) else ((front_Meet.f k l0 l1).bind fun t242 => ((front_LessEq.f k t242 l0).bind fun t245 => (if t245 = true then ((front_Join.f k l0 l1).bind fun t246 => ((front_LessEq.f k l0 t246).bind fun t249 => (if t249 = true then ((runnellaw05_live.f k).bind fun t250 => (some t250)) else (some false)))) else (some false))))) else ((front_Meet.f k l0 l1).bind fun t251 => ((front_LessEq.f k t251 l0).bind fun t254 => (if t254 = true then ((front_Join.f k l0 l1).bind fun t255 => ((front_LessEq.f k l0 t255).bind fun t258 => (if t258 = true then ((runnellaw05_live.f k).bind fun t259 => (some t259)) else (some false)))) else (some false)))))) else (some false)) = some r := H
      have A219 := Aside0.mk A2190
      clear A2190
      by_cases c220 : (t240 == false) = true
      ·
       rw [if_pos c220] at H
       have c220b0 : (t240 == false) = true := c220
       (try (have c220b1 : decide (t240 = false) = true := by simpa using c220))
       (try (have c220b2 : (t240 == false) = true := by simpa using c220))
       clear c220
       replace H := Option.bind_eq_some_iff.mp H
       obtain ⟨t241, A2210, H⟩ := H
       replace H : (if t241 = true then (if t200 = true then (some false) else ((front_Meet.f k l0 l1).bind fun t242 => ((front_LessEq.f k t242 l0).bind fun t245 => (if t245 = true then ((front_Join.f k l0 l1).bind fun t246 => ((front_LessEq.f k l0 t246).bind fun t249 => (if t249 = true then ((runnellaw05_live.f k).bind fun t250 => (some t250)) else (some false)))) else (some false))))) else ((front_Meet.f k l0 l1).bind fun t251 => ((front_LessEq.f k t251 l0).bind fun t254 => (if t254 = true then ((front_Join.f k l0 l1).bind fun t255 => ((front_LessEq.f k l0 t255).bind fun t258 => (if t258 = true then ((runnellaw05_live.f k).bind fun t259 => (some t259)) else (some false)))) else (some false))))) = some r := H
       have A221 := Aside0.mk A2210
       clear A2210
       by_cases c222 : t241 = true
       ·
        revert hu24
        repeat (first | revert ‹Exit → Act → World → Prop› | revert ‹Nat → Act → World → Prop› | revert ‹Act → World → Prop› | revert ‹World → Prop› | revert ‹World› | revert ‹Nat› | revert ‹Int› | revert ‹Bool› | revert ‹Value› | revert ‹Option Addr› | revert ‹Addr› | revert ‹List Int› | revert ‹List Nat› | revert ‹String› | revert ‹List Bool› | revert ‹List (List Int)› | revert ‹Exit› | revert ‹S24› | revert ‹List (S24)›)
        exact hl_2.out
       ·
        revert hu24
        repeat (first | revert ‹Exit → Act → World → Prop› | revert ‹Nat → Act → World → Prop› | revert ‹Act → World → Prop› | revert ‹World → Prop› | revert ‹World› | revert ‹Nat› | revert ‹Int› | revert ‹Bool› | revert ‹Value› | revert ‹Option Addr› | revert ‹Addr› | revert ‹List Int› | revert ‹List Nat› | revert ‹String› | revert ‹List Bool› | revert ‹List (List Int)› | revert ‹Exit› | revert ‹S24› | revert ‹List (S24)›)
        exact hl_3.out
      ·
       rw [if_neg c220] at H
       have c220b0 : (t240 == false) = false := by simpa using c220
       (try (have c220b1 : decide (t240 = false) = false := by simpa using c220))
       (try (have c220b2 : (t240 == false) = false := by simpa using c220))
       (try (have c220b3 : ¬ (t240 = false) := by simpa using c220))
       clear c220
       exact absurd ((Option.some.inj H).trans hrt) Bool.false_ne_true
     ·
      rw [if_neg c217] at H
      have c217b0 : (t204 == t200) = false := by simpa using c217
      (try (have c217b1 : decide (t204 = t200) = false := by simpa using c217))
      (try (have c217b2 : (t204 == t200) = false := by simpa using c217))
      (try (have c217b3 : ¬ (t204 = t200) := by simpa using c217))
      clear c217
      exact absurd ((Option.some.inj H).trans hrt) Bool.false_ne_true
end Go.Proofs.Ytdomdjojbpehiaa.PFrontBounds
