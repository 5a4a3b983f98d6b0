/- One piece of the machine's side of the law, written by a program over the translation; Lean checks it. -/
import Derived.Test.YtbdpnecnnokkkaaOSheetEncodesx0
import Derived.Test.YtbdpnecnnokkkaaOSheetEncodesx3
import Derived.Test.YtbdpnecnnokkkaaOSheetEncodesx5
import Derived.Test.YtbdpnecnnokkkaaOSheetEncodesx7
import Derived.Test.YtbdpnecnnokkkaaOSheetEncodesx8
import Derived.Test.YtbdpnecnnokkkaaOSheetEncodesx10
import Derived.Test.YtbdpnecnnokkkaaOSheetEncodesx13
import Derived.Test.YtbdpnecnnokkkaaOSheetEncodesx15
import Derived.Test.YtbdpnecnnokkkaaShort
namespace Go.Proofs.Ytbdpnecnnokkkaa.PSheetEncodes
open Go.RowKit Go.Proofs.YtbdpnecnnokkkaaW.PrintWords Go.Proofs.YtbdpnecnnokkkaaW.PrintLast Go.Proofs.YtbdpnecnnokkkaaW.PrintMore
attribute [local go_sem] max2_int min2_int max_two min_two max_three min_three max_four min_four   -- for this text's walks alone
set_option linter.unusedVariables false
set_option linter.unusedSimpArgs false

/-! ### runnellaw17_SheetEncodes: function 4 -/
def runnellaw17_SheetEncodes.j0 : Nat → List Int → Int → Bool → List (S44) → List Int → Int → Option (Bool)
 | 0, _, _, _, _, _, _ => none
 | k + 1, x3, x5, x28, x560000, x560001, x560002 => if x28 = true then (some false) else (if x5 = 0 then ((sheet_Decode.f k x3).bind fun bt571 => ((runnelref17_Bytes.f k x560000 x560001 x560002).bind fun t580 => (if (strOfNums x3).toList = (strOfNums t580).toList then ((runnellaw17_code.f bt571.2.2.2).bind fun t583 => (if t583 = 0 then ((runnelref17_Same.f k x560000 x560001 x560002 bt571.1 bt571.2.1 bt571.2.2.1).bind fun t584 => (if t584 = true then ((runnellaw17_live.f k).bind fun t585 => (some t585)) else (some false))) else (some false))) else (some false)))) else (if (x3.length : Int) = 0 then ((runnellaw17_live.f k).bind fun t570 => (some t570)) else (some false)))
def runnellaw17_SheetEncodes.f (k : Nat) (l0_0 : List (S44)) (l0_1 : List Int) (a0_2 : Int) : Option (Bool) := (runnelref16_Long.f k l0_0 l0_1 a0_2).bind fun t560 => (if t560 = true then ((runnellaw17_live.f k).bind fun t561 => (some t561)) else ((sheet_Encode.f k l0_0 l0_1 a0_2).bind fun bt562 => ((runnelref17_Check.f k l0_0 l0_1 a0_2).bind fun t566 => ((runnellaw17_code.f bt562.2).bind fun t567 => (if t567 = t566 then ((sheet_Check.f k l0_0 l0_1 a0_2).bind fun t568 => ((runnellaw17_code.f t568).bind fun t569 => (runnellaw17_SheetEncodes.j0 k bt562.1 t566 (t569 != t566) l0_0 l0_1 a0_2))) else (runnellaw17_SheetEncodes.j0 k bt562.1 t566 true l0_0 l0_1 a0_2))))))
def runnellaw17_SheetEncodes.T10 : Bool × List (List Nat × List Nat) := (true, [([], []), ([0], [0]), ([], []), ([2], [2]), ([3], [3]), ([1, 4], [1, 4]), ([5, 3], [5]), ([6], [6]), ([7, 6, 6], [6, 7]), ([8, 6], [6, 8]), ([6, 9], [6, 9]), ([10, 8], [10]), ([11], [11]), ([11], [11]), ([12, 13, 11, 11], [11, 12, 13]), ([11, 14], [11, 14]), ([15, 14], [15]), ([16, 16], [16]), ([16, 17], [16, 17]), ([18, 17, 0, 1, 2, 3, 4, 5, 6, 7, 8, 9, 10, 11, 12, 13, 14, 15, 16, 17, 18], [18])])
def runnellaw17_SheetEncodes.B10 : List Nat := [0, 1, 0, 4, 12, 31, 63, 127, 255, 511, 1023, 2047, 4095, 4095, 16383, 32767, 65535, 131071, 262143, 524287]
theorem runnellaw17_SheetEncodes.tab10 : rtab .any (opsOf Try.f4 10) = runnellaw17_SheetEncodes.T10 := by kernel_rfl
theorem runnellaw17_SheetEncodes.bits10 : waitsOk runnellaw17_SheetEncodes.T10.2 runnellaw17_SheetEncodes.B10 = true := by kernel_rfl
set_option maxHeartbeats 8000000 in
set_option maxRecDepth 100000 in
theorem runnellaw17_SheetEncodes.calls (k : Nat) (A0_0 : Option Addr) (c0_0 : Nat) (l0_0 : List (S44)) (A0_1 : Option Addr) (c0_1 : Nat) (l0_1 : List Int) (a0_2 : Int) (r : Bool) (w : World) (hr0_0 : Kd.C k44 w A0_0 l0_0.length l0_0) (hc0_0 : l0_0.length ≤ c0_0) (hr0_1 : Kd.C (Kd.int .i64) w A0_1 l0_1.length l0_1) (hc0_1 : l0_1.length ≤ c0_1) (hrt : r = true) (h : runnellaw17_SheetEncodes.f k l0_0 l0_1 a0_2 = some r) :
  Calls Try.prog 4 #[.agg #[.slice A0_0 l0_0.length c0_0, .slice A0_1 l0_1.length c0_1, .int .i64 a0_2]] w fun e w' => e = .returned (.bool r) ∧ Below w.heap.size w w' := by
 have hu25 := Try.underlying25
 have HR0_0 := Aside0.mk hr0_0
 have HC0_0 := Aside0.mk hc0_0
 clear hr0_0 hc0_0
 have HR0_1 := Aside0.mk hr0_1
 have HC0_1 := Aside0.mk hc0_1
 clear hr0_1 hc0_1
 have HB := Aside0.mk (Below.refl w.heap.size w)
 have H : ((runnelref16_Long.f k l0_0 l0_1 a0_2).bind fun t560 => (if t560 = true then ((runnellaw17_live.f k).bind fun t561 => (some t561)) else ((sheet_Encode.f k l0_0 l0_1 a0_2).bind fun bt562 => ((runnelref17_Check.f k l0_0 l0_1 a0_2).bind fun t566 => ((runnellaw17_code.f bt562.2).bind fun t567 => (if t567 = t566 then ((sheet_Check.f k l0_0 l0_1 a0_2).bind fun t568 => ((runnellaw17_code.f t568).bind fun t569 => (runnellaw17_SheetEncodes.j0 k bt562.1 t566 (t569 != t566) l0_0 l0_1 a0_2))) else (runnellaw17_SheetEncodes.j0 k bt562.1 t566 true l0_0 l0_1 a0_2))))))) = some r := h
 clear h
 replace H := Option.bind_eq_some_iff.mp H
 obtain ⟨t560, A20, H⟩ := H
 replace H : (if t560 = true then ((runnellaw17_live.f k).bind fun t561 => (some t561)) else ((sheet_Encode.f k l0_0 l0_1 a0_2).bind fun bt562 => ((runnelref17_Check.f k l0_0 l0_1 a0_2).bind fun t566 => ((runnellaw17_code.f bt562.2).bind fun t567 => (if t567 = t566 then ((sheet_Check.f k l0_0 l0_1 a0_2).bind fun t568 => ((runnellaw17_code.f t568).bind fun t569 => (runnellaw17_SheetEncodes.j0 k bt562.1 t566 (t569 != t566) l0_0 l0_1 a0_2))) else (runnellaw17_SheetEncodes.j0 k bt562.1 t566 true l0_0 l0_1 a0_2)))))) = some r := H
 have A2 := Aside0.mk A20
 clear A20
 by_cases c3 : t560 = true
 ·
  subst c3
  have H1 : ((runnellaw17_live.f k).bind fun t561 => (some t561)) = some r := by rw [if_pos rfl] at H; exact H
  clear H
  have H := H1
  clear H1
  replace H := Option.bind_eq_some_iff.mp H
  obtain ⟨t561, A40, H⟩ := H
  replace H : (some t561) = some r := H
  have A4 := Aside0.mk A40
  clear A40
  obtain rfl := Option.some.inj H
  go_enter Try.func4, Try.ntmps4
  go_wp2_with (first | ((with_reducible refine gate_dst (N := 1) rfl ?_); refine box_event ?hg (N := 1) ?hd (cs := #[.slice A0_0 l0_0.length c0_0, .slice A0_1 l0_1.length c0_1, .int .i64 a0_2]) (t := 25) ?hr ?_; (case hd => rfl); (case hg => rfl); (case hr => first | (go_simp; done) | (go_simp; rfl)); intro gb559 hg w5 hbox hb; have n0_ := Aside0.mk (below_step bl hb); have n1_ := Aside0.mk (hbox); have n2_ := Aside0.mk ((by rw [hg]; exact (below_size bl) : w.heap.size ≤ gb559)); have n3_ := Aside0.mk ((by rw [hg]; exact (below_size bl) : w.heap.size ≤ gb559)); clear HB; have HB := n0_; have BK559 := n1_; have GW559 := n2_; have GE559 := n3_; clear n0_ n1_ n2_ n3_; clear hb hbox hg; obtain ⟨hcz6_0, hcz6_1, hcz6_2⟩ := cells3 BK559.out; have hfz6_0 := blk_frozen BK559.out 0; have hfz6_1 := blk_frozen BK559.out 1; have hfz6_2 := blk_frozen BK559.out 2) | ((with_reducible refine gate_callee (f := 6) rfl ?_); refine goesL_ (some 9) rfl rfl Try.func6 (by kernel_rfl) rfl #[.agg #[.slice A0_0 l0_0.length c0_0, .slice A0_1 l0_1.length c0_1, .int .i64 a0_2]] rfl mpq ?_; (with_reducible refine (runnelref16_Long.calls k _ _ l0_0 _ _ l0_1 a0_2 true _ ?side1 ?side2 ?side3 ?side4 A2.out).mono ?_); (case side1 => repeat (first | exact (Kd.C_below HR0_0.out HB.out) | (with_reducible refine Kd.C_alloc ?_ _) | (with_reducible refine Kd.C_drewN ?_ _) | (with_reducible refine Kd.C_drew ?_))); (case side2 => exact HC0_0.out); (case side3 => repeat (first | exact (Kd.C_below HR0_1.out HB.out) | (with_reducible refine Kd.C_alloc ?_ _) | (with_reducible refine Kd.C_drewN ?_ _) | (with_reducible refine Kd.C_drew ?_))); (case side4 => exact HC0_1.out); rintro e w7 ⟨rfl, hb⟩; refine ⟨_, rfl, ?_⟩; have n0_ := Aside0.mk (blk_below (g := gb559) (o := .cells #[.slice A0_0 l0_0.length c0_0, .slice A0_1 l0_1.length c0_1, .int .i64 a0_2] 25 (0, 0)) bk hb); have n1_ := Aside0.mk (below_step bl hb); clear BK559; clear HB; have BK559 := n0_; have HB := n1_; clear n0_ n1_; (try clear hb); (try clear hb2); (try clear hk); (try clear hi)) | ((with_reducible refine gate_callee (f := 7) rfl ?_); refine goesL_ (some 10) rfl rfl Try.func7 (by kernel_rfl) rfl #[] rfl mpq ?_; (with_reducible refine (runnellaw17_live.calls k  t561 _ A4.out).mono ?_); rintro e w8 ⟨rfl, hb⟩; refine ⟨_, rfl, ?_⟩; have n0_ := Aside0.mk (blk_below (g := gb559) (o := .cells #[.slice A0_0 l0_0.length c0_0, .slice A0_1 l0_1.length c0_1, .int .i64 a0_2] 25 (0, 0)) bk hb); have n1_ := Aside0.mk (below_step bl hb); clear BK559; clear HB; have BK559 := n0_; have HB := n1_; clear n0_ n1_; (try clear hb); (try clear hb2); (try clear hk); (try clear hi)))
  go_ret
  exact ⟨erq, by repeat (first | (with_reducible first | exact HB.out | apply below_alloc | apply pw_below_drewN | apply below_drew1 | refine below_set ?_ GE559.out) | exact HB.out)⟩
 ·
  replace c3 := Bool.eq_false_iff.mpr c3
  subst c3
  have H1 : ((sheet_Encode.f k l0_0 l0_1 a0_2).bind fun bt562 => ((runnelref17_Check.f k l0_0 l0_1 a0_2).bind fun t566 => ((runnellaw17_code.f bt562.2).bind fun t567 => (if t567 = t566 then ((sheet_Check.f k l0_0 l0_1 a0_2).bind fun t568 => ((runnellaw17_code.f t568).bind fun t569 => (runnellaw17_SheetEncodes.j0 k bt562.1 t566 (t569 != t566) l0_0 l0_1 a0_2))) else (runnellaw17_SheetEncodes.j0 k bt562.1 t566 true l0_0 l0_1 a0_2))))) = some r := by rw [if_neg (show ¬ (false = true) by decide)] at H; exact H
  clear H
  have H := H1
  clear H1
  replace H := Option.bind_eq_some_iff.mp H
  obtain ⟨⟨t562, t565⟩, A90, H⟩ := H
  replace H : ((runnelref17_Check.f k l0_0 l0_1 a0_2).bind fun t566 => ((runnellaw17_code.f t565).bind fun t567 => (if t567 = t566 then ((sheet_Check.f k l0_0 l0_1 a0_2).bind fun t568 => ((runnellaw17_code.f t568).bind fun t569 => (runnellaw17_SheetEncodes.j0 k t562 t566 (t569 != t566) l0_0 l0_1 a0_2))) else (runnellaw17_SheetEncodes.j0 k t562 t566 true l0_0 l0_1 a0_2)))) = some r := H
  have A9 := Aside0.mk A90
  clear A90
  replace H := Option.bind_eq_some_iff.mp H
  obtain ⟨t566, A100, H⟩ := H
  replace H : ((runnellaw17_code.f t565).bind fun t567 => (if t567 = t566 then ((sheet_Check.f k l0_0 l0_1 a0_2).bind fun t568 => ((runnellaw17_code.f t568).bind fun t569 => (runnellaw17_SheetEncodes.j0 k t562 t566 (t569 != t566) l0_0 l0_1 a0_2))) else (runnellaw17_SheetEncodes.j0 k t562 t566 true l0_0 l0_1 a0_2))) = some r := H
  have A10 := Aside0.mk A100
  clear A100
  have HC11 := Aside0.mk H
  clear H
  go_enter Try.func4, Try.ntmps4
  go_upto_region 5 with (first | ((with_reducible refine gate_dst (N := 1) rfl ?_); refine box_event ?hg (N := 1) ?hd (cs := #[.slice A0_0 l0_0.length c0_0, .slice A0_1 l0_1.length c0_1, .int .i64 a0_2]) (t := 25) ?hr ?_; (case hd => rfl); (case hg => rfl); (case hr => first | (go_simp; done) | (go_simp; rfl)); intro gb559 hg w12 hbox hb; have n0_ := Aside0.mk (below_step bl hb); have n1_ := Aside0.mk (hbox); have n2_ := Aside0.mk ((by rw [hg]; exact (below_size bl) : w.heap.size ≤ gb559)); have n3_ := Aside0.mk ((by rw [hg]; exact (below_size bl) : w.heap.size ≤ gb559)); clear HB; have HB := n0_; have BK559 := n1_; have GW559 := n2_; have GE559 := n3_; clear n0_ n1_ n2_ n3_; clear hb hbox hg; obtain ⟨hcz13_0, hcz13_1, hcz13_2⟩ := cells3 BK559.out; have hfz13_0 := blk_frozen BK559.out 0; have hfz13_1 := blk_frozen BK559.out 1; have hfz13_2 := blk_frozen BK559.out 2) | ((with_reducible refine gate_callee (f := 6) rfl ?_); refine goesL_ (some 9) rfl rfl Try.func6 (by kernel_rfl) rfl #[.agg #[.slice A0_0 l0_0.length c0_0, .slice A0_1 l0_1.length c0_1, .int .i64 a0_2]] rfl mpq ?_; (with_reducible refine (runnelref16_Long.calls k _ _ l0_0 _ _ l0_1 a0_2 false _ ?side1 ?side2 ?side3 ?side4 A2.out).mono ?_); (case side1 => repeat (first | exact (Kd.C_below HR0_0.out HB.out) | (with_reducible refine Kd.C_alloc ?_ _) | (with_reducible refine Kd.C_drewN ?_ _) | (with_reducible refine Kd.C_drew ?_))); (case side2 => exact HC0_0.out); (case side3 => repeat (first | exact (Kd.C_below HR0_1.out HB.out) | (with_reducible refine Kd.C_alloc ?_ _) | (with_reducible refine Kd.C_drewN ?_ _) | (with_reducible refine Kd.C_drew ?_))); (case side4 => exact HC0_1.out); rintro e w14 ⟨rfl, hb⟩; refine ⟨_, rfl, ?_⟩; have n0_ := Aside0.mk (blk_below (g := gb559) (o := .cells #[.slice A0_0 l0_0.length c0_0, .slice A0_1 l0_1.length c0_1, .int .i64 a0_2] 25 (0, 0)) bk hb); have n1_ := Aside0.mk (below_step bl hb); clear BK559; clear HB; have BK559 := n0_; have HB := n1_; clear n0_ n1_; (try clear hb); (try clear hb2); (try clear hk); (try clear hi); obtain ⟨hcz15_0, hcz15_1, hcz15_2⟩ := cells3 BK559.out; have hfz15_0 := blk_frozen BK559.out 0; have hfz15_1 := blk_frozen BK559.out 1; have hfz15_2 := blk_frozen BK559.out 2) | ((with_reducible refine gate_callee (f := 10) rfl ?_); refine goesL_ (some 13) rfl rfl Try.func10 (by kernel_rfl) rfl #[.agg #[.slice A0_0 l0_0.length c0_0, .slice A0_1 l0_1.length c0_1, .int .i64 a0_2]] rfl mpq ?_; (with_reducible refine (sheet_Encode.calls k _ _ l0_0 _ _ l0_1 a0_2 t562 t565 _ ?side1 ?side2 ?side3 ?side4 A9.out).mono ?_); (case side1 => repeat (first | exact (Kd.C_below HR0_0.out HB.out) | (with_reducible refine Kd.C_alloc ?_ _) | (with_reducible refine Kd.C_drewN ?_ _) | (with_reducible refine Kd.C_drew ?_))); (case side2 => exact HC0_0.out); (case side3 => repeat (first | exact (Kd.C_below HR0_1.out HB.out) | (with_reducible refine Kd.C_alloc ?_ _) | (with_reducible refine Kd.C_drewN ?_ _) | (with_reducible refine Kd.C_drew ?_))); (case side4 => exact HC0_1.out); rintro e w16 ⟨v563, rfl, ho0, hb⟩; refine ⟨_, rfl, ?_⟩; have n0_ := Aside0.mk (Kd.R_lower ho0 (below_size bl)); have n1_ := Aside0.mk (blk_below (g := gb559) (o := .cells #[.slice A0_0 l0_0.length c0_0, .slice A0_1 l0_1.length c0_1, .int .i64 a0_2] 25 (0, 0)) bk hb); have n2_ := Aside0.mk (below_step bl hb); clear BK559; clear HB; have HO564 := n0_; have BK559 := n1_; have HB := n2_; clear n0_ n1_ n2_; (try clear hb); (try clear hb2); (try clear hk); (try clear hi); (try clear ho0); obtain ⟨hcz17_0, hcz17_1, hcz17_2⟩ := cells3 BK559.out; have hfz17_0 := blk_frozen BK559.out 0; have hfz17_1 := blk_frozen BK559.out 1; have hfz17_2 := blk_frozen BK559.out 2) | ((with_reducible refine gate_callee (f := 11) rfl ?_); refine goesL_ (some 17) rfl rfl Try.func11 (by kernel_rfl) rfl #[.agg #[.slice A0_0 l0_0.length c0_0, .slice A0_1 l0_1.length c0_1, .int .i64 a0_2]] rfl mpq ?_; (with_reducible refine (runnelref17_Check.calls k _ _ l0_0 _ _ l0_1 a0_2 t566 _ ?side1 ?side2 ?side3 ?side4 A10.out).mono ?_); (case side1 => repeat (first | exact (Kd.C_below HR0_0.out HB.out) | (with_reducible refine Kd.C_alloc ?_ _) | (with_reducible refine Kd.C_drewN ?_ _) | (with_reducible refine Kd.C_drew ?_))); (case side2 => exact HC0_0.out); (case side3 => repeat (first | exact (Kd.C_below HR0_1.out HB.out) | (with_reducible refine Kd.C_alloc ?_ _) | (with_reducible refine Kd.C_drewN ?_ _) | (with_reducible refine Kd.C_drew ?_))); (case side4 => exact HC0_1.out); rintro e w18 ⟨rfl, hb⟩; refine ⟨_, rfl, ?_⟩; have n0_ := Aside0.mk (Kd.R_below (rp HO564.out) hb); have n1_ := Aside0.mk (blk_below (g := gb559) (o := .cells #[.slice A0_0 l0_0.length c0_0, .slice A0_1 l0_1.length c0_1, .int .i64 a0_2] 25 (0, 0)) bk hb); have n2_ := Aside0.mk (below_step bl hb); clear HO564; clear BK559; clear HB; have HO564 := n0_; have BK559 := n1_; have HB := n2_; clear n0_ n1_ n2_; (try clear hb); (try clear hb2); (try clear hk); (try clear hi)))
  (try simp only [Act.put, List.setIfInBounds_toArray, List.set_cons_zero, List.set_cons_succ])
  go_cut [28] (fun v28 wc => ∃ (kq : Nat) (x28_10 : Bool), v28 = .bool x28_10 ∧ Aside0 (runnellaw17_SheetEncodes.j0 kq t562 t566 x28_10 l0_0 l0_1 a0_2 = some r) ∧ Aside0 (kq ≤ k) ∧ Aside0 (Kd.R (Kd.int .u8) 5 wc w.heap.size (fun _ => True) v563 t562) ∧ Aside0 (wc.heap[gb559]? = some (.cells #[(.slice A0_0 l0_0.length c0_0), (.slice A0_1 l0_1.length c0_1), .int .i64 a0_2] 25 (0, 0))) ∧ Aside0 (Below w.heap.size w wc))
  case first =>
   have H := HC11.out
   clear HC11
   replace H := Option.bind_eq_some_iff.mp H
   obtain ⟨t567, A190, H⟩ := H
   replace H : (if t567 = t566 then ((sheet_Check.f k l0_0 l0_1 a0_2).bind fun t568 => ((runnellaw17_code.f t568).bind fun t569 => (runnellaw17_SheetEncodes.j0 k t562 t566 (t569 != t566) l0_0 l0_1 a0_2))) else (runnellaw17_SheetEncodes.j0 k t562 t566 true l0_0 l0_1 a0_2)) = some r := H
   have A19 := Aside0.mk A190
   clear A190
   by_cases c20 : t567 = t566
   ·
    rw [if_pos c20] at H
    have c20b0 : (t567 == t566) = true := beq_iff_eq.mpr c20
    have c20b1 : (t567 != t566) = false := bne_eq_false_iff_eq.mpr c20
    clear c20
    (first | rw [c20b0] | (simp only [i64_w, i32_w]; rw [c20b0]) | skip)
    replace H := Option.bind_eq_some_iff.mp H
    obtain ⟨t568, A210, H⟩ := H
    replace H : ((runnellaw17_code.f t568).bind fun t569 => (runnellaw17_SheetEncodes.j0 k t562 t566 (t569 != t566) l0_0 l0_1 a0_2)) = some r := H
    have A21 := Aside0.mk A210
    clear A210
    replace H := Option.bind_eq_some_iff.mp H
    obtain ⟨t569, A220, H⟩ := H
    replace H : (runnellaw17_SheetEncodes.j0 k t562 t566 (t569 != t566) l0_0 l0_1 a0_2) = some r := H
    have A22 := Aside0.mk A220
    clear A220
    have H' := Aside0.mk H
    clear H
    go_wp2_with (first | ((with_reducible refine gate_callee (f := 12) rfl ?_); refine goesL_ (some 19) rfl rfl Try.func12 (by kernel_rfl) rfl #[.int .i64 t565] rfl mpq ?_; (with_reducible refine (runnellaw17_code.calls t565 t567 _ A19.out).mono ?_); rintro e w' ⟨rfl, ⟨nd, rfl⟩⟩; refine ⟨_, rfl, ?_⟩; obtain ⟨hcz23_0, hcz23_1, hcz23_2⟩ := cells3 BK559.out; have hfz23_0 := blk_frozen BK559.out 0; have hfz23_1 := blk_frozen BK559.out 1; have hfz23_2 := blk_frozen BK559.out 2) | (go_at_call 13; (with_reducible refine (sheet_Check.calls k _ _ l0_0 _ _ l0_1 a0_2 t568 _ ?side1 ?side2 ?side3 ?side4 A21.out).mono ?_); (case side1 => repeat (first | exact (Kd.C_below HR0_0.out bl) | (with_reducible refine Kd.C_alloc ?_ _) | (with_reducible refine Kd.C_drewN ?_ _) | (with_reducible refine Kd.C_drew ?_))); (case side2 => exact HC0_0.out); (case side3 => repeat (first | exact (Kd.C_below HR0_1.out bl) | (with_reducible refine Kd.C_alloc ?_ _) | (with_reducible refine Kd.C_drewN ?_ _) | (with_reducible refine Kd.C_drew ?_))); (case side4 => exact HC0_1.out); rintro e w24 ⟨rfl, hb⟩; have n0_ := Aside0.mk (Kd.R_below (rp HO564.out) hb); have n1_ := Aside0.mk (blk_below (g := gb559) (o := .cells #[.slice A0_0 l0_0.length c0_0, .slice A0_1 l0_1.length c0_1, .int .i64 a0_2] 25 (0, 0)) bk hb); have n2_ := Aside0.mk (below_step bl hb); clear HO564; clear BK559; clear HB; have HO564 := n0_; have BK559 := n1_; have HB := n2_; clear n0_ n1_ n2_; (try clear hb); (try clear hb2); (try clear hk); (try clear hi)) | (go_at_call 12; (with_reducible refine (runnellaw17_code.calls t568 t569 _ A22.out).mono ?_); rintro e w' ⟨rfl, ⟨nd, rfl⟩⟩))
    go_meet
    case rel => exact ⟨_, ((t569 != t566)), (by first | rfl | (simp; done) | (simp [*]; done)), H', ⟨by first | omega | exact Nat.le_refl _⟩, ⟨by (with_reducible repeat (first | apply Kd.R_alloc | apply Kd.R_drewN | apply Kd.R_drew)); exact HO564.out⟩, ⟨by (with_reducible repeat (first | refine blk_drewN ?_ _ | refine blk_drew ?_ | refine blk_alloc ?_ _)); exact BK559.out⟩, ⟨bl⟩⟩
   ·
    rw [if_neg c20] at H
    have c20b0 : (t567 == t566) = false := beq_eq_false_iff_ne.mpr c20
    have c20b1 : (t567 != t566) = true := bne_iff_ne.mpr c20
    (first | rw [c20b0] | (simp only [i64_w, i32_w]; rw [c20b0]) | skip)
    have H' := Aside0.mk H
    clear H
    go_wp2_with (first | ((with_reducible refine gate_callee (f := 12) rfl ?_); refine goesL_ (some 19) rfl rfl Try.func12 (by kernel_rfl) rfl #[.int .i64 t565] rfl mpq ?_; (with_reducible refine (runnellaw17_code.calls t565 t567 _ A19.out).mono ?_); rintro e w' ⟨rfl, ⟨nd, rfl⟩⟩; refine ⟨_, rfl, ?_⟩))
    go_meet
    case rel => exact ⟨_, (true), (by first | rfl | (simp; done) | (simp [*]; done)), H', ⟨by first | omega | exact Nat.le_refl _⟩, ⟨by (with_reducible repeat (first | apply Kd.R_alloc | apply Kd.R_drewN | apply Kd.R_drew)); exact HO564.out⟩, ⟨by (with_reducible repeat (first | refine blk_drewN ?_ _ | refine blk_drew ?_ | refine blk_alloc ?_ _)); exact BK559.out⟩, ⟨bl⟩⟩
  case rest =>
   clear HC11
   (try clear c3); (try clear hcz13_0); (try clear hcz13_1); (try clear hcz13_2); (try clear hcz15_0); (try clear hcz15_1); (try clear hcz15_2); (try clear hcz17_0); (try clear hcz17_1); (try clear hcz17_2); (try clear hfz13_0); (try clear hfz13_1); (try clear hfz13_2); (try clear hfz15_0); (try clear hfz15_1); (try clear hfz15_2); (try clear hfz17_0); (try clear hfz17_1); (try clear hfz17_2)
   obtain ⟨kq, x28_10, rfl, HA, HJ10, HO_3, BK559, HB⟩ := hcut
   cases kq with
   | zero => exact absurd HA.out (by simp [runnellaw17_SheetEncodes.j0])
   | succ kj10 =>
    have H := HA.out
    clear HA
    simp only [runnellaw17_SheetEncodes.j0] at H
    by_cases c25 : x28_10 = true
    ·
     subst c25
     have H1 : (some false) = some r := by rw [if_pos rfl] at H; exact H
     clear H
     have H := H1
     clear H1
     exact absurd ((Option.some.inj H).trans hrt) Bool.false_ne_true
    ·
     replace c25 := Bool.eq_false_iff.mpr c25
     subst c25
     have H1 : (if t566 = 0 then ((sheet_Decode.f kj10 t562).bind fun bt571 => ((runnelref17_Bytes.f kj10 l0_0 l0_1 a0_2).bind fun t580 => (if (strOfNums t562).toList = (strOfNums t580).toList then ((runnellaw17_code.f bt571.2.2.2).bind fun t583 => (if t583 = 0 then ((runnelref17_Same.f kj10 l0_0 l0_1 a0_2 bt571.1 bt571.2.1 bt571.2.2.1).bind fun t584 => (if t584 = true then ((runnellaw17_live.f kj10).bind fun t585 => (some t585)) else (some false))) else (some false))) else (some false)))) else (if (t562.length : Int) = 0 then ((runnellaw17_live.f kj10).bind fun t570 => (some t570)) else (some false))) = some r := by rw [if_neg (show ¬ (false = true) by decide)] at H; exact H
     clear H
     have H := H1
     clear H1
     by_cases c26 : t566 = 0
     ·
      rw [if_pos c26] at H
      have c26b0 : (t566 == 0) = true := beq_iff_eq.mpr c26
      have c26b1 : (t566 != 0) = false := bne_eq_false_iff_eq.mpr c26
      clear c26
      replace H := Option.bind_eq_some_iff.mp H
      obtain ⟨⟨t571, t574, t577, t578⟩, A270, H⟩ := H
      replace H : ((runnelref17_Bytes.f kj10 l0_0 l0_1 a0_2).bind fun t580 => (if (strOfNums t562).toList = (strOfNums t580).toList then ((runnellaw17_code.f t578).bind fun t583 => (if t583 = 0 then ((runnelref17_Same.f kj10 l0_0 l0_1 a0_2 t571 t574 t577).bind fun t584 => (if t584 = true then ((runnellaw17_live.f kj10).bind fun t585 => (some t585)) else (some false))) else (some false))) else (some false))) = some r := H
      have A27 := Aside0.mk A270
      clear A270
      replace H := Option.bind_eq_some_iff.mp H
      obtain ⟨t580, A280, H⟩ := H
      replace H : (if (strOfNums t562).toList = (strOfNums t580).toList then ((runnellaw17_code.f t578).bind fun t583 => (if t583 = 0 then ((runnelref17_Same.f kj10 l0_0 l0_1 a0_2 t571 t574 t577).bind fun t584 => (if t584 = true then ((runnellaw17_live.f kj10).bind fun t585 => (some t585)) else (some false))) else (some false))) else (some false)) = some r := H
      have A28 := Aside0.mk A280
      clear A280
      have HQ_ := Aside0.mk H
      clear H
      obtain ⟨Ao35, co35, eo35⟩ := Kd.R_slice HO_3.out
      subst eo35
      try go_wp2_with (first | ((with_reducible refine gate_callee (f := 14) rfl ?_); refine goesL_ (some 39) rfl rfl Try.func14 (by kernel_rfl) rfl #[.slice Ao35 t562.length co35] rfl mpq ?_; (with_reducible refine (sheet_Decode.calls kj10 _ _ t562 t571 t574 t577 t578 _ ?side1 ?side2 A27.out).mono ?_); (case side1 => repeat (first | exact (Kd.R_reads' HO_3.out).2.2 | (with_reducible refine Kd.C_alloc ?_ _) | (with_reducible refine Kd.C_drewN ?_ _) | (with_reducible refine Kd.C_drew ?_))); (case side2 => exact (Kd.R_reads' HO_3.out).2.1); rintro e w36 ⟨v572, v575, rfl, ho0, ho1, hb⟩; refine ⟨_, rfl, ?_⟩; have n0_ := Aside0.mk (Kd.R_below (rp HO_3.out) hb); have n1_ := Aside0.mk (Kd.R_lower ho0 (below_size bl)); have n2_ := Aside0.mk (Kd.R_lower ho1 (below_size bl)); have n3_ := Aside0.mk (blk_below (g := gb559) (o := .cells #[.slice A0_0 l0_0.length c0_0, .slice A0_1 l0_1.length c0_1, .int .i64 a0_2] 25 (0, 0)) bk hb); have n4_ := Aside0.mk (below_step bl hb); clear HO_3; clear BK559; clear HB; have HO_3 := n0_; have HO573 := n1_; have HO576 := n2_; have BK559 := n3_; have HB := n4_; clear n0_ n1_ n2_ n3_ n4_; (try clear hb); (try clear hb2); (try clear hk); (try clear hi); (try clear ho0); (try clear ho1)) | ((with_reducible refine gate_dst (N := 6) rfl ?_); refine box_event ?hg (N := 6) ?hd (cs := #[.slice none 0 0, .slice none 0 0, .int .i64 0]) (t := 25) ?hr ?_; (case hd => rfl); (case hg => rfl); (case hr => first | (go_simp; done) | (go_simp; rfl)); intro gb579 hg w37 hbox hb; have n0_ := Aside0.mk (Kd.R_below (rp HO_3.out) hb); have n1_ := Aside0.mk (Kd.R_below (rp HO573.out) hb); have n2_ := Aside0.mk (Kd.R_below (rp HO576.out) hb); have n3_ := Aside0.mk (blk_below (g := gb559) (o := .cells #[.slice A0_0 l0_0.length c0_0, .slice A0_1 l0_1.length c0_1, .int .i64 a0_2] 25 (0, 0)) bk hb); have n4_ := Aside0.mk (below_step bl hb); have n5_ := Aside0.mk (hbox); have n6_ := Aside0.mk ((by rw [hg]; exact (below_size bl) : w.heap.size ≤ gb579)); have n7_ := Aside0.mk ((by rw [hg]; exact (below_size bl) : w.heap.size ≤ gb579)); have n8_ := Aside0.mk ((by rw [hg]; exact Nat.ne_of_lt blt : gb559 ≠ gb579)); have n9_ := Aside0.mk ((by rw [hg]; exact Nat.ne_of_gt blt : gb579 ≠ gb559)); clear HO_3; clear HO573; clear HO576; clear BK559; clear HB; have HO_3 := n0_; have HO573 := n1_; have HO576 := n2_; have BK559 := n3_; have HB := n4_; have BK579 := n5_; have GW579 := n6_; have GE579 := n7_; have NB559_579 := n8_; have NB579_559 := n9_; clear n0_ n1_ n2_ n3_ n4_ n5_ n6_ n7_ n8_ n9_; clear hb hbox hg; obtain ⟨Ao38, co38, eo38⟩ := Kd.R_slice HO573.out; subst eo38; have hnb39 := NB579_559.out; have hnc39 := NB559_579.out; obtain ⟨hcz40_0, hcz40_1, hcz40_2⟩ := cells3 BK579.out; obtain ⟨hfz40_0, hfz40_1, hfz40_2⟩ := frz3 BK579.out; obtain ⟨Ao41, co41, eo41⟩ := Kd.R_slice HO576.out; subst eo41))
      have n0_ : Aside0 (Kd.R (Kd.int .u8) 5 (((w37.setCell ⟨gb579, 0, none⟩ (.slice Ao38 t571.length co38)).setCell ⟨gb579, 1, none⟩ (.slice Ao41 t574.length co41)).setCell ⟨gb579, 2, none⟩ (.int .i64 t577)) w.heap.size (fun _ => True) (.slice Ao35 t562.length co35) t562) := ⟨by (with_reducible repeat (first | apply Kd.R_alloc | apply Kd.R_drewN | apply Kd.R_drew)); exact Kd.R_mono (Kd.R_far (p := ⟨gb579, 2, none⟩) (Kd.R_far (p := ⟨gb579, 1, none⟩) (Kd.R_far (p := ⟨gb579, 0, none⟩) (Kd.R_types HO_3.out BK579.out (by decide)) (fun _ hk => hk.2) (.slice Ao38 t571.length co38)) (fun _ hk => hk.2) (.slice Ao41 t574.length co41)) (fun _ hk => hk.2) (.int .i64 t577)) (fun _ hk => trivial)⟩
      have n1_ : Aside0 (Kd.R k44 44 (((w37.setCell ⟨gb579, 0, none⟩ (.slice Ao38 t571.length co38)).setCell ⟨gb579, 1, none⟩ (.slice Ao41 t574.length co41)).setCell ⟨gb579, 2, none⟩ (.int .i64 t577)) w.heap.size (fun k_ => some k_ ≠ (.slice Ao41 t574.length co41 : Value).ownBlock) (.slice Ao38 t571.length co38) t571) := ⟨by (with_reducible repeat (first | apply Kd.R_alloc | apply Kd.R_drewN | apply Kd.R_drew)); exact Kd.R_mono (Kd.R_far (p := ⟨gb579, 2, none⟩) (Kd.R_far (p := ⟨gb579, 1, none⟩) (Kd.R_far (p := ⟨gb579, 0, none⟩) (Kd.R_types HO573.out BK579.out (by decide)) (fun _ hk => hk.2) (.slice Ao38 t571.length co38)) (fun _ hk => hk.2) (.slice Ao41 t574.length co41)) (fun _ hk => hk.2) (.int .i64 t577)) (fun _ hk => hk.1)⟩
      have n2_ : Aside0 (Kd.R (Kd.int .i64) 3 (((w37.setCell ⟨gb579, 0, none⟩ (.slice Ao38 t571.length co38)).setCell ⟨gb579, 1, none⟩ (.slice Ao41 t574.length co41)).setCell ⟨gb579, 2, none⟩ (.int .i64 t577)) w.heap.size (fun _ => True) (.slice Ao41 t574.length co41) t574) := ⟨by (with_reducible repeat (first | apply Kd.R_alloc | apply Kd.R_drewN | apply Kd.R_drew)); exact Kd.R_mono (Kd.R_far (p := ⟨gb579, 2, none⟩) (Kd.R_far (p := ⟨gb579, 1, none⟩) (Kd.R_far (p := ⟨gb579, 0, none⟩) (Kd.R_types HO576.out BK579.out (by decide)) (fun _ hk => hk.2) (.slice Ao38 t571.length co38)) (fun _ hk => hk.2) (.slice Ao41 t574.length co41)) (fun _ hk => hk.2) (.int .i64 t577)) (fun _ hk => trivial)⟩
      have n3_ : Aside0 ((((w37.setCell ⟨gb579, 0, none⟩ (.slice Ao38 t571.length co38)).setCell ⟨gb579, 1, none⟩ (.slice Ao41 t574.length co41)).setCell ⟨gb579, 2, none⟩ (.int .i64 t577)).heap[gb559]? = some (.cells #[.slice A0_0 l0_0.length c0_0, .slice A0_1 l0_1.length c0_1, .int .i64 a0_2] 25 (0, 0))) := ⟨by (iterate 3 ((with_reducible repeat (first | refine blk_drewN ?_ _ | refine blk_drew ?_ | refine blk_alloc ?_ _)); refine blk_far ?_ NB559_579.out _)); (with_reducible repeat (first | refine blk_drewN ?_ _ | refine blk_drew ?_ | refine blk_alloc ?_ _)); exact BK559.out⟩
      have n4_ : Aside0 ((((w37.setCell ⟨gb579, 0, none⟩ (.slice Ao38 t571.length co38)).setCell ⟨gb579, 1, none⟩ (.slice Ao41 t574.length co41)).setCell ⟨gb579, 2, none⟩ (.int .i64 t577)).heap[gb579]? = some (.cells #[.slice Ao38 t571.length co38, .slice Ao41 t574.length co41, .int .i64 t577] 25 (0, 0))) := ⟨by (with_reducible repeat (first | refine blk_drewN ?_ _ | refine blk_drew ?_ | refine blk_alloc ?_ _)); refine blk_put (cs := #[.slice Ao38 t571.length co38, .slice Ao41 t574.length co41, .int .i64 0]) ?_ 2 _ rfl; (with_reducible repeat (first | refine blk_drewN ?_ _ | refine blk_drew ?_ | refine blk_alloc ?_ _)); refine blk_put (cs := #[.slice Ao38 t571.length co38, .slice none 0 0, .int .i64 0]) ?_ 1 _ rfl; (with_reducible repeat (first | refine blk_drewN ?_ _ | refine blk_drew ?_ | refine blk_alloc ?_ _)); refine blk_put (cs := #[.slice none 0 0, .slice none 0 0, .int .i64 0]) ?_ 0 _ rfl; (with_reducible repeat (first | refine blk_drewN ?_ _ | refine blk_drew ?_ | refine blk_alloc ?_ _)); exact BK579.out⟩
      have n5_ : Aside0 (Below w.heap.size w (((w37.setCell ⟨gb579, 0, none⟩ (.slice Ao38 t571.length co38)).setCell ⟨gb579, 1, none⟩ (.slice Ao41 t574.length co41)).setCell ⟨gb579, 2, none⟩ (.int .i64 t577))) := ⟨bl⟩
      (try clear HO_3)
      (try clear HO573)
      (try clear HO576)
      (try clear BK559)
      (try clear BK579)
      (try clear HB)
      generalize (((w37.setCell ⟨gb579, 0, none⟩ (.slice Ao38 t571.length co38)).setCell ⟨gb579, 1, none⟩ (.slice Ao41 t574.length co41)).setCell ⟨gb579, 2, none⟩ (.int .i64 t577)) = w42 at n0_ n1_ n2_ n3_ n4_ n5_ ⊢
      have HO_3 := n0_
      have HO573 := n1_
      have HO576 := n2_
      have BK559 := n3_
      have BK579 := n4_
      have HB := n5_
      clear n0_ n1_ n2_ n3_ n4_ n5_
      have n0_ := Aside0.mk (Kd.R_drew HO_3.out)
      have n1_ := Aside0.mk (Kd.R_drew HO573.out)
      have n2_ := Aside0.mk (Kd.R_drew HO576.out)
      have n3_ := Aside0.mk (blk_drew BK559.out)
      have n4_ := Aside0.mk (blk_drew BK579.out)
      have n5_ := Aside0.mk (below_drew1 HB.out)
      clear HO_3
      clear HO573
      clear HO576
      clear BK559
      clear BK579
      clear HB
      have HO_3 := n0_
      have HO573 := n1_
      have HO576 := n2_
      have BK559 := n3_
      have BK579 := n4_
      have HB := n5_
      clear n0_ n1_ n2_ n3_ n4_ n5_
      have H := HQ_.out
      clear HQ_
      by_cases c29 : (strOfNums t562).toList = (strOfNums t580).toList
      ·
       rw [if_pos c29] at H
       have c29b0 : ((strOfNums t562).toList == (strOfNums t580).toList) = true := beq_iff_eq.mpr c29
       have c29b1 : ((strOfNums t562).toList != (strOfNums t580).toList) = false := bne_eq_false_iff_eq.mpr c29
       clear c29
       replace H := Option.bind_eq_some_iff.mp H
       obtain ⟨t583, A300, H⟩ := H
       replace H : (if t583 = 0 then ((runnelref17_Same.f kj10 l0_0 l0_1 a0_2 t571 t574 t577).bind fun t584 => (if t584 = true then ((runnellaw17_live.f kj10).bind fun t585 => (some t585)) else (some false))) else (some false)) = some r := H
       have A30 := Aside0.mk A300
       clear A300
       by_cases c31 : t583 = 0
       ·
        rw [if_pos c31] at H
        have c31b0 : (t583 == 0) = true := beq_iff_eq.mpr c31
        have c31b1 : (t583 != 0) = false := bne_eq_false_iff_eq.mpr c31
        clear c31
        replace H := Option.bind_eq_some_iff.mp H
        obtain ⟨t584, A320, H⟩ := H
        replace H : (if t584 = true then ((runnellaw17_live.f kj10).bind fun t585 => (some t585)) else (some false)) = some r := H
        have A32 := Aside0.mk A320
        clear A320
        by_cases c33 : t584 = true
        ·
         subst c33
         have H1 : ((runnellaw17_live.f kj10).bind fun t585 => (some t585)) = some r := by rw [if_pos rfl] at H; exact H
         clear H
         have H := H1
         clear H1
         replace H := Option.bind_eq_some_iff.mp H
         obtain ⟨t585, A340, H⟩ := H
         replace H : (some t585) = some r := H
         have A34 := Aside0.mk A340
         clear A340
         obtain rfl := Option.some.inj H
         refine start_ (n := 20) (S := fun w' => w'.cell? ⟨gb559, 0, none⟩ = some (.slice A0_0 l0_0.length c0_0) ∧ w'.cell? ⟨gb559, 1, none⟩ = some (.slice A0_1 l0_1.length c0_1) ∧ w'.cell? ⟨gb559, 2, none⟩ = some (.int .i64 a0_2) ∧ w'.cell? ⟨gb579, 0, none⟩ = some (.slice Ao38 t571.length co38) ∧ w'.cell? ⟨gb579, 1, none⟩ = some (.slice Ao41 t574.length co41) ∧ w'.cell? ⟨gb579, 2, none⟩ = some (.int .i64 t577) ∧ Sem.run Try.prog (convert 29 9 (.slice Ao35 t562.length co35)) w' = .ok (.string (strOfNums t562)) w') (ds := []) #[false, false, false, false, false, false, false, false, false, false, false, false, false, false, false, false, false, false, false, false] (by kernel_rfl) rfl rfl ⟨(blk_cell BK559.out 0).trans rfl, (blk_cell BK559.out 1).trans rfl, (blk_cell BK559.out 2).trans rfl, (blk_cell BK579.out 0).trans rfl, (blk_cell BK579.out 1).trans rfl, (blk_cell BK579.out 2).trans rfl, own_string (P := Try.prog) Try.underlying29 Try.underlying5 Try.underlying9 (Kd.own_of_R (by repeat (first | exact HO_3.out | (with_reducible refine Kd.R_alloc ?_ _) | (with_reducible refine Kd.R_drewN ?_ _) | (with_reducible refine Kd.R_drew ?_))))⟩ (fun hHeld => ?_); refine with_tabW runnellaw17_SheetEncodes.tab10 runnellaw17_SheetEncodes.bits10 (fun HT_ HW_ => ?_)
         generalize w42.drew = w43 at HO_3 HO573 HO576 BK559 BK579 HB hHeld ⊢
         refine pure_ (i := 0) (N := some 42) (v := ?_) (a' := ?_) #[true, false, false, false, false, false, false, false, false, false, false, false, false, false, false, false, false, false, false, false] rfl rfl (any_of HT_.out (by kernel_rfl)) (fun _ _ _ h => h) (Or.inl ⟨by rfl, ?_⟩) ?_ ?_
         rotate_left
         ·
          intro w'
          go_simp
          with_reducible rfl
         rotate_left
         ·
          simp only [Act.put, List.setIfInBounds_toArray, List.set_cons_zero, List.set_cons_succ, i64_w, i32_w]
          rfl
         refine take_ (i := 1) (N := some 43) (v := ?_) (a' := ?_) #[true, true, false, false, false, false, false, false, false, false, false, false, false, false, false, false, false, false, false, false] rfl rfl (take_ofW HT_.out HW_.out (by kernel_rfl)) (fun _ _ _ h => h) (Or.inl ⟨by rfl, ?_⟩) hHeld ?_ ?_
         rotate_left
         ·
          rintro w' ⟨s0, s1, s2, s3, s4, s5, s6⟩
          go_simp
          with_reducible rfl
         rotate_left
         ·
          simp only [Act.put, List.setIfInBounds_toArray, List.set_cons_zero, List.set_cons_succ, i64_w, i32_w]
          rfl
         refine take_ (i := 2) (N := some 44) (v := ?_) (a' := ?_) #[true, true, true, false, false, false, false, false, false, false, false, false, false, false, false, false, false, false, false, false] rfl rfl (take_ofW HT_.out HW_.out (by kernel_rfl)) (fun _ _ _ h => h) (Or.inl ⟨by rfl, ?_⟩) hHeld ?_ ?_
         rotate_left
         ·
          rintro w' ⟨s0, s1, s2, s3, s4, s5, s6⟩
          go_simp
          with_reducible rfl
         rotate_left
         ·
          simp only [Act.put, List.setIfInBounds_toArray, List.set_cons_zero, List.set_cons_succ, i64_w, i32_w]
          rfl
         refine one_ (i := 3) (N := some 45) #[true, true, true, true, false, false, false, false, false, false, false, false, false, false, false, false, false, false, false, false] rfl rfl (one_of HT_.out (by kernel_rfl)) (by decide) (fun K hK => ?_)
         refine goes_ Try.func15 (by kernel_rfl) rfl #[.agg #[.slice A0_0 l0_0.length c0_0, .slice A0_1 l0_1.length c0_1, .int .i64 a0_2]] (by rfl) rfl rfl mpq ?_
         with_reducible refine (runnelref17_Bytes.calls kj10 _ _ l0_0 _ _ l0_1 a0_2 t580 _ ?side1 ?side2 ?side3 ?side4 A28.out).mono ?_
         (case side1 => repeat (first | exact (Kd.C_below HR0_0.out HB.out) | (with_reducible refine Kd.C_alloc ?_ _) | (with_reducible refine Kd.C_drewN ?_ _) | (with_reducible refine Kd.C_drew ?_)))
         (case side2 => exact HC0_0.out)
         (case side3 => repeat (first | exact (Kd.C_below HR0_1.out HB.out) | (with_reducible refine Kd.C_alloc ?_ _) | (with_reducible refine Kd.C_drewN ?_ _) | (with_reducible refine Kd.C_drew ?_)))
         (case side4 => exact HC0_1.out)
         rintro e w44 ⟨v581, rfl, ho0, hb⟩
         refine ⟨_, rfl, ?_⟩
         have n0_ := Aside0.mk (Kd.R_elder' (rp HO_3.out) (Kd.R_base ho0) hb)
         have n1_ := Aside0.mk (Kd.R_below (rp HO573.out) hb)
         have n2_ := Aside0.mk (Kd.R_below (rp HO576.out) hb)
         have n3_ := Aside0.mk (Kd.R_lower (Kd.R_new' ho0 (Kd.R_lt (rp HO_3.out))) (below_size bl))
         have n4_ := Aside0.mk (blk_below (g := gb559) (o := .cells #[.slice A0_0 l0_0.length c0_0, .slice A0_1 l0_1.length c0_1, .int .i64 a0_2] 25 (0, 0)) bk hb)
         have n5_ := Aside0.mk (blk_below (g := gb579) (o := .cells #[.slice Ao38 t571.length co38, .slice Ao41 t574.length co41, .int .i64 t577] 25 (0, 0)) bk hb)
         have n6_ := Aside0.mk (below_step bl hb)
         clear HO_3
         clear HO573
         clear HO576
         clear BK559
         clear BK579
         clear HB
         have HO_3 := n0_
         have HO573 := n1_
         have HO576 := n2_
         have HO582 := n3_
         have BK559 := n4_
         have BK579 := n5_
         have HB := n6_
         clear n0_ n1_ n2_ n3_ n4_ n5_ n6_
         (try clear hb)
         (try clear hb2)
         (try clear hk)
         (try clear hi)
         (try clear ho0)
         refine hK.out _ _ ⟨(blk_cell BK559.out 0).trans rfl, (blk_cell BK559.out 1).trans rfl, (blk_cell BK559.out 2).trans rfl, (blk_cell BK579.out 0).trans rfl, (blk_cell BK579.out 1).trans rfl, (blk_cell BK579.out 2).trans rfl, own_string (P := Try.prog) Try.underlying29 Try.underlying5 Try.underlying9 (Kd.own_of_R (by repeat (first | exact HO_3.out | (with_reducible refine Kd.R_alloc ?_ _) | (with_reducible refine Kd.R_drewN ?_ _) | (with_reducible refine Kd.R_drew ?_))))⟩ (fun hHeld => ?_)
         clear hK K
         refine norm_ (a' := ?_) ?_ ?_
         rotate_left
         ·
          show Act.put _ (some 45) _ = _
          simp only [Act.put, List.setIfInBounds_toArray, List.set_cons_zero, List.set_cons_succ, i64_w, i32_w]
          rfl
         refine one_ (i := 4) (N := some 46) #[true, true, true, true, true, false, false, false, false, false, false, false, false, false, false, false, false, false, false, false] rfl rfl (one_of HT_.out (by kernel_rfl)) (by decide) (fun K hK => ?_)
         have hcv45 := own_string (P := Try.prog) Try.underlying29 Try.underlying5 Try.underlying9 (Kd.own_of_R HO582.out)
         refine value_ (w1 := ?_) (v := ?_) (by rfl) rfl ?_ ?_
         rotate_left 2
         ·
          go_simp
          constructor
          ·
           rfl
          ·
           rfl
         clear hcv45
         refine hK.out _ _ ⟨(blk_cell BK559.out 0).trans rfl, (blk_cell BK559.out 1).trans rfl, (blk_cell BK559.out 2).trans rfl, (blk_cell BK579.out 0).trans rfl, (blk_cell BK579.out 1).trans rfl, (blk_cell BK579.out 2).trans rfl, own_string (P := Try.prog) Try.underlying29 Try.underlying5 Try.underlying9 (Kd.own_of_R (by repeat (first | exact HO_3.out | (with_reducible refine Kd.R_alloc ?_ _) | (with_reducible refine Kd.R_drewN ?_ _) | (with_reducible refine Kd.R_drew ?_))))⟩ (fun hHeld => ?_)
         clear hK K
         refine norm_ (a' := ?_) ?_ ?_
         rotate_left
         ·
          show Act.put _ (some 46) _ = _
          simp only [Act.put, List.setIfInBounds_toArray, List.set_cons_zero, List.set_cons_succ, i64_w, i32_w]
          rfl
         refine pure_ (i := 5) (N := some 47) (v := ?_) (a' := ?_) #[true, true, true, true, true, true, false, false, false, false, false, false, false, false, false, false, false, false, false, false] rfl rfl (any_of HT_.out (by kernel_rfl)) (fun _ _ _ h => h) (Or.inl ⟨by rfl, ?_⟩) ?_ ?_
         rotate_left
         ·
          intro w'
          go_simp
          with_reducible rfl
         rotate_left
         ·
          simp only [Act.put, List.setIfInBounds_toArray, List.set_cons_zero, List.set_cons_succ, i64_w, i32_w]
          rfl
         refine pure_ (i := 6) (N := some 48) (v := ?_) (a' := ?_) #[true, true, true, true, true, true, true, false, false, false, false, false, false, false, false, false, false, false, false, false] rfl rfl (any_of HT_.out (by kernel_rfl)) (fun _ _ _ h => h) (Or.inl ⟨by rfl, ?_⟩) ?_ ?_
         rotate_left
         ·
          intro w'
          go_simp
          with_reducible rfl
         rotate_left
         ·
          simp only [Act.put, List.setIfInBounds_toArray, List.set_cons_zero, List.set_cons_succ, i64_w, i32_w]
          rfl
         refine pure_ (i := 7) (N := some 49) (v := ?_) (a' := ?_) #[true, true, true, true, true, true, true, true, false, false, false, false, false, false, false, false, false, false, false, false] rfl rfl (any_of HT_.out (by kernel_rfl)) (fun _ _ _ h => h) (Or.inl ⟨by rfl, ?_⟩) ?_ ?_
         rotate_left
         ·
          intro w'
          go_simp
          with_reducible rfl
         rotate_left
         ·
          simp only [Act.put, List.setIfInBounds_toArray, List.set_cons_zero, List.set_cons_succ, i64_w, i32_w]
          rfl
         refine one_ (i := 8) (N := some 50) #[true, true, true, true, true, true, true, true, true, false, false, false, false, false, false, false, false, false, false, false] rfl rfl (one_of HT_.out (by kernel_rfl)) (by decide) (fun K hK => ?_)
         refine goes_ Try.func12 (by kernel_rfl) rfl #[.int .i64 t578] (by rfl) rfl rfl mpq ?_
         with_reducible refine (runnellaw17_code.calls t578 t583 _ A30.out).mono ?_
         rintro e w' ⟨rfl, ⟨nd, rfl⟩⟩
         refine ⟨_, rfl, ?_⟩
         refine hK.out _ _ ⟨(blk_cell BK559.out 0).trans rfl, (blk_cell BK559.out 1).trans rfl, (blk_cell BK559.out 2).trans rfl, (blk_cell BK579.out 0).trans rfl, (blk_cell BK579.out 1).trans rfl, (blk_cell BK579.out 2).trans rfl, own_string (P := Try.prog) Try.underlying29 Try.underlying5 Try.underlying9 (Kd.own_of_R (by repeat (first | exact HO_3.out | (with_reducible refine Kd.R_alloc ?_ _) | (with_reducible refine Kd.R_drewN ?_ _) | (with_reducible refine Kd.R_drew ?_))))⟩ (fun hHeld => ?_)
         clear hK K
         refine norm_ (a' := ?_) ?_ ?_
         rotate_left
         ·
          show Act.put _ (some 50) _ = _
          simp only [Act.put, List.setIfInBounds_toArray, List.set_cons_zero, List.set_cons_succ, i64_w, i32_w]
          rfl
         refine pure_ (i := 9) (N := some 51) (v := ?_) (a' := ?_) #[true, true, true, true, true, true, true, true, true, true, false, false, false, false, false, false, false, false, false, false] rfl rfl (any_of HT_.out (by kernel_rfl)) (fun _ _ _ h => h) (Or.inl ⟨by rfl, ?_⟩) ?_ ?_
         rotate_left
         ·
          intro w'
          go_simp
          with_reducible rfl
         rotate_left
         ·
          simp only [Act.put, List.setIfInBounds_toArray, List.set_cons_zero, List.set_cons_succ, i64_w, i32_w]
          rfl
         refine pure_ (i := 10) (N := some 52) (v := ?_) (a' := ?_) #[true, true, true, true, true, true, true, true, true, true, true, false, false, false, false, false, false, false, false, false] rfl rfl (any_of HT_.out (by kernel_rfl)) (fun _ _ _ h => h) (Or.inl ⟨by rfl, ?_⟩) ?_ ?_
         rotate_left
         ·
          intro w'
          go_simp
          with_reducible rfl
         rotate_left
         ·
          simp only [Act.put, List.setIfInBounds_toArray, List.set_cons_zero, List.set_cons_succ, i64_w, i32_w]
          rfl
         refine pure_ (i := 11) (N := some 53) (v := ?_) (a' := ?_) #[true, true, true, true, true, true, true, true, true, true, true, true, false, false, false, false, false, false, false, false] rfl rfl (any_of HT_.out (by kernel_rfl)) (fun _ _ _ h => h) (Or.inl ⟨by rfl, ?_⟩) ?_ ?_
         rotate_left
         ·
          intro w'
          go_simp
          with_reducible rfl
         rotate_left
         ·
          simp only [Act.put, List.setIfInBounds_toArray, List.set_cons_zero, List.set_cons_succ, i64_w, i32_w]
          rfl
         refine take_ (i := 12) (N := some 54) (v := ?_) (a' := ?_) #[true, true, true, true, true, true, true, true, true, true, true, true, true, false, false, false, false, false, false, false] rfl rfl (take_ofW HT_.out HW_.out (by kernel_rfl)) (fun _ _ _ h => h) (Or.inl ⟨by rfl, ?_⟩) hHeld ?_ ?_
         rotate_left
         ·
          rintro w' ⟨s0, s1, s2, s3, s4, s5, s6⟩
          go_simp
          with_reducible rfl
         rotate_left
         ·
          simp only [Act.put, List.setIfInBounds_toArray, List.set_cons_zero, List.set_cons_succ, i64_w, i32_w]
          rfl
         refine take_ (i := 13) (N := some 55) (v := ?_) (a' := ?_) #[true, true, true, true, true, true, true, true, true, true, true, true, true, true, false, false, false, false, false, false] rfl rfl (take_ofW HT_.out HW_.out (by kernel_rfl)) (fun _ _ _ h => h) (Or.inl ⟨by rfl, ?_⟩) hHeld ?_ ?_
         rotate_left
         ·
          rintro w' ⟨s0, s1, s2, s3, s4, s5, s6⟩
          go_simp
          with_reducible rfl
         rotate_left
         ·
          simp only [Act.put, List.setIfInBounds_toArray, List.set_cons_zero, List.set_cons_succ, i64_w, i32_w]
          rfl
         refine one_ (i := 14) (N := some 56) #[true, true, true, true, true, true, true, true, true, true, true, true, true, true, true, false, false, false, false, false] rfl rfl (one_of HT_.out (by kernel_rfl)) (by decide) (fun K hK => ?_)
         refine goes_ Try.func9 (by kernel_rfl) rfl #[.agg #[.slice A0_0 l0_0.length c0_0, .slice A0_1 l0_1.length c0_1, .int .i64 a0_2], .agg #[.slice Ao38 t571.length co38, .slice Ao41 t574.length co41, .int .i64 t577]] (by rfl) rfl rfl mpq ?_
         with_reducible refine (runnelref17_Same.calls kj10 _ _ l0_0 _ _ l0_1 a0_2 _ _ t571 _ _ t574 t577 true _ ?side1 ?side2 ?side3 ?side4 ?side5 ?side6 ?side7 ?side8 A32.out).mono ?_
         (case side1 => repeat (first | exact (Kd.C_below HR0_0.out bl) | (with_reducible refine Kd.C_alloc ?_ _) | (with_reducible refine Kd.C_drewN ?_ _) | (with_reducible refine Kd.C_drew ?_)))
         (case side2 => exact HC0_0.out)
         (case side3 => repeat (first | exact (Kd.C_below HR0_1.out bl) | (with_reducible refine Kd.C_alloc ?_ _) | (with_reducible refine Kd.C_drewN ?_ _) | (with_reducible refine Kd.C_drew ?_)))
         (case side4 => exact HC0_1.out)
         (case side5 => repeat (first | exact (Kd.R_reads' HO573.out).2.2 | (with_reducible refine Kd.C_alloc ?_ _) | (with_reducible refine Kd.C_drewN ?_ _) | (with_reducible refine Kd.C_drew ?_)))
         (case side6 => exact (Kd.R_reads' HO573.out).2.1)
         (case side7 => repeat (first | exact (Kd.R_reads' HO576.out).2.2 | (with_reducible refine Kd.C_alloc ?_ _) | (with_reducible refine Kd.C_drewN ?_ _) | (with_reducible refine Kd.C_drew ?_)))
         (case side8 => exact (Kd.R_reads' HO576.out).2.1)
         rintro e w47 ⟨rfl, hb⟩
         refine ⟨_, rfl, ?_⟩
         have n0_ := Aside0.mk (Kd.R_below (rp HO_3.out) hb)
         have n1_ := Aside0.mk (Kd.R_below (rp HO573.out) hb)
         have n2_ := Aside0.mk (Kd.R_below (rp HO576.out) hb)
         have n3_ := Aside0.mk (Kd.R_below (rp HO582.out) hb)
         have n4_ := Aside0.mk (blk_below (g := gb559) (o := .cells #[.slice A0_0 l0_0.length c0_0, .slice A0_1 l0_1.length c0_1, .int .i64 a0_2] 25 (0, 0)) bk hb)
         have n5_ := Aside0.mk (blk_below (g := gb579) (o := .cells #[.slice Ao38 t571.length co38, .slice Ao41 t574.length co41, .int .i64 t577] 25 (0, 0)) bk hb)
         have n6_ := Aside0.mk (below_step bl hb)
         clear HO_3
         clear HO573
         clear HO576
         clear HO582
         clear BK559
         clear BK579
         clear HB
         have HO_3 := n0_
         have HO573 := n1_
         have HO576 := n2_
         have HO582 := n3_
         have BK559 := n4_
         have BK579 := n5_
         have HB := n6_
         clear n0_ n1_ n2_ n3_ n4_ n5_ n6_
         (try clear hb)
         (try clear hb2)
         (try clear hk)
         (try clear hi)
         refine hK.out _ _ ⟨(blk_cell BK559.out 0).trans rfl, (blk_cell BK559.out 1).trans rfl, (blk_cell BK559.out 2).trans rfl, (blk_cell BK579.out 0).trans rfl, (blk_cell BK579.out 1).trans rfl, (blk_cell BK579.out 2).trans rfl, own_string (P := Try.prog) Try.underlying29 Try.underlying5 Try.underlying9 (Kd.own_of_R (by repeat (first | exact HO_3.out | (with_reducible refine Kd.R_alloc ?_ _) | (with_reducible refine Kd.R_drewN ?_ _) | (with_reducible refine Kd.R_drew ?_))))⟩ (fun hHeld => ?_)
         clear hK K
         refine norm_ (a' := ?_) ?_ ?_
         rotate_left
         ·
          show Act.put _ (some 56) _ = _
          simp only [Act.put, List.setIfInBounds_toArray, List.set_cons_zero, List.set_cons_succ, i64_w, i32_w]
          rfl
         refine pure_ (i := 15) (N := some 57) (v := ?_) (a' := ?_) #[true, true, true, true, true, true, true, true, true, true, true, true, true, true, true, true, false, false, false, false] rfl rfl (any_of HT_.out (by kernel_rfl)) (fun _ _ _ h => h) (Or.inl ⟨by rfl, ?_⟩) ?_ ?_
         rotate_left
         ·
          intro w'
          go_simp
          with_reducible rfl
         rotate_left
         ·
          simp only [Act.put, List.setIfInBounds_toArray, List.set_cons_zero, List.set_cons_succ, i64_w, i32_w]
          rfl
         refine pure_ (i := 16) (N := some 58) (v := ?_) (a' := ?_) #[true, true, true, true, true, true, true, true, true, true, true, true, true, true, true, true, true, false, false, false] rfl rfl (any_of HT_.out (by kernel_rfl)) (fun _ _ _ h => h) (Or.inl ⟨by rfl, ?_⟩) ?_ ?_
         rotate_left
         ·
          intro w'
          go_simp
          with_reducible rfl
         rotate_left
         ·
          simp only [Act.put, List.setIfInBounds_toArray, List.set_cons_zero, List.set_cons_succ, i64_w, i32_w]
          rfl
         refine one_ (i := 17) (N := some 59) #[true, true, true, true, true, true, true, true, true, true, true, true, true, true, true, true, true, true, false, false] rfl rfl (one_of HT_.out (by kernel_rfl)) (by decide) (fun K hK => ?_)
         refine goes_ Try.func7 (by kernel_rfl) rfl #[] (by rfl) rfl rfl mpq ?_
         with_reducible refine (runnellaw17_live.calls kj10  t585 _ A34.out).mono ?_
         rintro e w48 ⟨rfl, hb⟩
         refine ⟨_, rfl, ?_⟩
         have n0_ := Aside0.mk (Kd.R_below (rp HO_3.out) hb)
         have n1_ := Aside0.mk (Kd.R_below (rp HO573.out) hb)
         have n2_ := Aside0.mk (Kd.R_below (rp HO576.out) hb)
         have n3_ := Aside0.mk (Kd.R_below (rp HO582.out) hb)
         have n4_ := Aside0.mk (blk_below (g := gb559) (o := .cells #[.slice A0_0 l0_0.length c0_0, .slice A0_1 l0_1.length c0_1, .int .i64 a0_2] 25 (0, 0)) bk hb)
         have n5_ := Aside0.mk (blk_below (g := gb579) (o := .cells #[.slice Ao38 t571.length co38, .slice Ao41 t574.length co41, .int .i64 t577] 25 (0, 0)) bk hb)
         have n6_ := Aside0.mk (below_step bl hb)
         clear HO_3
         clear HO573
         clear HO576
         clear HO582
         clear BK559
         clear BK579
         clear HB
         have HO_3 := n0_
         have HO573 := n1_
         have HO576 := n2_
         have HO582 := n3_
         have BK559 := n4_
         have BK579 := n5_
         have HB := n6_
         clear n0_ n1_ n2_ n3_ n4_ n5_ n6_
         (try clear hb)
         (try clear hb2)
         (try clear hk)
         (try clear hi)
         refine hK.out _ _ ⟨(blk_cell BK559.out 0).trans rfl, (blk_cell BK559.out 1).trans rfl, (blk_cell BK559.out 2).trans rfl, (blk_cell BK579.out 0).trans rfl, (blk_cell BK579.out 1).trans rfl, (blk_cell BK579.out 2).trans rfl, own_string (P := Try.prog) Try.underlying29 Try.underlying5 Try.underlying9 (Kd.own_of_R (by repeat (first | exact HO_3.out | (with_reducible refine Kd.R_alloc ?_ _) | (with_reducible refine Kd.R_drewN ?_ _) | (with_reducible refine Kd.R_drew ?_))))⟩ (fun hHeld => ?_)
         clear hK K
         refine norm_ (a' := ?_) ?_ ?_
         rotate_left
         ·
          show Act.put _ (some 59) _ = _
          simp only [Act.put, List.setIfInBounds_toArray, List.set_cons_zero, List.set_cons_succ, i64_w, i32_w]
          rfl
         refine pure_ (i := 18) (N := some 60) (v := ?_) (a' := ?_) #[true, true, true, true, true, true, true, true, true, true, true, true, true, true, true, true, true, true, true, false] rfl rfl (any_of HT_.out (by kernel_rfl)) (fun _ _ _ h => h) (Or.inl ⟨by rfl, ?_⟩) ?_ ?_
         rotate_left
         ·
          intro w'
          go_simp
          with_reducible rfl
         rotate_left
         ·
          simp only [Act.put, List.setIfInBounds_toArray, List.set_cons_zero, List.set_cons_succ, i64_w, i32_w]
          rfl
         refine pure_ (i := 19) (N := some 2) (v := ?_) (a' := ?_) #[true, true, true, true, true, true, true, true, true, true, true, true, true, true, true, true, true, true, true, true] rfl rfl (any_of HT_.out (by kernel_rfl)) (fun _ _ _ h => h) (Or.inl ⟨by rfl, ?_⟩) ?_ ?_
         rotate_left
         ·
          intro w'
          go_simp
          with_reducible rfl
         rotate_left
         ·
          simp only [Act.put, List.setIfInBounds_toArray, List.set_cons_zero, List.set_cons_succ, i64_w, i32_w]
          rfl
         refine done_ (done_of HT_.out (by kernel_rfl)) ?_
         try go_wp2
         go_ret
         exact ⟨erq, by repeat (first | (with_reducible first | exact HB.out | apply below_alloc | apply pw_below_drewN | apply below_drew1 | refine below_set ?_ GE559.out | refine below_set ?_ GE579.out) | exact HB.out)⟩
        ·
         replace c33 := Bool.eq_false_iff.mpr c33
         subst c33
         have H1 : (some false) = some r := by rw [if_neg (show ¬ (false = true) by decide)] at H; exact H
         clear H
         have H := H1
         clear H1
         exact absurd ((Option.some.inj H).trans hrt) Bool.false_ne_true
       ·
        rw [if_neg c31] at H
        have c31b0 : (t583 == 0) = false := beq_eq_false_iff_ne.mpr c31
        have c31b1 : (t583 != 0) = true := bne_iff_ne.mpr c31
        exact absurd ((Option.some.inj H).trans hrt) Bool.false_ne_true
      ·
       rw [if_neg c29] at H
       have c29b0 : ((strOfNums t562).toList == (strOfNums t580).toList) = false := beq_eq_false_iff_ne.mpr c29
       have c29b1 : ((strOfNums t562).toList != (strOfNums t580).toList) = true := bne_iff_ne.mpr c29
       exact absurd ((Option.some.inj H).trans hrt) Bool.false_ne_true
     ·
      rw [if_neg c26] at H
      have c26b0 : (t566 == 0) = false := beq_eq_false_iff_ne.mpr c26
      have c26b1 : (t566 != 0) = true := bne_iff_ne.mpr c26
      by_cases c86 : (t562.length : Int) = 0
      ·
       rw [if_pos c86] at H
       have c86b0 : ((t562.length : Int) == 0) = true := beq_iff_eq.mpr c86
       have c86b1 : ((t562.length : Int) != 0) = false := bne_eq_false_iff_eq.mpr c86
       clear c86
       replace H := Option.bind_eq_some_iff.mp H
       obtain ⟨t570, A870, H⟩ := H
       replace H : (some t570) = some r := H
       have A87 := Aside0.mk A870
       clear A870
       obtain rfl := Option.some.inj H
       obtain ⟨Ao88, co88, eo88⟩ := Kd.R_slice HO_3.out
       subst eo88
       go_wp2_with (first | (go_at_call 7; (with_reducible refine (runnellaw17_live.calls kj10  t570 _ A87.out).mono ?_); rintro e w89 ⟨rfl, hb⟩; have n0_ := Aside0.mk (Kd.R_below (rp HO_3.out) hb); have n1_ := Aside0.mk (blk_below (g := gb559) (o := .cells #[.slice A0_0 l0_0.length c0_0, .slice A0_1 l0_1.length c0_1, .int .i64 a0_2] 25 (0, 0)) bk hb); have n2_ := Aside0.mk (below_step bl hb); clear HO_3; clear BK559; clear HB; have HO_3 := n0_; have BK559 := n1_; have HB := n2_; clear n0_ n1_ n2_; (try clear hb); (try clear hb2); (try clear hk); (try clear hi)))
       go_ret
       exact ⟨erq, by repeat (first | (with_reducible first | exact HB.out | apply below_alloc | apply pw_below_drewN | apply below_drew1 | refine below_set ?_ GE559.out) | exact HB.out)⟩
      ·
       rw [if_neg c86] at H
       have c86b0 : ((t562.length : Int) == 0) = false := beq_eq_false_iff_ne.mpr c86
       have c86b1 : ((t562.length : Int) != 0) = true := bne_iff_ne.mpr c86
       have c86b2 : ¬ (t562 = []) := fun h_ => c86 (by rw [h_]; rfl)
       exact absurd ((Option.some.inj H).trans hrt) Bool.false_ne_true
end Go.Proofs.Ytbdpnecnnokkkaa.PSheetEncodes
