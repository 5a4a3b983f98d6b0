/- One piece of the machine's side of the law, written by a program over the translation; Lean checks it. -/
import Derived.Test.YtbdpnecnnokkkaaOSheetEncodesx0
import Derived.Test.YtbdpnecnnokkkaaOSheetEncodesx13
import Derived.Test.YtbdpnecnnokkkaaOSheetEncodesx14
import Derived.Test.YtbdpnecnnokkkaaShort
namespace Go.Proofs.Ytbdpnecnnokkkaa.PSheetEncodes
open Go.RowKit Go.Proofs.YtbdpnecnnokkkaaW.PrintWords Go.Proofs.YtbdpnecnnokkkaaW.PrintLast Go.Proofs.YtbdpnecnnokkkaaW.PrintMore
attribute [local go_sem] max2_int min2_int max_two min_two max_three min_three max_four min_four   -- for this text's walks alone
set_option linter.unusedVariables false
set_option linter.unusedSimpArgs false

/-! ### runnelref17_Bytes: function 15 -/
def runnelref17_Bytes.l0 : Nat → List Int → Int → List (S44) → List Int → Int → Option (List Int)
 | 0, _, _, _, _, _ => none
 | k + 1, x3, x4, x531000, x531001, x531002 => if x4 < (x531000.length : Int) then (if 0 ≤ x4 then ((runnelref17_nodeBytes.f k ((rd_T44 x531000 x4).f0) ((rd_T44 x531000 x4).f1) ((rd_T44 x531000 x4).f2) ((rd_T44 x531000 x4).f3) ((rd_T44 x531000 x4).f4) ((rd_T44 x531000 x4).f5) ((rd_T44 x531000 x4).f6) ((rd_T44 x531000 x4).f7) ((rd_T44 x531000 x4).f8)).bind fun t553 => (if x3.length + t553.length < 140737488355328 then (runnelref17_Bytes.l0 k (x3 ++ t553) (wrap64 (x4 + 1)) x531000 x531001 x531002) else (none))) else (none)) else (some x3)
def runnelref17_Bytes.f (k : Nat) (l0_0 : List (S44)) (l0_1 : List Int) (a0_2 : Int) : Option (List Int) := (some (([80] : List Int) : List Int)).bind fun y531 => ((runnelref17_one.f k a0_2).bind fun t534 => (if y531.length + t534.length < 140737488355328 then ((some (y531 ++ t534 : List Int)).bind fun y537 => ((runnelref17_list.f k l0_1).bind fun t540 => (if y537.length + t540.length < 140737488355328 then ((some (y537 ++ t540 : List Int)).bind fun y543 => ((runnelref01_Bytes.f k (IntKind.u64.wrap ((l0_0.length : Int)))).bind fun t546 => (if y543.length + t546.length < 140737488355328 then (runnelref17_Bytes.l0 k (y543 ++ t546) 0 l0_0 l0_1 a0_2) else (none)))) else (none)))) else (none)))
set_option maxHeartbeats 8000000 in
set_option maxRecDepth 100000 in
theorem runnelref17_Bytes.calls (k : Nat) (A0_0 : Option Addr) (c0_0 : Nat) (l0_0 : List (S44)) (A0_1 : Option Addr) (c0_1 : Nat) (l0_1 : List Int) (a0_2 : Int) (r : List Int) (w : World) (hr0_0 : Kd.C k44 w A0_0 l0_0.length l0_0) (hc0_0 : l0_0.length ≤ c0_0) (hr0_1 : Kd.C (Kd.int .i64) w A0_1 l0_1.length l0_1) (hc0_1 : l0_1.length ≤ c0_1) (h : runnelref17_Bytes.f k l0_0 l0_1 a0_2 = some r) :
  Calls Try.prog 15 #[.agg #[.slice A0_0 l0_0.length c0_0, .slice A0_1 l0_1.length c0_1, .int .i64 a0_2]] w fun e w' => ∃ v0_ : Value, e = .returned (v0_) ∧ Kd.R (Kd.int .u8) 5 w' w.heap.size (fun _ => True) v0_ r ∧ Below w.heap.size w w' := by
 have hu25 := Try.underlying25
 have hu44 := Try.underlying44
 have HR0_0 := Aside0.mk hr0_0
 have HC0_0 := Aside0.mk hc0_0
 clear hr0_0 hc0_0
 have HR0_1 := Aside0.mk hr0_1
 have HC0_1 := Aside0.mk hc0_1
 clear hr0_1 hc0_1
 have HB := Aside0.mk (Below.refl w.heap.size w)
 have H : ((some (([80] : List Int) : List Int)).bind fun y531 => ((runnelref17_one.f k a0_2).bind fun t534 => (if y531.length + t534.length < 140737488355328 then ((some (y531 ++ t534 : List Int)).bind fun y537 => ((runnelref17_list.f k l0_1).bind fun t540 => (if y537.length + t540.length < 140737488355328 then ((some (y537 ++ t540 : List Int)).bind fun y543 => ((runnelref01_Bytes.f k (IntKind.u64.wrap ((l0_0.length : Int)))).bind fun t546 => (if y543.length + t546.length < 140737488355328 then (runnelref17_Bytes.l0 k (y543 ++ t546) 0 l0_0 l0_1 a0_2) else (none)))) else (none)))) else (none)))) = some r := h
 clear h
 obtain ⟨y531, hy531⟩ : ∃ y_ : List Int, y_ = (([80] : List Int)) := ⟨_, rfl⟩
 replace H : ((runnelref17_one.f k a0_2).bind fun t534 => (if y531.length + t534.length < 140737488355328 then ((some (y531 ++ t534 : List Int)).bind fun y537 => ((runnelref17_list.f k l0_1).bind fun t540 => (if y537.length + t540.length < 140737488355328 then ((some (y537 ++ t540 : List Int)).bind fun y543 => ((runnelref01_Bytes.f k (IntKind.u64.wrap ((l0_0.length : Int)))).bind fun t546 => (if y543.length + t546.length < 140737488355328 then (runnelref17_Bytes.l0 k (y543 ++ t546) 0 l0_0 l0_1 a0_2) else (none)))) else (none)))) else (none))) = some r := by first | (rw [hy531]; with_reducible exact H) | (have H2_ := (Option.bind_some _ _).symm.trans H; rw [hy531]; with_reducible exact H2_) | (have H2_ := (Option.bind_some _ _).symm.trans H; with_reducible exact H2_) | with_reducible exact H | (rw [hy531]; exact H) | exact H
 have Ny531 := Aside0.mk hy531
 clear hy531
 replace H := Option.bind_eq_some_iff.mp H
 obtain ⟨t534, A20, H⟩ := H
 replace H : (if y531.length + t534.length < 140737488355328 then ((some (y531 ++ t534 : List Int)).bind fun y537 => ((runnelref17_list.f k l0_1).bind fun t540 => (if y537.length + t540.length < 140737488355328 then ((some (y537 ++ t540 : List Int)).bind fun y543 => ((runnelref01_Bytes.f k (IntKind.u64.wrap ((l0_0.length : Int)))).bind fun t546 => (if y543.length + t546.length < 140737488355328 then (runnelref17_Bytes.l0 k (y543 ++ t546) 0 l0_0 l0_1 a0_2) else (none)))) else (none)))) else (none)) = some r := H
 have A2 := Aside0.mk A20
 clear A20
 by_cases c3 : y531.length + t534.length < 140737488355328
 ·
  rw [if_pos c3] at H
  have LMc3 := Aside0.mk c3
  clear c3
  obtain ⟨y537, hy537⟩ : ∃ y_ : List Int, y_ = (y531 ++ t534) := ⟨_, rfl⟩
  replace H : ((runnelref17_list.f k l0_1).bind fun t540 => (if y537.length + t540.length < 140737488355328 then ((some (y537 ++ t540 : List Int)).bind fun y543 => ((runnelref01_Bytes.f k (IntKind.u64.wrap ((l0_0.length : Int)))).bind fun t546 => (if y543.length + t546.length < 140737488355328 then (runnelref17_Bytes.l0 k (y543 ++ t546) 0 l0_0 l0_1 a0_2) else (none)))) else (none))) = some r := by first | (rw [hy537]; with_reducible exact H) | (have H2_ := (Option.bind_some _ _).symm.trans H; rw [hy537]; with_reducible exact H2_) | (have H2_ := (Option.bind_some _ _).symm.trans H; with_reducible exact H2_) | with_reducible exact H | (rw [hy537]; exact H) | exact H
  have Ny537 := Aside0.mk hy537
  clear hy537
  replace H := Option.bind_eq_some_iff.mp H
  obtain ⟨t540, A40, H⟩ := H
  replace H : (if y537.length + t540.length < 140737488355328 then ((some (y537 ++ t540 : List Int)).bind fun y543 => ((runnelref01_Bytes.f k (IntKind.u64.wrap ((l0_0.length : Int)))).bind fun t546 => (if y543.length + t546.length < 140737488355328 then (runnelref17_Bytes.l0 k (y543 ++ t546) 0 l0_0 l0_1 a0_2) else (none)))) else (none)) = some r := H
  have A4 := Aside0.mk A40
  clear A40
  by_cases c5 : y537.length + t540.length < 140737488355328
  ·
   rw [if_pos c5] at H
   have LMc5 := Aside0.mk c5
   clear c5
   obtain ⟨y543, hy543⟩ : ∃ y_ : List Int, y_ = (y537 ++ t540) := ⟨_, rfl⟩
   replace H : ((runnelref01_Bytes.f k (IntKind.u64.wrap ((l0_0.length : Int)))).bind fun t546 => (if y543.length + t546.length < 140737488355328 then (runnelref17_Bytes.l0 k (y543 ++ t546) 0 l0_0 l0_1 a0_2) else (none))) = some r := by first | (rw [hy543]; with_reducible exact H) | (have H2_ := (Option.bind_some _ _).symm.trans H; rw [hy543]; with_reducible exact H2_) | (have H2_ := (Option.bind_some _ _).symm.trans H; with_reducible exact H2_) | with_reducible exact H | (rw [hy543]; exact H) | exact H
   have Ny543 := Aside0.mk hy543
   clear hy543
   replace H := Option.bind_eq_some_iff.mp H
   obtain ⟨t546, A60, H⟩ := H
   replace H : (if y543.length + t546.length < 140737488355328 then (runnelref17_Bytes.l0 k (y543 ++ t546) 0 l0_0 l0_1 a0_2) else (none)) = some r := H
   have A6 := Aside0.mk A60
   clear A60
   by_cases c7 : y543.length + t546.length < 140737488355328
   ·
    rw [if_pos c7] at H
    have LMc7 := Aside0.mk c7
    clear c7
    obtain ⟨y549, hy549⟩ : ∃ y_ : List Int, y_ = (y543 ++ t546) := ⟨_, rfl⟩
    replace H : (runnelref17_Bytes.l0 k y549 0 l0_0 l0_1 a0_2) = some r := by first | (rw [hy549]; with_reducible exact H) | (have H2_ := (Option.bind_some _ _).symm.trans H; rw [hy549]; with_reducible exact H2_) | (have H2_ := (Option.bind_some _ _).symm.trans H; with_reducible exact H2_) | with_reducible exact H | (rw [hy549]; exact H) | exact H
    have Ny549 := Aside0.mk hy549
    clear hy549
    have H' := Aside0.mk H
    clear H
    go_enter Try.func15, Try.ntmps15
    go_wp2_with (first | ((with_reducible refine gate_dst (N := 1) rfl ?_); refine box_event ?hg (N := 1) ?hd (cs := #[.slice A0_0 l0_0.length c0_0, .slice A0_1 l0_1.length c0_1, .int .i64 a0_2]) (t := 25) ?hr ?_; (case hd => rfl); (case hg => rfl); (case hr => first | (go_simp; done) | (go_simp; rfl)); intro gb530 hg w8 hbox hb; have n0_ := Aside0.mk (below_step bl hb); have n1_ := Aside0.mk (hbox); have n2_ := Aside0.mk ((by rw [hg]; exact (below_size bl) : w.heap.size ≤ gb530)); have n3_ := Aside0.mk ((by rw [hg]; exact (below_size bl) : w.heap.size ≤ gb530)); clear HB; have HB := n0_; have BK530 := n1_; have GW530 := n2_; have GE530 := n3_; clear n0_ n1_ n2_ n3_; clear hb hbox hg) | ((with_reducible refine gate_dst (N := 5) rfl ?_); refine Kd.R_lit (Kd.int .u8) _ 5 ?hg (N := 5) ?hd (xs := ([80] : List Int)) (inner := [.int .u8 80]) (ok := fun _ => True) (okp := fun _ => True) ?hr ?hp (fun _ hk => hk) trivial (Below.refl _ _) (Nat.le_refl _) (by simp) ?_; (case hd => rfl); (case hg => rfl); (case hr => first | (go_simp; done) | (go_simp; rfl)); (case hp => exact (Reps.one (show Kd.M (Kd.int .u8) _ _ _ 80 [.int .u8 80] from rfl) (Reps.none _ _))); intro v532 w9 ho10 hb hg_ hnew_; clear hg_ hnew_; (first | rw [← Ny531.out] at ho10 | (simp only [Int.reduceToNat] at ho10; rw [← Ny531.out] at ho10)); have n0_ := Aside0.mk (Kd.R_lower ho10 (below_size bl)); have n1_ := Aside0.mk (blk_below (g := gb530) (o := .cells #[.slice A0_0 l0_0.length c0_0, .slice A0_1 l0_1.length c0_1, .int .i64 a0_2] 25 (0, 0)) bk hb); have n2_ := Aside0.mk (below_step bl hb); clear BK530; clear HB; have HO533 := n0_; have BK530 := n1_; have HB := n2_; clear n0_ n1_ n2_; clear hb ho10; obtain ⟨hcz11_0, hcz11_1, hcz11_2⟩ := cells3 BK530.out; have hfz11_0 := blk_frozen BK530.out 0; have hfz11_1 := blk_frozen BK530.out 1; have hfz11_2 := blk_frozen BK530.out 2) | ((with_reducible refine gate_callee (f := 39) rfl ?_); refine goesL_ (some 8) rfl rfl Try.func39 (by kernel_rfl) rfl #[.int .i64 a0_2] rfl mpq ?_; (with_reducible refine (runnelref17_one.calls k a0_2 t534 _ A2.out).mono ?_); rintro e w12 ⟨v535, rfl, ho0, hb⟩; refine ⟨_, rfl, ?_⟩; have n0_ := Aside0.mk (Kd.R_elder' (rp HO533.out) (Kd.R_base ho0) hb); have n1_ := Aside0.mk (Kd.R_lower (Kd.R_new' ho0 (Kd.R_lt (rp HO533.out))) (below_size bl)); have n2_ := Aside0.mk (blk_below (g := gb530) (o := .cells #[.slice A0_0 l0_0.length c0_0, .slice A0_1 l0_1.length c0_1, .int .i64 a0_2] 25 (0, 0)) bk hb); have n3_ := Aside0.mk (below_step bl hb); clear HO533; clear BK530; clear HB; have HO533 := n0_; have HO536 := n1_; have BK530 := n2_; have HB := n3_; clear n0_ n1_ n2_ n3_; (try clear hb); (try clear hb2); (try clear hk); (try clear hi); (try clear ho0); obtain ⟨Ao14, co14, eo14⟩ := Kd.R_slice HO536.out; subst eo14) | ((with_reducible refine gate_builtin (b := .append) (xs := #[.tmp 5, .tmp 8]) rfl ?_); at_builtin; refine Kd.R_append_rows (Kd.int .u8) (w0 := w) w.heap.size rfl (.tmp 5) (.tmp 8) 29 5 (.int .u8 0) 1 rfl Try.underlying29 info5 rfl (by decide) (by omega) v532 y531 t534 _ _ _ (fun k_ => some k_ ≠ (.slice Ao14 t534.length co14 : Value).ownBlock) (fun _ => False) rfl rfl ?aO ?aR (fun _ _ h => h) (fun _ h => h.elim) ?aF ?aB ?aS ?aL ?_; (case aR => repeat (first | exact (Kd.R_reads' HO536.out).2.2 | (with_reducible refine Kd.C_alloc ?_ _) | (with_reducible refine Kd.C_drewN ?_ _) | (with_reducible refine Kd.C_drew ?_))); (case aB => exact bl); (case aF => exact (fun k_ hk => Kd.fresh' (Kd.R_lt (rp HO536.out)) k_ hk)); (case aO => exact (rp (Kd.R_mono HO533.out (fun _ hk => hk.2)))); (case aS => exact (below_size bl)); (case aL => have := LMc3.out; omega); intro v538 w13 ho hb hg hat; rw [← Ny537.out] at ho; have n0_ := Aside0.mk (blk_grown (g := gb530) (o := .cells #[.slice A0_0 l0_0.length c0_0, .slice A0_1 l0_1.length c0_1, .int .i64 a0_2] 25 (0, 0)) bk hg (Kd.R_ne HO533.out BK530.out (by decide))); have n1_ := Aside0.mk (Kd.R_after (ok := (fun _ => True)) (rp HO536.out) hg hat); have n2_ := Aside0.mk (hb); have n3_ := Aside0.mk (ho); clear BK530; clear HO536; clear HB; clear HO533; have BK530 := n0_; have HO536 := n1_; have HB := n2_; have HO539 := n3_; clear n0_ n1_ n2_ n3_; clear ho hb hg hat; obtain ⟨hcz15_0, hcz15_1, hcz15_2⟩ := cells3 BK530.out; have hfz15_0 := blk_frozen BK530.out 0; have hfz15_1 := blk_frozen BK530.out 1; have hfz15_2 := blk_frozen BK530.out 2) | ((with_reducible refine gate_callee (f := 40) rfl ?_); refine goesL_ (some 13) rfl rfl Try.func40 (by kernel_rfl) rfl #[.slice A0_1 l0_1.length c0_1] rfl mpq ?_; (with_reducible refine (runnelref17_list.calls k _ _ l0_1 t540 _ ?side1 ?side2 A4.out).mono ?_); (case side1 => repeat (first | exact (Kd.C_below HR0_1.out HB.out) | (with_reducible refine Kd.C_alloc ?_ _) | (with_reducible refine Kd.C_drewN ?_ _) | (with_reducible refine Kd.C_drew ?_))); (case side2 => exact HC0_1.out); rintro e w16 ⟨v541, rfl, ho0, hb⟩; refine ⟨_, rfl, ?_⟩; have n0_ := Aside0.mk (Kd.R_elder' (rp HO536.out) (Kd.R_base ho0) hb); have n1_ := Aside0.mk (Kd.R_elder' (rp HO539.out) (Kd.R_base ho0) hb); have n2_ := Aside0.mk (Kd.R_lower (Kd.R_new' (Kd.R_new' ho0 (Kd.R_lt (rp HO536.out))) (Kd.R_lt (rp HO539.out))) (below_size bl)); have n3_ := Aside0.mk (blk_below (g := gb530) (o := .cells #[.slice A0_0 l0_0.length c0_0, .slice A0_1 l0_1.length c0_1, .int .i64 a0_2] 25 (0, 0)) bk hb); have n4_ := Aside0.mk (below_step bl hb); clear HO536; clear HO539; clear BK530; clear HB; have HO536 := n0_; have HO539 := n1_; have HO542 := n2_; have BK530 := n3_; have HB := n4_; clear n0_ n1_ n2_ n3_ n4_; (try clear hb); (try clear hb2); (try clear hk); (try clear hi); (try clear ho0); obtain ⟨Ao18, co18, eo18⟩ := Kd.R_slice HO542.out; subst eo18) | ((with_reducible refine gate_builtin (b := .append) (xs := #[.tmp 10, .tmp 13]) rfl ?_); at_builtin; refine Kd.R_append_rows (Kd.int .u8) (w0 := w) w.heap.size rfl (.tmp 10) (.tmp 13) 29 5 (.int .u8 0) 1 rfl Try.underlying29 info5 rfl (by decide) (by omega) v538 y537 t540 _ _ _ (fun k_ => some k_ ≠ (.slice Ao14 t534.length co14 : Value).ownBlock ∧ some k_ ≠ (.slice Ao18 t540.length co18 : Value).ownBlock) (fun _ => False) rfl rfl ?aO ?aR (fun _ _ h => h) (fun _ h => h.elim) ?aF ?aB ?aS ?aL ?_; (case aR => repeat (first | exact (Kd.R_reads' HO542.out).2.2 | (with_reducible refine Kd.C_alloc ?_ _) | (with_reducible refine Kd.C_drewN ?_ _) | (with_reducible refine Kd.C_drew ?_))); (case aB => exact bl); (case aF => exact (fun k_ hk => ⟨Kd.fresh' (Kd.R_lt (rp HO536.out)) k_ hk, Kd.fresh' (Kd.R_lt (rp HO542.out)) k_ hk⟩)); (case aO => exact (rp HO539.out)); (case aS => exact (below_size bl)); (case aL => have := LMc5.out; omega); intro v544 w17 ho hb hg hat; rw [← Ny543.out] at ho; have n0_ := Aside0.mk (blk_grown (g := gb530) (o := .cells #[.slice A0_0 l0_0.length c0_0, .slice A0_1 l0_1.length c0_1, .int .i64 a0_2] 25 (0, 0)) bk hg (Kd.R_ne HO539.out BK530.out (by decide))); have n1_ := Aside0.mk (Kd.R_after (ok := (fun k_ => some k_ ≠ (.slice Ao18 t540.length co18 : Value).ownBlock)) (by (with_reducible repeat (first | apply Kd.R_alloc | apply Kd.R_drewN | apply Kd.R_drew)); exact Kd.R_mono HO536.out (fun _ hk => ⟨hk.2, hk.1.2⟩)) hg hat); have n2_ := Aside0.mk (Kd.R_after (ok := (fun k_ => some k_ ≠ (.slice Ao14 t534.length co14 : Value).ownBlock)) (by (with_reducible repeat (first | apply Kd.R_alloc | apply Kd.R_drewN | apply Kd.R_drew)); exact Kd.R_mono HO542.out (fun _ hk => ⟨hk.1.2, hk.2⟩)) hg hat); have n3_ := Aside0.mk (hb); have n4_ := Aside0.mk (ho); clear BK530; clear HO536; clear HO542; clear HB; clear HO539; have BK530 := n0_; have HO536 := n1_; have HO542 := n2_; have HB := n3_; have HO545 := n4_; clear n0_ n1_ n2_ n3_ n4_; clear ho hb hg hat; obtain ⟨hcz19_0, hcz19_1, hcz19_2⟩ := cells3 BK530.out; have hfz19_0 := blk_frozen BK530.out 0; have hfz19_1 := blk_frozen BK530.out 1; have hfz19_2 := blk_frozen BK530.out 2) | ((with_reducible refine gate_callee (f := 41) rfl ?_); refine goesL_ (some 20) rfl rfl Try.func41 (by kernel_rfl) rfl #[.int .u64 (IntKind.u64.wrap ((l0_0.length : Int)))] rfl mpq ?_; (with_reducible refine (runnelref01_Bytes.calls k (IntKind.u64.wrap ((l0_0.length : Int))) t546 _ A6.out).mono ?_); rintro e w20 ⟨v547, rfl, ho0, hb⟩; refine ⟨_, rfl, ?_⟩; have n0_ := Aside0.mk (Kd.R_elder' (rp HO536.out) (Kd.R_base ho0) hb); have n1_ := Aside0.mk (Kd.R_elder' (rp HO542.out) (Kd.R_base ho0) hb); have n2_ := Aside0.mk (Kd.R_elder' (rp HO545.out) (Kd.R_base ho0) hb); have n3_ := Aside0.mk (Kd.R_lower (Kd.R_new' (Kd.R_new' (Kd.R_new' ho0 (Kd.R_lt (rp HO536.out))) (Kd.R_lt (rp HO542.out))) (Kd.R_lt (rp HO545.out))) (below_size bl)); have n4_ := Aside0.mk (blk_below (g := gb530) (o := .cells #[.slice A0_0 l0_0.length c0_0, .slice A0_1 l0_1.length c0_1, .int .i64 a0_2] 25 (0, 0)) bk hb); have n5_ := Aside0.mk (below_step bl hb); clear HO536; clear HO542; clear HO545; clear BK530; clear HB; have HO536 := n0_; have HO542 := n1_; have HO545 := n2_; have HO548 := n3_; have BK530 := n4_; have HB := n5_; clear n0_ n1_ n2_ n3_ n4_ n5_; (try clear hb); (try clear hb2); (try clear hk); (try clear hi); (try clear ho0); obtain ⟨Ao22, co22, eo22⟩ := Kd.R_slice HO548.out; subst eo22) | ((with_reducible refine gate_builtin (b := .append) (xs := #[.tmp 15, .tmp 20]) rfl ?_); at_builtin; refine Kd.R_append_rows (Kd.int .u8) (w0 := w) w.heap.size rfl (.tmp 15) (.tmp 20) 29 5 (.int .u8 0) 1 rfl Try.underlying29 info5 rfl (by decide) (by omega) v544 y543 t546 _ _ _ (fun k_ => some k_ ≠ (.slice Ao14 t534.length co14 : Value).ownBlock ∧ some k_ ≠ (.slice Ao18 t540.length co18 : Value).ownBlock ∧ some k_ ≠ (.slice Ao22 t546.length co22 : Value).ownBlock) (fun _ => False) rfl rfl ?aO ?aR (fun _ _ h => h) (fun _ h => h.elim) ?aF ?aB ?aS ?aL ?_; (case aR => repeat (first | exact (Kd.R_reads' HO548.out).2.2 | (with_reducible refine Kd.C_alloc ?_ _) | (with_reducible refine Kd.C_drewN ?_ _) | (with_reducible refine Kd.C_drew ?_))); (case aB => exact bl); (case aF => exact (fun k_ hk => ⟨Kd.fresh' (Kd.R_lt (rp HO536.out)) k_ hk, Kd.fresh' (Kd.R_lt (rp HO542.out)) k_ hk, Kd.fresh' (Kd.R_lt (rp HO548.out)) k_ hk⟩)); (case aO => exact (by (with_reducible repeat (first | apply Kd.R_alloc | apply Kd.R_drewN | apply Kd.R_drew)); exact Kd.R_mono HO545.out (fun _ hk => ⟨hk.1.1, ⟨hk.1.2, hk.2⟩⟩))); (case aS => exact (below_size bl)); (case aL => have := LMc7.out; omega); intro v550 w21 ho hb hg hat; rw [← Ny549.out] at ho; have n0_ := Aside0.mk (blk_grown (g := gb530) (o := .cells #[.slice A0_0 l0_0.length c0_0, .slice A0_1 l0_1.length c0_1, .int .i64 a0_2] 25 (0, 0)) bk hg (Kd.R_ne HO545.out BK530.out (by decide))); have n1_ := Aside0.mk (Kd.R_after (ok := (fun k_ => some k_ ≠ (.slice Ao18 t540.length co18 : Value).ownBlock ∧ some k_ ≠ (.slice Ao22 t546.length co22 : Value).ownBlock)) (by (with_reducible repeat (first | apply Kd.R_alloc | apply Kd.R_drewN | apply Kd.R_drew)); exact Kd.R_mono HO536.out (fun _ hk => ⟨⟨hk.1.1, hk.2⟩, hk.1.2⟩)) hg hat); have n2_ := Aside0.mk (Kd.R_after (ok := (fun k_ => some k_ ≠ (.slice Ao14 t534.length co14 : Value).ownBlock ∧ some k_ ≠ (.slice Ao22 t546.length co22 : Value).ownBlock)) (by (with_reducible repeat (first | apply Kd.R_alloc | apply Kd.R_drewN | apply Kd.R_drew)); exact Kd.R_mono HO542.out (fun _ hk => ⟨⟨hk.1.1, hk.2⟩, hk.1.2⟩)) hg hat); have n3_ := Aside0.mk (Kd.R_after (ok := (fun k_ => some k_ ≠ (.slice Ao14 t534.length co14 : Value).ownBlock ∧ some k_ ≠ (.slice Ao18 t540.length co18 : Value).ownBlock)) (by (with_reducible repeat (first | apply Kd.R_alloc | apply Kd.R_drewN | apply Kd.R_drew)); exact Kd.R_mono HO548.out (fun _ hk => ⟨⟨hk.1.1.2, hk.1.2⟩, hk.2⟩)) hg hat); have n4_ := Aside0.mk (hb); have n5_ := Aside0.mk (ho); clear BK530; clear HO536; clear HO542; clear HO548; clear HB; clear HO545; have BK530 := n0_; have HO536 := n1_; have HO542 := n2_; have HO548 := n3_; have HB := n4_; have HO551 := n5_; clear n0_ n1_ n2_ n3_ n4_ n5_; clear ho hb hg hat))
    go_loopg [3, 4] k (fun kq v3 v4 w' => ∃ (x3_1 : List Int) (x4_1 : Int), v4 = .int .i64 x4_1 ∧ Aside0 (runnelref17_Bytes.l0 kq x3_1 x4_1 l0_0 l0_1 a0_2 = some r) ∧ Aside0 (kq ≤ k) ∧ Aside0 (Kd.R (Kd.int .u8) 5 w' w.heap.size (fun _ => True) v3 x3_1) ∧ Aside0 (w'.heap[gb530]? = some (.cells #[(.slice A0_0 l0_0.length c0_0), (.slice A0_1 l0_1.length c0_1), .int .i64 a0_2] 25 (0, 0))) ∧ Aside0 (Below w.heap.size w w'))
    case atStart => exact ⟨(y549), (0), (by first | rfl | (simp; done) | (simp [*]; done)), H', ⟨Nat.le_refl _⟩, ⟨by (with_reducible repeat (first | apply Kd.R_alloc | apply Kd.R_drewN | apply Kd.R_drew)); exact Kd.R_mono HO551.out (fun _ hk => trivial)⟩, ⟨by (with_reducible repeat (first | refine blk_drewN ?_ _ | refine blk_drew ?_ | refine blk_alloc ?_ _)); exact BK530.out⟩, ⟨bl⟩⟩
    case round =>
     clear H'
     (try clear c3); (try clear c5); (try clear c7); (try clear hcz11_0); (try clear hcz11_1); (try clear hcz11_2); (try clear hcz15_0); (try clear hcz15_1); (try clear hcz15_2); (try clear hcz19_0); (try clear hcz19_1); (try clear hcz19_2); (try clear hfz11_0); (try clear hfz11_1); (try clear hfz11_2); (try clear hfz15_0); (try clear hfz15_1); (try clear hfz15_2); (try clear hfz19_0); (try clear hfz19_1); (try clear hfz19_2)
     obtain ⟨x3_1, x4_1, rfl, HA, HK1, HO_3, BK530, HB⟩ := hrel
     cases gk with
     | zero => exact absurd HA.out (by simp [runnelref17_Bytes.l0])
     | succ k1 =>
      have H := HA.out
      clear HA
      simp only [runnelref17_Bytes.l0] at H
      by_cases c23 : x4_1 < (l0_0.length : Int)
      ·
       rw [if_pos c23] at H
       have c23b0 : decide (x4_1 < (l0_0.length : Int)) = true := decide_eq_true c23
       clear c23
       by_cases c24 : 0 ≤ x4_1
       ·
        rw [if_pos c24] at H
        have c24b0 : decide (0 ≤ x4_1) = true := decide_eq_true c24
        clear c24
        replace H := Option.bind_eq_some_iff.mp H
        obtain ⟨t553, A250, H⟩ := H
        replace H : (if x3_1.length + t553.length < 140737488355328 then (runnelref17_Bytes.l0 k1 (x3_1 ++ t553) (wrap64 (x4_1 + 1)) l0_0 l0_1 a0_2) else (none)) = some r := H
        have A25 := Aside0.mk A250
        clear A250
        by_cases c26 : x3_1.length + t553.length < 140737488355328
        ·
         rw [if_pos c26] at H
         have LMc26 := Aside0.mk c26
         clear c26
         obtain ⟨y556, hy556⟩ : ∃ y_ : List Int, y_ = (x3_1 ++ t553) := ⟨_, rfl⟩
         replace H : (runnelref17_Bytes.l0 k1 y556 (wrap64 (x4_1 + 1)) l0_0 l0_1 a0_2) = some r := by first | (rw [hy556]; with_reducible exact H) | (have H2_ := (Option.bind_some _ _).symm.trans H; rw [hy556]; with_reducible exact H2_) | (have H2_ := (Option.bind_some _ _).symm.trans H; with_reducible exact H2_) | with_reducible exact H | (rw [hy556]; exact H) | exact H
         have Ny556 := Aside0.mk hy556
         clear hy556
         have H' := Aside0.mk H
         clear H
         obtain ⟨hcz27_0, hcz27_1, hcz27_2⟩ := cells3 BK530.out
         obtain ⟨hfz27_0, hfz27_1, hfz27_2⟩ := frz3 BK530.out
         have p552 : 0 ≤ (x4_1 : Int) := of_decide_eq_true (by first | (with_reducible assumption) | assumption)
         have q552 : x4_1 < (l0_0.length : Int) := of_decide_eq_true (by first | (with_reducible assumption) | assumption)
         obtain ⟨ad552, A552_1, c552_1, A552_2, c552_2, A552_3, c552_3, A552_4, c552_4, e552, hx552_0, hx552_1, hx552_2, hx552_3, hx552_4, hx552_5, hx552_6, hx552_7, hx552_8, hl552_1, hi552_1, hl552_2, hi552_2, hl552_3, hi552_3, hl552_4, hi552_4⟩ := at_T44 HR0_0.out x4_1 p552 q552
         cases e552
         replace hx552_0 := bc HB.out hx552_0
         replace hx552_1 := bc HB.out hx552_1
         replace hx552_2 := bc HB.out hx552_2
         replace hx552_3 := bc HB.out hx552_3
         replace hx552_4 := bc HB.out hx552_4
         replace hx552_5 := bc HB.out hx552_5
         replace hx552_6 := bc HB.out hx552_6
         replace hx552_7 := bc HB.out hx552_7
         replace hx552_8 := bc HB.out hx552_8
         have HR552_1 := Aside0.mk hi552_1
         have HC552_1 := Aside0.mk hl552_1
         clear hi552_1 hl552_1
         have HR552_2 := Aside0.mk hi552_2
         have HC552_2 := Aside0.mk hl552_2
         clear hi552_2 hl552_2
         have HR552_3 := Aside0.mk hi552_3
         have HC552_3 := Aside0.mk hl552_3
         clear hi552_3 hl552_3
         have HR552_4 := Aside0.mk hi552_4
         have HC552_4 := Aside0.mk hl552_4
         clear hi552_4 hl552_4
         replace p552 := eq_true p552
         replace q552 := eq_true q552
         go_wp2_with (first | ((with_reducible refine gate_callee (f := 42) rfl ?_); refine goesL_ (some 35) rfl rfl Try.func42 (by kernel_rfl) rfl #[.agg #[.int .i64 ((rd_T44 l0_0 x4_1).f0), .slice A552_1 ((rd_T44 l0_0 x4_1).f1).length c552_1, .slice A552_2 ((rd_T44 l0_0 x4_1).f2).length c552_2, .slice A552_3 ((rd_T44 l0_0 x4_1).f3).length c552_3, .slice A552_4 ((rd_T44 l0_0 x4_1).f4).length c552_4, .int .i64 ((rd_T44 l0_0 x4_1).f5), .int .i64 ((rd_T44 l0_0 x4_1).f6), .int .i64 ((rd_T44 l0_0 x4_1).f7), .int .i64 ((rd_T44 l0_0 x4_1).f8)]] rfl mpq ?_; (with_reducible refine (runnelref17_nodeBytes.calls k1 ((rd_T44 l0_0 x4_1).f0) _ _ ((rd_T44 l0_0 x4_1).f1) _ _ ((rd_T44 l0_0 x4_1).f2) _ _ ((rd_T44 l0_0 x4_1).f3) _ _ ((rd_T44 l0_0 x4_1).f4) ((rd_T44 l0_0 x4_1).f5) ((rd_T44 l0_0 x4_1).f6) ((rd_T44 l0_0 x4_1).f7) ((rd_T44 l0_0 x4_1).f8) t553 _ ?side1 ?side2 ?side3 ?side4 ?side5 ?side6 ?side7 ?side8 A25.out).mono ?_); (case side1 => repeat (first | exact (Kd.C_below HR552_1.out HB.out) | (with_reducible refine Kd.C_alloc ?_ _) | (with_reducible refine Kd.C_drewN ?_ _) | (with_reducible refine Kd.C_drew ?_))); (case side2 => exact HC552_1.out); (case side3 => repeat (first | exact (Kd.C_below HR552_2.out HB.out) | (with_reducible refine Kd.C_alloc ?_ _) | (with_reducible refine Kd.C_drewN ?_ _) | (with_reducible refine Kd.C_drew ?_))); (case side4 => exact HC552_2.out); (case side5 => repeat (first | exact (Kd.C_below HR552_3.out HB.out) | (with_reducible refine Kd.C_alloc ?_ _) | (with_reducible refine Kd.C_drewN ?_ _) | (with_reducible refine Kd.C_drew ?_))); (case side6 => exact HC552_3.out); (case side7 => repeat (first | exact (Kd.C_below HR552_4.out HB.out) | (with_reducible refine Kd.C_alloc ?_ _) | (with_reducible refine Kd.C_drewN ?_ _) | (with_reducible refine Kd.C_drew ?_))); (case side8 => exact HC552_4.out); rintro e w28 ⟨v554, rfl, ho0, hb⟩; refine ⟨_, rfl, ?_⟩; have n0_ := Aside0.mk (Kd.R_elder' (rp HO_3.out) (Kd.R_base ho0) hb); have n1_ := Aside0.mk (Kd.R_lower (Kd.R_new' ho0 (Kd.R_lt (rp HO_3.out))) (below_size bl)); have n2_ := Aside0.mk (blk_below (g := gb530) (o := .cells #[.slice (some ad552) l0_0.length c0_0, .slice A0_1 l0_1.length c0_1, .int .i64 a0_2] 25 (0, 0)) bk hb); have n3_ := Aside0.mk (below_step bl hb); clear HO_3; clear BK530; clear HB; have HO_3 := n0_; have HO555 := n1_; have BK530 := n2_; have HB := n3_; clear n0_ n1_ n2_ n3_; (try clear hb); (try clear hb2); (try clear hk); (try clear hi); (try clear ho0); obtain ⟨Ao30, co30, eo30⟩ := Kd.R_slice HO555.out; subst eo30) | ((with_reducible refine gate_builtin (b := .append) (xs := #[.tmp 29, .tmp 35]) rfl ?_); at_builtin; refine Kd.R_append_rows (Kd.int .u8) (w0 := w) w.heap.size rfl (.tmp 29) (.tmp 35) 29 5 (.int .u8 0) 1 rfl Try.underlying29 info5 rfl (by decide) (by omega) u3 x3_1 t553 _ _ _ (fun k_ => some k_ ≠ (.slice Ao30 t553.length co30 : Value).ownBlock) (fun _ => False) rfl rfl ?aO ?aR (fun _ _ h => h) (fun _ h => h.elim) ?aF ?aB ?aS ?aL ?_; (case aR => repeat (first | exact (Kd.R_reads' HO555.out).2.2 | (with_reducible refine Kd.C_alloc ?_ _) | (with_reducible refine Kd.C_drewN ?_ _) | (with_reducible refine Kd.C_drew ?_))); (case aB => exact bl); (case aF => exact (fun k_ hk => Kd.fresh' (Kd.R_lt (rp HO555.out)) k_ hk)); (case aO => exact (rp (Kd.R_mono HO_3.out (fun _ hk => hk.2)))); (case aS => exact (below_size bl)); (case aL => have := LMc26.out; omega); intro v557 w29 ho hb hg hat; rw [← Ny556.out] at ho; have n0_ := Aside0.mk (blk_grown (g := gb530) (o := .cells #[.slice (some ad552) l0_0.length c0_0, .slice A0_1 l0_1.length c0_1, .int .i64 a0_2] 25 (0, 0)) bk hg (Kd.R_ne HO_3.out BK530.out (by decide))); have n1_ := Aside0.mk (Kd.R_after (ok := (fun _ => True)) (rp HO555.out) hg hat); have n2_ := Aside0.mk (hb); have n3_ := Aside0.mk (ho); clear BK530; clear HO555; clear HB; clear HO_3; have BK530 := n0_; have HO555 := n1_; have HB := n2_; have HO558 := n3_; clear n0_ n1_ n2_ n3_; clear ho hb hg hat))
         go_roundg k1
         case measure => have := HK1.out; omega
         case rel => exact ⟨(y556), (wrap64 (x4_1 + 1)), (by first | rfl | (simp; done) | (simp [*]; done)), H', ⟨by have := HK1.out; omega⟩, ⟨by (with_reducible repeat (first | apply Kd.R_alloc | apply Kd.R_drewN | apply Kd.R_drew)); exact Kd.R_mono HO558.out (fun _ hk => trivial)⟩, ⟨by (with_reducible repeat (first | refine blk_drewN ?_ _ | refine blk_drew ?_ | refine blk_alloc ?_ _)); exact BK530.out⟩, ⟨bl⟩⟩
        ·
         rw [if_neg c26] at H
         exact absurd H (by simp)
       ·
        rw [if_neg c24] at H
        exact absurd H (by simp)
      ·
       rw [if_neg c23] at H
       have c23b0 : decide (x4_1 < (l0_0.length : Int)) = false := decide_eq_false c23
       clear c23
       obtain rfl := Option.some.inj H
       obtain ⟨hcz31_0, hcz31_1, hcz31_2⟩ := cells3 BK530.out
       obtain ⟨hfz31_0, hfz31_1, hfz31_2⟩ := frz3 BK530.out
       go_wp2
       go_ret
       exact ⟨_, erq, by (with_reducible repeat (first | apply Kd.R_alloc | apply Kd.R_drewN | apply Kd.R_drew)); exact HO_3.out, by repeat (first | (with_reducible first | exact HB.out | apply below_alloc | apply pw_below_drewN | apply below_drew1 | refine below_set ?_ GE530.out) | exact HB.out)⟩
   ·
    rw [if_neg c7] at H
    exact absurd H (by simp)
  ·
   rw [if_neg c5] at H
   exact absurd H (by simp)
 ·
  rw [if_neg c3] at H
  exact absurd H (by simp)

end Go.Proofs.Ytbdpnecnnokkkaa.PSheetEncodes
