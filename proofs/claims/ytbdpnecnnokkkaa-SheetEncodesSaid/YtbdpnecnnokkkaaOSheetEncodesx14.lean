/- One piece of the machine's side of the law, written by a program over the translation; Lean checks it. -/
import Derived.Test.YtbdpnecnnokkkaaOSheetEncodesx0
import Derived.Test.YtbdpnecnnokkkaaOSheetEncodesx13
import Derived.Test.YtbdpnecnnokkkaaShort
namespace Go.Proofs.Ytbdpnecnnokkkaa.PSheetEncodes
open Go.RowKit Go.Proofs.YtbdpnecnnokkkaaW.PrintWords Go.Proofs.YtbdpnecnnokkkaaW.PrintLast Go.Proofs.YtbdpnecnnokkkaaW.PrintMore
attribute [local go_sem] max2_int min2_int max_two min_two max_three min_three max_four min_four   -- for this text's walks alone
set_option linter.unusedVariables false
set_option linter.unusedSimpArgs false

/-! ### runnelref17_nodeBytes: function 42 -/
mutual
def runnelref17_nodeBytes.l0 : Nat → List Int → Int → Int → List Int → List Int → List (List (S52)) → List Int → Int → Int → Int → Int → Option (List Int)
 | 0, _, _, _, _, _, _, _, _, _, _, _ => none
 | k + 1, x3, x4, x450000, x450001, x450002, x450003, x450004, x450005, x450006, x450007, x450008 => if x4 < (x450003.length : Int) then (if 0 ≤ x4 then ((runnelref01_Bytes.f k (IntKind.u64.wrap (((rd_L4 x450003 x4).length : Int)))).bind fun t472 => (if x3.length + t472.length < 140737488355328 then (runnelref17_nodeBytes.l1 k (x3 ++ t472) x4 0 x450000 x450001 x450002 x450003 x450004 x450005 x450006 x450007 x450008) else (none))) else (none)) else ((runnelref17_list.f k x450004).bind fun t500 => (if x3.length + t500.length < 140737488355328 then ((some (x3 ++ t500 : List Int)).bind fun y503 => ((runnelref17_one.f k x450005).bind fun t506 => (if y503.length + t506.length < 140737488355328 then ((some (y503 ++ t506 : List Int)).bind fun y509 => ((runnelref17_one.f k x450006).bind fun t512 => (if y509.length + t512.length < 140737488355328 then ((some (y509 ++ t512 : List Int)).bind fun y515 => ((runnelref17_one.f k x450007).bind fun t518 => (if y515.length + t518.length < 140737488355328 then ((some (y515 ++ t518 : List Int)).bind fun y521 => ((runnelref17_one.f k x450008).bind fun t524 => (if y521.length + t524.length < 140737488355328 then (some (y521 ++ t524)) else (none)))) else (none)))) else (none)))) else (none)))) else (none)))
def runnelref17_nodeBytes.l1 : Nat → List Int → Int → Int → Int → List Int → List Int → List (List (S52)) → List Int → Int → Int → Int → Int → Option (List Int)
 | 0, _, _, _, _, _, _, _, _, _, _, _, _ => none
 | k + 1, x3, x4, x5, x450000, x450001, x450002, x450003, x450004, x450005, x450006, x450007, x450008 => if 0 ≤ x4 then (if x4 < (x450003.length : Int) then (if x5 < ((rd_L4 x450003 x4).length : Int) then (if 0 ≤ x5 then ((runnelref17_one.f k ((rd_T52 (rd_L4 x450003 x4) x5).f0)).bind fun t482 => (if x3.length + t482.length < 140737488355328 then ((some (x3 ++ t482 : List Int)).bind fun y485 => ((runnelref17_one.f k ((rd_T52 (rd_L4 x450003 x4) x5).f1)).bind fun t488 => (if y485.length + t488.length < 140737488355328 then ((some (y485 ++ t488 : List Int)).bind fun y491 => ((runnelref01_Text.f k ((rd_T52 (rd_L4 x450003 x4) x5).f2)).bind fun t494 => (if y491.length + t494.length < 140737488355328 then (runnelref17_nodeBytes.l1 k (y491 ++ t494) x4 (wrap64 (x5 + 1)) x450000 x450001 x450002 x450003 x450004 x450005 x450006 x450007 x450008) else (none)))) else (none)))) else (none))) else (none)) else (runnelref17_nodeBytes.l0 k x3 (wrap64 (x4 + 1)) x450000 x450001 x450002 x450003 x450004 x450005 x450006 x450007 x450008)) else (none)) else (none)
end
def runnelref17_nodeBytes.f (k : Nat) (a0_0 : Int) (l0_1 : List Int) (l0_2 : List Int) (l0_3 : List (List (S52))) (l0_4 : List Int) (a0_5 : Int) (a0_6 : Int) (a0_7 : Int) (a0_8 : Int) : Option (List Int) := (runnelref17_one.f k a0_0).bind fun t450 => ((runnelref17_list.f k l0_1).bind fun t453 => (if t450.length + t453.length < 140737488355328 then ((some (t450 ++ t453 : List Int)).bind fun y456 => ((runnelref17_list.f k l0_2).bind fun t459 => (if y456.length + t459.length < 140737488355328 then ((some (y456 ++ t459 : List Int)).bind fun y462 => ((runnelref01_Bytes.f k (IntKind.u64.wrap ((l0_3.length : Int)))).bind fun t465 => (if y462.length + t465.length < 140737488355328 then (runnelref17_nodeBytes.l0 k (y462 ++ t465) 0 a0_0 l0_1 l0_2 l0_3 l0_4 a0_5 a0_6 a0_7 a0_8) else (none)))) else (none)))) else (none)))
def runnelref17_nodeBytes.T2 : Bool × List (List Nat × List Nat) := (true, [([], []), ([], []), ([1], [1]), ([2], [2]), ([0, 3, 3], [0, 3]), ([], []), ([5], [5]), ([6, 4], [6]), ([4, 7, 7], [4, 7]), ([8, 8, 0, 1, 2, 3, 4, 5, 6, 7, 8], [0, 8])])
def runnelref17_nodeBytes.B2 : List Nat := [0, 0, 2, 6, 15, 0, 32, 127, 255, 511]
theorem runnelref17_nodeBytes.tab2 : rtab .any (opsOf Try.f42 2) = runnelref17_nodeBytes.T2 := by kernel_rfl
theorem runnelref17_nodeBytes.bits2 : waitsOk runnelref17_nodeBytes.T2.2 runnelref17_nodeBytes.B2 = true := by kernel_rfl
def runnelref17_nodeBytes.T12 : Bool × List (List Nat × List Nat) := (true, [([], []), ([], []), ([1], [1]), ([2], [2]), ([0, 3, 3], [0, 3]), ([], []), ([5], [5]), ([6, 4], [6]), ([4, 7, 7], [4, 7]), ([], []), ([9], [9]), ([10, 8], [10]), ([8, 11, 11], [8, 11]), ([12, 12, 0, 1, 2, 3, 4, 5, 6, 7, 8, 9, 10, 11, 12], [0, 12])])
def runnelref17_nodeBytes.B12 : List Nat := [0, 0, 2, 6, 15, 0, 32, 127, 255, 0, 512, 2047, 4095, 8191]
theorem runnelref17_nodeBytes.tab12 : rtab .any (opsOf Try.f42 12) = runnelref17_nodeBytes.T12 := by kernel_rfl
theorem runnelref17_nodeBytes.bits12 : waitsOk runnelref17_nodeBytes.T12.2 runnelref17_nodeBytes.B12 = true := by kernel_rfl
def runnelref17_nodeBytes.T14 : Bool × List (List Nat × List Nat) := (true, [([], []), ([], []), ([1], [1]), ([2], [2]), ([0, 3, 3], [0, 3]), ([], []), ([5], [5]), ([6, 4], [6]), ([4, 7, 7], [4, 7]), ([], []), ([9], [9]), ([10, 8], [10]), ([8, 11, 11], [8, 11]), ([], []), ([13], [13]), ([14, 12], [14]), ([12, 15, 15], [12, 15]), ([16, 16, 0, 1, 2, 3, 4, 5, 6, 7, 8, 9, 10, 11, 12, 13, 14, 15, 16], [16])])
def runnelref17_nodeBytes.B14 : List Nat := [0, 0, 2, 6, 15, 0, 32, 127, 255, 0, 512, 2047, 4095, 0, 8192, 32767, 65535, 131071]
theorem runnelref17_nodeBytes.tab14 : rtab .any (opsOf Try.f42 14) = runnelref17_nodeBytes.T14 := by kernel_rfl
theorem runnelref17_nodeBytes.bits14 : waitsOk runnelref17_nodeBytes.T14.2 runnelref17_nodeBytes.B14 = true := by kernel_rfl
set_option maxHeartbeats 8000000 in
set_option maxRecDepth 100000 in
theorem runnelref17_nodeBytes.calls (k : Nat) (a0_0 : Int) (A0_1 : Option Addr) (c0_1 : Nat) (l0_1 : List Int) (A0_2 : Option Addr) (c0_2 : Nat) (l0_2 : List Int) (A0_3 : Option Addr) (c0_3 : Nat) (l0_3 : List (List (S52))) (A0_4 : Option Addr) (c0_4 : Nat) (l0_4 : List Int) (a0_5 : Int) (a0_6 : Int) (a0_7 : Int) (a0_8 : Int) (r : List Int) (w : World) (hr0_1 : Kd.C (Kd.int .i64) w A0_1 l0_1.length l0_1) (hc0_1 : l0_1.length ≤ c0_1) (hr0_2 : Kd.C (Kd.int .i64) w A0_2 l0_2.length l0_2) (hc0_2 : l0_2.length ≤ c0_2) (hr0_3 : Kd.C (Kd.slice 52 k52) w A0_3 l0_3.length l0_3) (hc0_3 : l0_3.length ≤ c0_3) (hr0_4 : Kd.C (Kd.int .i64) w A0_4 l0_4.length l0_4) (hc0_4 : l0_4.length ≤ c0_4) (h : runnelref17_nodeBytes.f k a0_0 l0_1 l0_2 l0_3 l0_4 a0_5 a0_6 a0_7 a0_8 = some r) :
  Calls Try.prog 42 #[.agg #[.int .i64 a0_0, .slice A0_1 l0_1.length c0_1, .slice A0_2 l0_2.length c0_2, .slice A0_3 l0_3.length c0_3, .slice A0_4 l0_4.length c0_4, .int .i64 a0_5, .int .i64 a0_6, .int .i64 a0_7, .int .i64 a0_8]] w fun e w' => ∃ v0_ : Value, e = .returned (v0_) ∧ Kd.R (Kd.int .u8) 5 w' w.heap.size (fun _ => True) v0_ r ∧ Below w.heap.size w w' := by
 have hu44 := Try.underlying44
 have hu52 := Try.underlying52
 have HR0_1 := Aside0.mk hr0_1
 have HC0_1 := Aside0.mk hc0_1
 clear hr0_1 hc0_1
 have HR0_2 := Aside0.mk hr0_2
 have HC0_2 := Aside0.mk hc0_2
 clear hr0_2 hc0_2
 have HR0_3 := Aside0.mk hr0_3
 have HC0_3 := Aside0.mk hc0_3
 clear hr0_3 hc0_3
 have HR0_4 := Aside0.mk hr0_4
 have HC0_4 := Aside0.mk hc0_4
 clear hr0_4 hc0_4
 have HB := Aside0.mk (Below.refl w.heap.size w)
 have H : ((runnelref17_one.f k a0_0).bind fun t450 => ((runnelref17_list.f k l0_1).bind fun t453 => (if t450.length + t453.length < 140737488355328 then ((some (t450 ++ t453 : List Int)).bind fun y456 => ((runnelref17_list.f k l0_2).bind fun t459 => (if y456.length + t459.length < 140737488355328 then ((some (y456 ++ t459 : List Int)).bind fun y462 => ((runnelref01_Bytes.f k (IntKind.u64.wrap ((l0_3.length : Int)))).bind fun t465 => (if y462.length + t465.length < 140737488355328 then (runnelref17_nodeBytes.l0 k (y462 ++ t465) 0 a0_0 l0_1 l0_2 l0_3 l0_4 a0_5 a0_6 a0_7 a0_8) else (none)))) else (none)))) else (none)))) = some r := h
 clear h
 replace H := Option.bind_eq_some_iff.mp H
 obtain ⟨t450, A20, H⟩ := H
 replace H : ((runnelref17_list.f k l0_1).bind fun t453 => (if t450.length + t453.length < 140737488355328 then ((some (t450 ++ t453 : List Int)).bind fun y456 => ((runnelref17_list.f k l0_2).bind fun t459 => (if y456.length + t459.length < 140737488355328 then ((some (y456 ++ t459 : List Int)).bind fun y462 => ((runnelref01_Bytes.f k (IntKind.u64.wrap ((l0_3.length : Int)))).bind fun t465 => (if y462.length + t465.length < 140737488355328 then (runnelref17_nodeBytes.l0 k (y462 ++ t465) 0 a0_0 l0_1 l0_2 l0_3 l0_4 a0_5 a0_6 a0_7 a0_8) else (none)))) else (none)))) else (none))) = some r := H
 have A2 := Aside0.mk A20
 clear A20
 replace H := Option.bind_eq_some_iff.mp H
 obtain ⟨t453, A30, H⟩ := H
 replace H : (if t450.length + t453.length < 140737488355328 then ((some (t450 ++ t453 : List Int)).bind fun y456 => ((runnelref17_list.f k l0_2).bind fun t459 => (if y456.length + t459.length < 140737488355328 then ((some (y456 ++ t459 : List Int)).bind fun y462 => ((runnelref01_Bytes.f k (IntKind.u64.wrap ((l0_3.length : Int)))).bind fun t465 => (if y462.length + t465.length < 140737488355328 then (runnelref17_nodeBytes.l0 k (y462 ++ t465) 0 a0_0 l0_1 l0_2 l0_3 l0_4 a0_5 a0_6 a0_7 a0_8) else (none)))) else (none)))) else (none)) = some r := H
 have A3 := Aside0.mk A30
 clear A30
 by_cases c4 : t450.length + t453.length < 140737488355328
 ·
  rw [if_pos c4] at H
  have LMc4 := Aside0.mk c4
  clear c4
  obtain ⟨y456, hy456⟩ : ∃ y_ : List Int, y_ = (t450 ++ t453) := ⟨_, rfl⟩
  replace H : ((runnelref17_list.f k l0_2).bind fun t459 => (if y456.length + t459.length < 140737488355328 then ((some (y456 ++ t459 : List Int)).bind fun y462 => ((runnelref01_Bytes.f k (IntKind.u64.wrap ((l0_3.length : Int)))).bind fun t465 => (if y462.length + t465.length < 140737488355328 then (runnelref17_nodeBytes.l0 k (y462 ++ t465) 0 a0_0 l0_1 l0_2 l0_3 l0_4 a0_5 a0_6 a0_7 a0_8) else (none)))) else (none))) = some r := by first | (rw [hy456]; with_reducible exact H) | (have H2_ := (Option.bind_some _ _).symm.trans H; rw [hy456]; with_reducible exact H2_) | (have H2_ := (Option.bind_some _ _).symm.trans H; with_reducible exact H2_) | with_reducible exact H | (rw [hy456]; exact H) | exact H
  have Ny456 := Aside0.mk hy456
  clear hy456
  replace H := Option.bind_eq_some_iff.mp H
  obtain ⟨t459, A50, H⟩ := H
  replace H : (if y456.length + t459.length < 140737488355328 then ((some (y456 ++ t459 : List Int)).bind fun y462 => ((runnelref01_Bytes.f k (IntKind.u64.wrap ((l0_3.length : Int)))).bind fun t465 => (if y462.length + t465.length < 140737488355328 then (runnelref17_nodeBytes.l0 k (y462 ++ t465) 0 a0_0 l0_1 l0_2 l0_3 l0_4 a0_5 a0_6 a0_7 a0_8) else (none)))) else (none)) = some r := H
  have A5 := Aside0.mk A50
  clear A50
  by_cases c6 : y456.length + t459.length < 140737488355328
  ·
   rw [if_pos c6] at H
   have LMc6 := Aside0.mk c6
   clear c6
   obtain ⟨y462, hy462⟩ : ∃ y_ : List Int, y_ = (y456 ++ t459) := ⟨_, rfl⟩
   replace H : ((runnelref01_Bytes.f k (IntKind.u64.wrap ((l0_3.length : Int)))).bind fun t465 => (if y462.length + t465.length < 140737488355328 then (runnelref17_nodeBytes.l0 k (y462 ++ t465) 0 a0_0 l0_1 l0_2 l0_3 l0_4 a0_5 a0_6 a0_7 a0_8) else (none))) = some r := by first | (rw [hy462]; with_reducible exact H) | (have H2_ := (Option.bind_some _ _).symm.trans H; rw [hy462]; with_reducible exact H2_) | (have H2_ := (Option.bind_some _ _).symm.trans H; with_reducible exact H2_) | with_reducible exact H | (rw [hy462]; exact H) | exact H
   have Ny462 := Aside0.mk hy462
   clear hy462
   replace H := Option.bind_eq_some_iff.mp H
   obtain ⟨t465, A70, H⟩ := H
   replace H : (if y462.length + t465.length < 140737488355328 then (runnelref17_nodeBytes.l0 k (y462 ++ t465) 0 a0_0 l0_1 l0_2 l0_3 l0_4 a0_5 a0_6 a0_7 a0_8) else (none)) = some r := H
   have A7 := Aside0.mk A70
   clear A70
   by_cases c8 : y462.length + t465.length < 140737488355328
   ·
    rw [if_pos c8] at H
    have LMc8 := Aside0.mk c8
    clear c8
    obtain ⟨y468, hy468⟩ : ∃ y_ : List Int, y_ = (y462 ++ t465) := ⟨_, rfl⟩
    replace H : (runnelref17_nodeBytes.l0 k y468 0 a0_0 l0_1 l0_2 l0_3 l0_4 a0_5 a0_6 a0_7 a0_8) = some r := by first | (rw [hy468]; with_reducible exact H) | (have H2_ := (Option.bind_some _ _).symm.trans H; rw [hy468]; with_reducible exact H2_) | (have H2_ := (Option.bind_some _ _).symm.trans H; with_reducible exact H2_) | with_reducible exact H | (rw [hy468]; exact H) | exact H
    have Ny468 := Aside0.mk hy468
    clear hy468
    have H' := Aside0.mk H
    clear H
    go_enter Try.func42, Try.ntmps42
    try go_wp2_with (first | ((with_reducible refine gate_dst (N := 1) rfl ?_); refine box_event ?hg (N := 1) ?hd (cs := #[.int .i64 a0_0, .slice A0_1 l0_1.length c0_1, .slice A0_2 l0_2.length c0_2, .slice A0_3 l0_3.length c0_3, .slice A0_4 l0_4.length c0_4, .int .i64 a0_5, .int .i64 a0_6, .int .i64 a0_7, .int .i64 a0_8]) (t := 44) ?hr ?_; (case hd => rfl); (case hg => rfl); (case hr => first | (go_simp; done) | (go_simp; rfl)); intro gb449 hg w9 hbox hb; have n0_ := Aside0.mk (below_step bl hb); have n1_ := Aside0.mk (hbox); have n2_ := Aside0.mk ((by rw [hg]; exact (below_size bl) : w.heap.size ≤ gb449)); have n3_ := Aside0.mk ((by rw [hg]; exact (below_size bl) : w.heap.size ≤ gb449)); clear HB; have HB := n0_; have BK449 := n1_; have GW449 := n2_; have GE449 := n3_; clear n0_ n1_ n2_ n3_; clear hb hbox hg; obtain ⟨hcz10_0, hcz10_1, hcz10_2, hcz10_3, hcz10_4, hcz10_5, hcz10_6, hcz10_7, hcz10_8⟩ := cells9 BK449.out; have hfz10_0 := blk_frozen BK449.out 0; have hfz10_1 := blk_frozen BK449.out 1; have hfz10_2 := blk_frozen BK449.out 2; have hfz10_3 := blk_frozen BK449.out 3; have hfz10_4 := blk_frozen BK449.out 4; have hfz10_5 := blk_frozen BK449.out 5; have hfz10_6 := blk_frozen BK449.out 6; have hfz10_7 := blk_frozen BK449.out 7; have hfz10_8 := blk_frozen BK449.out 8) | ((with_reducible refine gate_callee (f := 39) rfl ?_); refine goesL_ (some 9) rfl rfl Try.func39 (by kernel_rfl) rfl #[.int .i64 a0_0] rfl mpq ?_; (with_reducible refine (runnelref17_one.calls k a0_0 t450 _ A2.out).mono ?_); rintro e w11 ⟨v451, rfl, ho0, hb⟩; refine ⟨_, rfl, ?_⟩; have n0_ := Aside0.mk (Kd.R_lower ho0 (below_size bl)); have n1_ := Aside0.mk (blk_below (g := gb449) (o := .cells #[.int .i64 a0_0, .slice A0_1 l0_1.length c0_1, .slice A0_2 l0_2.length c0_2, .slice A0_3 l0_3.length c0_3, .slice A0_4 l0_4.length c0_4, .int .i64 a0_5, .int .i64 a0_6, .int .i64 a0_7, .int .i64 a0_8] 44 (0, 0)) bk hb); have n2_ := Aside0.mk (below_step bl hb); clear BK449; clear HB; have HO452 := n0_; have BK449 := n1_; have HB := n2_; clear n0_ n1_ n2_; (try clear hb); (try clear hb2); (try clear hk); (try clear hi); (try clear ho0)))
    have n0_ := Aside0.mk (Kd.R_drew HO452.out)
    have n1_ := Aside0.mk (blk_drew BK449.out)
    have n2_ := Aside0.mk (below_drew1 HB.out)
    clear HO452
    clear BK449
    clear HB
    have HO452 := n0_
    have BK449 := n1_
    have HB := n2_
    clear n0_ n1_ n2_
    refine start_ (n := 10) (S := fun w' => w'.cell? ⟨gb449, 0, none⟩ = some (.int .i64 a0_0) ∧ w'.cell? ⟨gb449, 1, none⟩ = some (.slice A0_1 l0_1.length c0_1) ∧ w'.cell? ⟨gb449, 2, none⟩ = some (.slice A0_2 l0_2.length c0_2) ∧ w'.cell? ⟨gb449, 3, none⟩ = some (.slice A0_3 l0_3.length c0_3) ∧ w'.cell? ⟨gb449, 4, none⟩ = some (.slice A0_4 l0_4.length c0_4) ∧ w'.cell? ⟨gb449, 5, none⟩ = some (.int .i64 a0_5) ∧ w'.cell? ⟨gb449, 6, none⟩ = some (.int .i64 a0_6) ∧ w'.cell? ⟨gb449, 7, none⟩ = some (.int .i64 a0_7) ∧ w'.cell? ⟨gb449, 8, none⟩ = some (.int .i64 a0_8)) (ds := []) #[false, false, false, false, false, false, false, false, false, false] (by kernel_rfl) rfl rfl ⟨(blk_cell BK449.out 0).trans rfl, (blk_cell BK449.out 1).trans rfl, (blk_cell BK449.out 2).trans rfl, (blk_cell BK449.out 3).trans rfl, (blk_cell BK449.out 4).trans rfl, (blk_cell BK449.out 5).trans rfl, (blk_cell BK449.out 6).trans rfl, (blk_cell BK449.out 7).trans rfl, (blk_cell BK449.out 8).trans rfl⟩ (fun hHeld => ?_); refine with_tabW runnelref17_nodeBytes.tab2 runnelref17_nodeBytes.bits2 (fun HT_ HW_ => ?_)
    generalize w11.drew = w12 at HO452 BK449 HB hHeld ⊢
    refine pure_ (i := 0) (N := some 10) (v := ?_) (a' := ?_) #[true, false, false, false, false, false, false, false, false, false] rfl rfl (any_of HT_.out (by kernel_rfl)) (fun _ _ _ h => h) (Or.inl ⟨by rfl, ?_⟩) ?_ ?_
    rotate_left
    ·
     intro w'
     go_simp
     with_reducible rfl
    rotate_left
    ·
     simp only [Act.put, List.setIfInBounds_toArray, List.set_cons_zero, List.set_cons_succ, i64_w, i32_w]
     rfl
    refine pure_ (i := 1) (N := some 11) (v := ?_) (a' := ?_) #[true, true, false, false, false, false, false, false, false, false] rfl rfl (any_of HT_.out (by kernel_rfl)) (fun _ _ _ h => h) (Or.inl ⟨by rfl, ?_⟩) ?_ ?_
    rotate_left
    ·
     intro w'
     go_simp
     with_reducible rfl
    rotate_left
    ·
     simp only [Act.put, List.setIfInBounds_toArray, List.set_cons_zero, List.set_cons_succ, i64_w, i32_w]
     rfl
    refine pure_ (i := 5) (N := some 15) (v := ?_) (a' := ?_) #[true, true, false, false, false, true, false, false, false, false] rfl rfl (any_of HT_.out (by kernel_rfl)) (fun _ _ _ h => h) (Or.inl ⟨by rfl, ?_⟩) ?_ ?_
    rotate_left
    ·
     intro w'
     go_simp
     with_reducible rfl
    rotate_left
    ·
     simp only [Act.put, List.setIfInBounds_toArray, List.set_cons_zero, List.set_cons_succ, i64_w, i32_w]
     rfl
    refine take_ (i := 2) (N := some 12) (v := ?_) (a' := ?_) #[true, true, true, false, false, true, false, false, false, false] rfl rfl (take_ofW HT_.out HW_.out (by kernel_rfl)) (fun _ _ _ h => h) (Or.inl ⟨by rfl, ?_⟩) hHeld ?_ ?_
    rotate_left
    ·
     rintro w' ⟨s0, s1, s2, s3, s4, s5, s6, s7, s8⟩
     go_simp
     with_reducible rfl
    rotate_left
    ·
     simp only [Act.put, List.setIfInBounds_toArray, List.set_cons_zero, List.set_cons_succ, i64_w, i32_w]
     rfl
    refine take_ (i := 6) (N := some 16) (v := ?_) (a' := ?_) #[true, true, true, false, false, true, true, false, false, false] rfl rfl (take_ofW HT_.out HW_.out (by kernel_rfl)) (fun _ _ _ h => h) (Or.inl ⟨by rfl, ?_⟩) hHeld ?_ ?_
    rotate_left
    ·
     rintro w' ⟨s0, s1, s2, s3, s4, s5, s6, s7, s8⟩
     go_simp
     with_reducible rfl
    rotate_left
    ·
     simp only [Act.put, List.setIfInBounds_toArray, List.set_cons_zero, List.set_cons_succ, i64_w, i32_w]
     rfl
    refine one_ (i := 3) (N := some 13) #[true, true, true, true, false, true, true, false, false, false] rfl rfl (one_of HT_.out (by kernel_rfl)) (by decide) (fun K hK => ?_)
    refine goes_ Try.func40 (by kernel_rfl) rfl #[.slice A0_1 l0_1.length c0_1] (by rfl) rfl rfl mpq ?_
    with_reducible refine (runnelref17_list.calls k _ _ l0_1 t453 _ ?side1 ?side2 A3.out).mono ?_
    (case side1 => repeat (first | exact (Kd.C_below HR0_1.out HB.out) | (with_reducible refine Kd.C_alloc ?_ _) | (with_reducible refine Kd.C_drewN ?_ _) | (with_reducible refine Kd.C_drew ?_)))
    (case side2 => exact HC0_1.out)
    rintro e w13 ⟨v454, rfl, ho0, hb⟩
    refine ⟨_, rfl, ?_⟩
    have n0_ := Aside0.mk (Kd.R_elder' (rp HO452.out) (Kd.R_base ho0) hb)
    have n1_ := Aside0.mk (Kd.R_lower (Kd.R_new' ho0 (Kd.R_lt (rp HO452.out))) (below_size bl))
    have n2_ := Aside0.mk (blk_below (g := gb449) (o := .cells #[.int .i64 a0_0, .slice A0_1 l0_1.length c0_1, .slice A0_2 l0_2.length c0_2, .slice A0_3 l0_3.length c0_3, .slice A0_4 l0_4.length c0_4, .int .i64 a0_5, .int .i64 a0_6, .int .i64 a0_7, .int .i64 a0_8] 44 (0, 0)) bk hb)
    have n3_ := Aside0.mk (below_step bl hb)
    clear HO452
    clear BK449
    clear HB
    have HO452 := n0_
    have HO455 := n1_
    have BK449 := n2_
    have HB := n3_
    clear n0_ n1_ n2_ n3_
    (try clear hb)
    (try clear hb2)
    (try clear hk)
    (try clear hi)
    (try clear ho0)
    obtain ⟨Ao15, co15, eo15⟩ := Kd.R_slice HO455.out
    (first | subst eo15 | (injection eo15 with f1_ f2_ f3_; have f4_ := f1_.symm; have f5_ := f3_.symm; clear f1_ f2_ f3_; subst f4_; subst f5_))
    refine hK.out _ _ ⟨(blk_cell BK449.out 0).trans rfl, (blk_cell BK449.out 1).trans rfl, (blk_cell BK449.out 2).trans rfl, (blk_cell BK449.out 3).trans rfl, (blk_cell BK449.out 4).trans rfl, (blk_cell BK449.out 5).trans rfl, (blk_cell BK449.out 6).trans rfl, (blk_cell BK449.out 7).trans rfl, (blk_cell BK449.out 8).trans rfl⟩ (fun hHeld => ?_)
    clear hK K
    refine norm_ (a' := ?_) ?_ ?_
    rotate_left
    ·
     show Act.put _ (some 13) _ = _
     simp only [Act.put, List.setIfInBounds_toArray, List.set_cons_zero, List.set_cons_succ, i64_w, i32_w]
     rfl
    refine one_ (i := 4) (N := some 14) #[true, true, true, true, true, true, true, false, false, false] rfl rfl (one_of HT_.out (by kernel_rfl)) (by decide) (fun K hK => ?_)
    refine Kd.R_append_rows_step (Kd.int .u8) (w0 := w) w.heap.size (by rfl) (.tmp 10) (.tmp 13) 29 5 (.int .u8 0) 1 rfl Try.underlying29 info5 rfl (by decide) (by omega) v451 t450 t453 _ _ _ (fun k_ => some k_ ≠ (.slice Ao15 t453.length co15 : Value).ownBlock) (fun _ => False) rfl rfl ?aO ?aR (fun _ _ h => h) (fun _ h => h.elim) ?aF ?aB ?aS ?aL ?_
    (case aR => repeat (first | exact (Kd.R_reads' HO455.out).2.2 | (with_reducible refine Kd.C_alloc ?_ _) | (with_reducible refine Kd.C_drewN ?_ _) | (with_reducible refine Kd.C_drew ?_)))
    (case aB => exact bl)
    (case aF => exact (fun k_ hk => Kd.fresh' (Kd.R_lt (rp HO455.out)) k_ hk))
    (case aO => exact (rp (Kd.R_mono HO452.out (fun _ hk => hk.2))))
    (case aS => exact (below_size bl))
    (case aL => have := LMc4.out; omega)
    intro v457 w14 ho hb hg hat
    rw [← Ny456.out] at ho
    have n0_ := Aside0.mk (blk_grown (g := gb449) (o := .cells #[.int .i64 a0_0, .slice A0_1 l0_1.length c0_1, .slice A0_2 l0_2.length c0_2, .slice A0_3 l0_3.length c0_3, .slice A0_4 l0_4.length c0_4, .int .i64 a0_5, .int .i64 a0_6, .int .i64 a0_7, .int .i64 a0_8] 44 (0, 0)) bk hg (Kd.R_ne HO452.out BK449.out (by decide)))
    have n1_ := Aside0.mk (Kd.R_after (ok := (fun _ => True)) (rp HO455.out) hg hat)
    have n2_ := Aside0.mk (hb)
    have n3_ := Aside0.mk (ho)
    clear BK449
    clear HO455
    clear HB
    clear HO452
    have BK449 := n0_
    have HO455 := n1_
    have HB := n2_
    have HO458 := n3_
    clear n0_ n1_ n2_ n3_
    clear ho hb hg hat
    refine hK.out _ _ ⟨(blk_cell BK449.out 0).trans rfl, (blk_cell BK449.out 1).trans rfl, (blk_cell BK449.out 2).trans rfl, (blk_cell BK449.out 3).trans rfl, (blk_cell BK449.out 4).trans rfl, (blk_cell BK449.out 5).trans rfl, (blk_cell BK449.out 6).trans rfl, (blk_cell BK449.out 7).trans rfl, (blk_cell BK449.out 8).trans rfl⟩ (fun hHeld => ?_)
    clear hK K
    refine norm_ (a' := ?_) ?_ ?_
    rotate_left
    ·
     show Act.put _ (some 14) _ = _
     simp only [Act.put, List.setIfInBounds_toArray, List.set_cons_zero, List.set_cons_succ, i64_w, i32_w]
     rfl
    refine one_ (i := 7) (N := some 17) #[true, true, true, true, true, true, true, true, false, false] rfl rfl (one_of HT_.out (by kernel_rfl)) (by decide) (fun K hK => ?_)
    refine goes_ Try.func40 (by kernel_rfl) rfl #[.slice A0_2 l0_2.length c0_2] (by rfl) rfl rfl mpq ?_
    with_reducible refine (runnelref17_list.calls k _ _ l0_2 t459 _ ?side1 ?side2 A5.out).mono ?_
    (case side1 => repeat (first | exact (Kd.C_below HR0_2.out HB.out) | (with_reducible refine Kd.C_alloc ?_ _) | (with_reducible refine Kd.C_drewN ?_ _) | (with_reducible refine Kd.C_drew ?_)))
    (case side2 => exact HC0_2.out)
    rintro e w16 ⟨v460, rfl, ho0, hb⟩
    refine ⟨_, rfl, ?_⟩
    have n0_ := Aside0.mk (Kd.R_elder' (rp HO455.out) (Kd.R_base ho0) hb)
    have n1_ := Aside0.mk (Kd.R_elder' (rp HO458.out) (Kd.R_base ho0) hb)
    have n2_ := Aside0.mk (Kd.R_lower (Kd.R_new' (Kd.R_new' ho0 (Kd.R_lt (rp HO455.out))) (Kd.R_lt (rp HO458.out))) (below_size bl))
    have n3_ := Aside0.mk (blk_below (g := gb449) (o := .cells #[.int .i64 a0_0, .slice A0_1 l0_1.length c0_1, .slice A0_2 l0_2.length c0_2, .slice A0_3 l0_3.length c0_3, .slice A0_4 l0_4.length c0_4, .int .i64 a0_5, .int .i64 a0_6, .int .i64 a0_7, .int .i64 a0_8] 44 (0, 0)) bk hb)
    have n4_ := Aside0.mk (below_step bl hb)
    clear HO455
    clear HO458
    clear BK449
    clear HB
    have HO455 := n0_
    have HO458 := n1_
    have HO461 := n2_
    have BK449 := n3_
    have HB := n4_
    clear n0_ n1_ n2_ n3_ n4_
    (try clear hb)
    (try clear hb2)
    (try clear hk)
    (try clear hi)
    (try clear ho0)
    obtain ⟨Ao18, co18, eo18⟩ := Kd.R_slice HO461.out
    (first | subst eo18 | (injection eo18 with f1_ f2_ f3_; have f4_ := f1_.symm; have f5_ := f3_.symm; clear f1_ f2_ f3_; subst f4_; subst f5_))
    refine hK.out _ _ ⟨(blk_cell BK449.out 0).trans rfl, (blk_cell BK449.out 1).trans rfl, (blk_cell BK449.out 2).trans rfl, (blk_cell BK449.out 3).trans rfl, (blk_cell BK449.out 4).trans rfl, (blk_cell BK449.out 5).trans rfl, (blk_cell BK449.out 6).trans rfl, (blk_cell BK449.out 7).trans rfl, (blk_cell BK449.out 8).trans rfl⟩ (fun hHeld => ?_)
    clear hK K
    refine norm_ (a' := ?_) ?_ ?_
    rotate_left
    ·
     show Act.put _ (some 17) _ = _
     simp only [Act.put, List.setIfInBounds_toArray, List.set_cons_zero, List.set_cons_succ, i64_w, i32_w]
     rfl
    refine one_ (i := 8) (N := some 18) #[true, true, true, true, true, true, true, true, true, false] rfl rfl (one_of HT_.out (by kernel_rfl)) (by decide) (fun K hK => ?_)
    refine Kd.R_append_rows_step (Kd.int .u8) (w0 := w) w.heap.size (by rfl) (.tmp 14) (.tmp 17) 29 5 (.int .u8 0) 1 rfl Try.underlying29 info5 rfl (by decide) (by omega) v457 y456 t459 _ _ _ (fun k_ => some k_ ≠ (.slice Ao15 t453.length co15 : Value).ownBlock ∧ some k_ ≠ (.slice Ao18 t459.length co18 : Value).ownBlock) (fun _ => False) rfl rfl ?aO ?aR (fun _ _ h => h) (fun _ h => h.elim) ?aF ?aB ?aS ?aL ?_
    (case aR => repeat (first | exact (Kd.R_reads' HO461.out).2.2 | (with_reducible refine Kd.C_alloc ?_ _) | (with_reducible refine Kd.C_drewN ?_ _) | (with_reducible refine Kd.C_drew ?_)))
    (case aB => exact bl)
    (case aF => exact (fun k_ hk => ⟨Kd.fresh' (Kd.R_lt (rp HO455.out)) k_ hk, Kd.fresh' (Kd.R_lt (rp HO461.out)) k_ hk⟩))
    (case aO => exact (rp HO458.out))
    (case aS => exact (below_size bl))
    (case aL => have := LMc6.out; omega)
    intro v463 w17 ho hb hg hat
    rw [← Ny462.out] at ho
    have n0_ := Aside0.mk (blk_grown (g := gb449) (o := .cells #[.int .i64 a0_0, .slice A0_1 l0_1.length c0_1, .slice A0_2 l0_2.length c0_2, .slice A0_3 l0_3.length c0_3, .slice A0_4 l0_4.length c0_4, .int .i64 a0_5, .int .i64 a0_6, .int .i64 a0_7, .int .i64 a0_8] 44 (0, 0)) bk hg (Kd.R_ne HO458.out BK449.out (by decide)))
    have n1_ := Aside0.mk (Kd.R_after (ok := (fun k_ => some k_ ≠ (.slice Ao18 t459.length co18 : Value).ownBlock)) (by (with_reducible repeat (first | apply Kd.R_alloc | apply Kd.R_drewN | apply Kd.R_drew)); exact Kd.R_mono HO455.out (fun _ hk => ⟨hk.2, hk.1.2⟩)) hg hat)
    have n2_ := Aside0.mk (Kd.R_after (ok := (fun k_ => some k_ ≠ (.slice Ao15 t453.length co15 : Value).ownBlock)) (by (with_reducible repeat (first | apply Kd.R_alloc | apply Kd.R_drewN | apply Kd.R_drew)); exact Kd.R_mono HO461.out (fun _ hk => ⟨hk.1.2, hk.2⟩)) hg hat)
    have n3_ := Aside0.mk (hb)
    have n4_ := Aside0.mk (ho)
    clear BK449
    clear HO455
    clear HO461
    clear HB
    clear HO458
    have BK449 := n0_
    have HO455 := n1_
    have HO461 := n2_
    have HB := n3_
    have HO464 := n4_
    clear n0_ n1_ n2_ n3_ n4_
    clear ho hb hg hat
    refine hK.out _ _ ⟨(blk_cell BK449.out 0).trans rfl, (blk_cell BK449.out 1).trans rfl, (blk_cell BK449.out 2).trans rfl, (blk_cell BK449.out 3).trans rfl, (blk_cell BK449.out 4).trans rfl, (blk_cell BK449.out 5).trans rfl, (blk_cell BK449.out 6).trans rfl, (blk_cell BK449.out 7).trans rfl, (blk_cell BK449.out 8).trans rfl⟩ (fun hHeld => ?_)
    clear hK K
    refine norm_ (a' := ?_) ?_ ?_
    rotate_left
    ·
     show Act.put _ (some 18) _ = _
     simp only [Act.put, List.setIfInBounds_toArray, List.set_cons_zero, List.set_cons_succ, i64_w, i32_w]
     rfl
    refine pure_ (i := 9) (N := some 3) (v := ?_) (a' := ?_) #[true, true, true, true, true, true, true, true, true, true] rfl rfl (any_of HT_.out (by kernel_rfl)) (fun _ _ _ h => h) (Or.inl ⟨by rfl, ?_⟩) ?_ ?_
    rotate_left
    ·
     intro w'
     go_simp
     with_reducible rfl
    rotate_left
    ·
     simp only [Act.put, List.setIfInBounds_toArray, List.set_cons_zero, List.set_cons_succ, i64_w, i32_w]
     rfl
    refine done_ (done_of HT_.out (by kernel_rfl)) ?_
    obtain ⟨hcz19_0, hcz19_1, hcz19_2, hcz19_3, hcz19_4, hcz19_5, hcz19_6, hcz19_7, hcz19_8⟩ := cells9 BK449.out
    obtain ⟨hfz19_0, hfz19_1, hfz19_2, hfz19_3, hfz19_4, hfz19_5, hfz19_6, hfz19_7, hfz19_8⟩ := frz9 BK449.out
    try go_wp2_with (first | ((with_reducible refine gate_callee (f := 41) rfl ?_); refine goesL_ (some 24) rfl rfl Try.func41 (by kernel_rfl) rfl #[.int .u64 (IntKind.u64.wrap ((l0_3.length : Int)))] rfl mpq ?_; (with_reducible refine (runnelref01_Bytes.calls k (IntKind.u64.wrap ((l0_3.length : Int))) t465 _ A7.out).mono ?_); rintro e w20 ⟨v466, rfl, ho0, hb⟩; refine ⟨_, rfl, ?_⟩; have n0_ := Aside0.mk (Kd.R_elder' (rp HO455.out) (Kd.R_base ho0) hb); have n1_ := Aside0.mk (Kd.R_elder' (rp HO461.out) (Kd.R_base ho0) hb); have n2_ := Aside0.mk (Kd.R_elder' (rp HO464.out) (Kd.R_base ho0) hb); have n3_ := Aside0.mk (Kd.R_lower (Kd.R_new' (Kd.R_new' (Kd.R_new' ho0 (Kd.R_lt (rp HO455.out))) (Kd.R_lt (rp HO461.out))) (Kd.R_lt (rp HO464.out))) (below_size bl)); have n4_ := Aside0.mk (blk_below (g := gb449) (o := .cells #[.int .i64 a0_0, .slice A0_1 l0_1.length c0_1, .slice A0_2 l0_2.length c0_2, .slice A0_3 l0_3.length c0_3, .slice A0_4 l0_4.length c0_4, .int .i64 a0_5, .int .i64 a0_6, .int .i64 a0_7, .int .i64 a0_8] 44 (0, 0)) bk hb); have n5_ := Aside0.mk (below_step bl hb); clear HO455; clear HO461; clear HO464; clear BK449; clear HB; have HO455 := n0_; have HO461 := n1_; have HO464 := n2_; have HO467 := n3_; have BK449 := n4_; have HB := n5_; clear n0_ n1_ n2_ n3_ n4_ n5_; (try clear hb); (try clear hb2); (try clear hk); (try clear hi); (try clear ho0); obtain ⟨Ao22, co22, eo22⟩ := Kd.R_slice HO467.out; subst eo22) | ((with_reducible refine gate_builtin (b := .append) (xs := #[.tmp 19, .tmp 24]) rfl ?_); at_builtin; refine Kd.R_append_rows (Kd.int .u8) (w0 := w) w.heap.size rfl (.tmp 19) (.tmp 24) 29 5 (.int .u8 0) 1 rfl Try.underlying29 info5 rfl (by decide) (by omega) v463 y462 t465 _ _ _ (fun k_ => some k_ ≠ (.slice Ao15 t453.length co15 : Value).ownBlock ∧ some k_ ≠ (.slice Ao18 t459.length co18 : Value).ownBlock ∧ some k_ ≠ (.slice Ao22 t465.length co22 : Value).ownBlock) (fun _ => False) rfl rfl ?aO ?aR (fun _ _ h => h) (fun _ h => h.elim) ?aF ?aB ?aS ?aL ?_; (case aR => repeat (first | exact (Kd.R_reads' HO467.out).2.2 | (with_reducible refine Kd.C_alloc ?_ _) | (with_reducible refine Kd.C_drewN ?_ _) | (with_reducible refine Kd.C_drew ?_))); (case aB => exact bl); (case aF => exact (fun k_ hk => ⟨Kd.fresh' (Kd.R_lt (rp HO455.out)) k_ hk, Kd.fresh' (Kd.R_lt (rp HO461.out)) k_ hk, Kd.fresh' (Kd.R_lt (rp HO467.out)) k_ hk⟩)); (case aO => exact (by (with_reducible repeat (first | apply Kd.R_alloc | apply Kd.R_drewN | apply Kd.R_drew)); exact Kd.R_mono HO464.out (fun _ hk => ⟨hk.1.1, ⟨hk.1.2, hk.2⟩⟩))); (case aS => exact (below_size bl)); (case aL => have := LMc8.out; omega); intro v469 w21 ho hb hg hat; rw [← Ny468.out] at ho; have n0_ := Aside0.mk (blk_grown (g := gb449) (o := .cells #[.int .i64 a0_0, .slice A0_1 l0_1.length c0_1, .slice A0_2 l0_2.length c0_2, .slice A0_3 l0_3.length c0_3, .slice A0_4 l0_4.length c0_4, .int .i64 a0_5, .int .i64 a0_6, .int .i64 a0_7, .int .i64 a0_8] 44 (0, 0)) bk hg (Kd.R_ne HO464.out BK449.out (by decide))); have n1_ := Aside0.mk (Kd.R_after (ok := (fun k_ => some k_ ≠ (.slice Ao18 t459.length co18 : Value).ownBlock ∧ some k_ ≠ (.slice Ao22 t465.length co22 : Value).ownBlock)) (by (with_reducible repeat (first | apply Kd.R_alloc | apply Kd.R_drewN | apply Kd.R_drew)); exact Kd.R_mono HO455.out (fun _ hk => ⟨⟨hk.1.1, hk.2⟩, hk.1.2⟩)) hg hat); have n2_ := Aside0.mk (Kd.R_after (ok := (fun k_ => some k_ ≠ (.slice Ao15 t453.length co15 : Value).ownBlock ∧ some k_ ≠ (.slice Ao22 t465.length co22 : Value).ownBlock)) (by (with_reducible repeat (first | apply Kd.R_alloc | apply Kd.R_drewN | apply Kd.R_drew)); exact Kd.R_mono HO461.out (fun _ hk => ⟨⟨hk.1.1, hk.2⟩, hk.1.2⟩)) hg hat); have n3_ := Aside0.mk (Kd.R_after (ok := (fun k_ => some k_ ≠ (.slice Ao15 t453.length co15 : Value).ownBlock ∧ some k_ ≠ (.slice Ao18 t459.length co18 : Value).ownBlock)) (by (with_reducible repeat (first | apply Kd.R_alloc | apply Kd.R_drewN | apply Kd.R_drew)); exact Kd.R_mono HO467.out (fun _ hk => ⟨⟨hk.1.1.2, hk.1.2⟩, hk.2⟩)) hg hat); have n4_ := Aside0.mk (hb); have n5_ := Aside0.mk (ho); clear BK449; clear HO455; clear HO461; clear HO467; clear HB; clear HO464; have BK449 := n0_; have HO455 := n1_; have HO461 := n2_; have HO467 := n3_; have HB := n4_; have HO470 := n5_; clear n0_ n1_ n2_ n3_ n4_ n5_; clear ho hb hg hat))
    go_loopg [3, 4] k (fun kq v3 v4 w' => ∃ (x3_1 : List Int) (x4_1 : Int), v4 = .int .i64 x4_1 ∧ Aside0 (runnelref17_nodeBytes.l0 kq x3_1 x4_1 a0_0 l0_1 l0_2 l0_3 l0_4 a0_5 a0_6 a0_7 a0_8 = some r) ∧ Aside0 (kq ≤ k) ∧ Aside0 (Kd.R (Kd.int .u8) 5 w' w.heap.size (fun _ => True) v3 x3_1) ∧ Aside0 (w'.heap[gb449]? = some (.cells #[.int .i64 a0_0, (.slice A0_1 l0_1.length c0_1), (.slice A0_2 l0_2.length c0_2), (.slice A0_3 l0_3.length c0_3), (.slice A0_4 l0_4.length c0_4), .int .i64 a0_5, .int .i64 a0_6, .int .i64 a0_7, .int .i64 a0_8] 44 (0, 0))) ∧ Aside0 (Below w.heap.size w w'))
    case atStart => exact ⟨(y468), (0), (by first | rfl | (simp; done) | (simp [*]; done)), H', ⟨Nat.le_refl _⟩, ⟨by (with_reducible repeat (first | apply Kd.R_alloc | apply Kd.R_drewN | apply Kd.R_drew)); exact Kd.R_mono HO470.out (fun _ hk => trivial)⟩, ⟨by (with_reducible repeat (first | refine blk_drewN ?_ _ | refine blk_drew ?_ | refine blk_alloc ?_ _)); exact BK449.out⟩, ⟨bl⟩⟩
    case round =>
     clear H'
     (try clear c4); (try clear c6); (try clear c8); (try clear hcz10_0); (try clear hcz10_1); (try clear hcz10_2); (try clear hcz10_3); (try clear hcz10_4); (try clear hcz10_5); (try clear hcz10_6); (try clear hcz10_7); (try clear hcz10_8); (try clear hcz19_0); (try clear hcz19_1); (try clear hcz19_2); (try clear hcz19_3); (try clear hcz19_4); (try clear hcz19_5); (try clear hcz19_6); (try clear hcz19_7); (try clear hcz19_8); (try clear hfz10_0); (try clear hfz10_1); (try clear hfz10_2); (try clear hfz10_3); (try clear hfz10_4); (try clear hfz10_5); (try clear hfz10_6); (try clear hfz10_7); (try clear hfz10_8); (try clear hfz19_0); (try clear hfz19_1); (try clear hfz19_2); (try clear hfz19_3); (try clear hfz19_4); (try clear hfz19_5); (try clear hfz19_6); (try clear hfz19_7); (try clear hfz19_8)
     obtain ⟨x3_1, x4_1, rfl, HA, HK1, HO_3, BK449, HB⟩ := hrel
     cases gk with
     | zero => exact absurd HA.out (by simp [runnelref17_nodeBytes.l0])
     | succ k1 =>
      have H := HA.out
      clear HA
      simp only [runnelref17_nodeBytes.l0] at H
      by_cases c23 : x4_1 < (l0_3.length : Int)
      ·
       rw [if_pos c23] at H
       have c23b0 : decide (x4_1 < (l0_3.length : Int)) = true := decide_eq_true c23
       clear c23
       by_cases c24 : 0 ≤ x4_1
       ·
        rw [if_pos c24] at H
        have c24b0 : decide (0 ≤ x4_1) = true := decide_eq_true c24
        clear c24
        replace H := Option.bind_eq_some_iff.mp H
        obtain ⟨t472, A250, H⟩ := H
        replace H : (if x3_1.length + t472.length < 140737488355328 then (runnelref17_nodeBytes.l1 k1 (x3_1 ++ t472) x4_1 0 a0_0 l0_1 l0_2 l0_3 l0_4 a0_5 a0_6 a0_7 a0_8) else (none)) = some r := H
        have A25 := Aside0.mk A250
        clear A250
        by_cases c26 : x3_1.length + t472.length < 140737488355328
        ·
         rw [if_pos c26] at H
         have LMc26 := Aside0.mk c26
         clear c26
         obtain ⟨y475, hy475⟩ : ∃ y_ : List Int, y_ = (x3_1 ++ t472) := ⟨_, rfl⟩
         replace H : (runnelref17_nodeBytes.l1 k1 y475 x4_1 0 a0_0 l0_1 l0_2 l0_3 l0_4 a0_5 a0_6 a0_7 a0_8) = some r := by first | (rw [hy475]; with_reducible exact H) | (have H2_ := (Option.bind_some _ _).symm.trans H; rw [hy475]; with_reducible exact H2_) | (have H2_ := (Option.bind_some _ _).symm.trans H; with_reducible exact H2_) | with_reducible exact H | (rw [hy475]; exact H) | exact H
         have Ny475 := Aside0.mk hy475
         clear hy475
         have H' := Aside0.mk H
         clear H
         obtain ⟨hcz27_0, hcz27_1, hcz27_2, hcz27_3, hcz27_4, hcz27_5, hcz27_6, hcz27_7, hcz27_8⟩ := cells9 BK449.out
         obtain ⟨hfz27_0, hfz27_1, hfz27_2, hfz27_3, hfz27_4, hfz27_5, hfz27_6, hfz27_7, hfz27_8⟩ := frz9 BK449.out
         have p471 : 0 ≤ (x4_1 : Int) := of_decide_eq_true (by first | (with_reducible assumption) | assumption)
         have q471 : x4_1 < (l0_3.length : Int) := of_decide_eq_true (by first | (with_reducible assumption) | assumption)
         obtain ⟨ad471, A471_0, c471_0, e471, hx471_0, hl471_0, hi471_0⟩ := at_L4 HR0_3.out x4_1 p471 q471
         cases e471
         replace hx471_0 := bc HB.out hx471_0
         have HR471_0 := Aside0.mk hi471_0
         have HC471_0 := Aside0.mk hl471_0
         clear hi471_0 hl471_0
         replace p471 := eq_true p471
         replace q471 := eq_true q471
         go_wp2_with (first | ((with_reducible refine gate_callee (f := 41) rfl ?_); refine goesL_ (some 41) rfl rfl Try.func41 (by kernel_rfl) rfl #[.int .u64 (IntKind.u64.wrap (((rd_L4 l0_3 x4_1).length : Int)))] rfl mpq ?_; (with_reducible refine (runnelref01_Bytes.calls k1 (IntKind.u64.wrap (((rd_L4 l0_3 x4_1).length : Int))) t472 _ A25.out).mono ?_); rintro e w28 ⟨v473, rfl, ho0, hb⟩; refine ⟨_, rfl, ?_⟩; have n0_ := Aside0.mk (Kd.R_elder' (rp HO_3.out) (Kd.R_base ho0) hb); have n1_ := Aside0.mk (Kd.R_lower (Kd.R_new' ho0 (Kd.R_lt (rp HO_3.out))) (below_size bl)); have n2_ := Aside0.mk (blk_below (g := gb449) (o := .cells #[.int .i64 a0_0, .slice A0_1 l0_1.length c0_1, .slice A0_2 l0_2.length c0_2, .slice (some ad471) l0_3.length c0_3, .slice A0_4 l0_4.length c0_4, .int .i64 a0_5, .int .i64 a0_6, .int .i64 a0_7, .int .i64 a0_8] 44 (0, 0)) bk hb); have n3_ := Aside0.mk (below_step bl hb); clear HO_3; clear BK449; clear HB; have HO_3 := n0_; have HO474 := n1_; have BK449 := n2_; have HB := n3_; clear n0_ n1_ n2_ n3_; (try clear hb); (try clear hb2); (try clear hk); (try clear hi); (try clear ho0); obtain ⟨Ao30, co30, eo30⟩ := Kd.R_slice HO474.out; subst eo30) | ((with_reducible refine gate_builtin (b := .append) (xs := #[.tmp 33, .tmp 41]) rfl ?_); at_builtin; refine Kd.R_append_rows (Kd.int .u8) (w0 := w) w.heap.size rfl (.tmp 33) (.tmp 41) 29 5 (.int .u8 0) 1 rfl Try.underlying29 info5 rfl (by decide) (by omega) u3 x3_1 t472 _ _ _ (fun k_ => some k_ ≠ (.slice Ao30 t472.length co30 : Value).ownBlock) (fun _ => False) rfl rfl ?aO ?aR (fun _ _ h => h) (fun _ h => h.elim) ?aF ?aB ?aS ?aL ?_; (case aR => repeat (first | exact (Kd.R_reads' HO474.out).2.2 | (with_reducible refine Kd.C_alloc ?_ _) | (with_reducible refine Kd.C_drewN ?_ _) | (with_reducible refine Kd.C_drew ?_))); (case aB => exact bl); (case aF => exact (fun k_ hk => Kd.fresh' (Kd.R_lt (rp HO474.out)) k_ hk)); (case aO => exact (rp (Kd.R_mono HO_3.out (fun _ hk => hk.2)))); (case aS => exact (below_size bl)); (case aL => have := LMc26.out; omega); intro v476 w29 ho hb hg hat; rw [← Ny475.out] at ho; have n0_ := Aside0.mk (blk_grown (g := gb449) (o := .cells #[.int .i64 a0_0, .slice A0_1 l0_1.length c0_1, .slice A0_2 l0_2.length c0_2, .slice (some ad471) l0_3.length c0_3, .slice A0_4 l0_4.length c0_4, .int .i64 a0_5, .int .i64 a0_6, .int .i64 a0_7, .int .i64 a0_8] 44 (0, 0)) bk hg (Kd.R_ne HO_3.out BK449.out (by decide))); have n1_ := Aside0.mk (Kd.R_after (ok := (fun _ => True)) (rp HO474.out) hg hat); have n2_ := Aside0.mk (hb); have n3_ := Aside0.mk (ho); clear BK449; clear HO474; clear HB; clear HO_3; have BK449 := n0_; have HO474 := n1_; have HB := n2_; have HO477 := n3_; clear n0_ n1_ n2_ n3_; clear ho hb hg hat))
         go_loopg [3, 5] k1 (fun kq v3 v5 w' => ∃ (x3_2 : List Int) (x5_2 : Int), v5 = .int .i64 x5_2 ∧ Aside0 (runnelref17_nodeBytes.l1 kq x3_2 x4_1 x5_2 a0_0 l0_1 l0_2 l0_3 l0_4 a0_5 a0_6 a0_7 a0_8 = some r) ∧ Aside0 (kq ≤ k1) ∧ Aside0 (Kd.R (Kd.int .u8) 5 w' w.heap.size (fun _ => True) v3 x3_2) ∧ Aside0 (w'.heap[gb449]? = some (.cells #[.int .i64 a0_0, (.slice A0_1 l0_1.length c0_1), (.slice A0_2 l0_2.length c0_2), (.slice (some ad471) l0_3.length c0_3), (.slice A0_4 l0_4.length c0_4), .int .i64 a0_5, .int .i64 a0_6, .int .i64 a0_7, .int .i64 a0_8] 44 (0, 0))) ∧ Aside0 (Below w.heap.size w w'))
         case atStart => exact ⟨(y475), (0), (by first | rfl | (simp; done) | (simp [*]; done)), H', ⟨Nat.le_refl _⟩, ⟨by (with_reducible repeat (first | apply Kd.R_alloc | apply Kd.R_drewN | apply Kd.R_drew)); exact Kd.R_mono HO477.out (fun _ hk => trivial)⟩, ⟨by (with_reducible repeat (first | refine blk_drewN ?_ _ | refine blk_drew ?_ | refine blk_alloc ?_ _)); exact BK449.out⟩, ⟨bl⟩⟩
         case round =>
          clear H'
          (try clear c4); (try clear c6); (try clear c8); (try clear c23); (try clear c23b0); (try clear c24); (try clear c24b0); (try clear c26); (try clear hcz10_0); (try clear hcz10_1); (try clear hcz10_2); (try clear hcz10_3); (try clear hcz10_4); (try clear hcz10_5); (try clear hcz10_6); (try clear hcz10_7); (try clear hcz10_8); (try clear hcz19_0); (try clear hcz19_1); (try clear hcz19_2); (try clear hcz19_3); (try clear hcz19_4); (try clear hcz19_5); (try clear hcz19_6); (try clear hcz19_7); (try clear hcz19_8); (try clear hcz27_0); (try clear hcz27_1); (try clear hcz27_2); (try clear hcz27_3); (try clear hcz27_4); (try clear hcz27_5); (try clear hcz27_6); (try clear hcz27_7); (try clear hcz27_8); (try clear hfz10_0); (try clear hfz10_1); (try clear hfz10_2); (try clear hfz10_3); (try clear hfz10_4); (try clear hfz10_5); (try clear hfz10_6); (try clear hfz10_7); (try clear hfz10_8); (try clear hfz19_0); (try clear hfz19_1); (try clear hfz19_2); (try clear hfz19_3); (try clear hfz19_4); (try clear hfz19_5); (try clear hfz19_6); (try clear hfz19_7); (try clear hfz19_8); (try clear hfz27_0); (try clear hfz27_1); (try clear hfz27_2); (try clear hfz27_3); (try clear hfz27_4); (try clear hfz27_5); (try clear hfz27_6); (try clear hfz27_7); (try clear hfz27_8); (try clear hx471_0); (try clear p471); (try clear q471)
          obtain ⟨x3_2, x5_2, rfl, HA, HK2, HO_3, BK449, HB⟩ := hrel
          cases gk with
          | zero => exact absurd HA.out (by simp [runnelref17_nodeBytes.l1])
          | succ k2 =>
           have H := HA.out
           clear HA
           simp only [runnelref17_nodeBytes.l1] at H
           by_cases c31 : 0 ≤ x4_1
           ·
            rw [if_pos c31] at H
            have c31b0 : decide (0 ≤ x4_1) = true := decide_eq_true c31
            clear c31
            by_cases c32 : x4_1 < (l0_3.length : Int)
            ·
             rw [if_pos c32] at H
             have c32b0 : decide (x4_1 < (l0_3.length : Int)) = true := decide_eq_true c32
             clear c32
             by_cases c33 : x5_2 < ((rd_L4 l0_3 x4_1).length : Int)
             ·
              rw [if_pos c33] at H
              have c33b0 : decide (x5_2 < ((rd_L4 l0_3 x4_1).length : Int)) = true := decide_eq_true c33
              clear c33
              by_cases c34 : 0 ≤ x5_2
              ·
               rw [if_pos c34] at H
               have c34b0 : decide (0 ≤ x5_2) = true := decide_eq_true c34
               clear c34
               replace H := Option.bind_eq_some_iff.mp H
               obtain ⟨t482, A350, H⟩ := H
               replace H : (if x3_2.length + t482.length < 140737488355328 then ((some (x3_2 ++ t482 : List Int)).bind fun y485 => ((runnelref17_one.f k2 ((rd_T52 (rd_L4 l0_3 x4_1) x5_2).f1)).bind fun t488 => (if y485.length + t488.length < 140737488355328 then ((some (y485 ++ t488 : List Int)).bind fun y491 => ((runnelref01_Text.f k2 ((rd_T52 (rd_L4 l0_3 x4_1) x5_2).f2)).bind fun t494 => (if y491.length + t494.length < 140737488355328 then (runnelref17_nodeBytes.l1 k2 (y491 ++ t494) x4_1 (wrap64 (x5_2 + 1)) a0_0 l0_1 l0_2 l0_3 l0_4 a0_5 a0_6 a0_7 a0_8) else (none)))) else (none)))) else (none)) = some r := H
               have A35 := Aside0.mk A350
               clear A350
               by_cases c36 : x3_2.length + t482.length < 140737488355328
               ·
                rw [if_pos c36] at H
                have LMc36 := Aside0.mk c36
                clear c36
                obtain ⟨y485, hy485⟩ : ∃ y_ : List Int, y_ = (x3_2 ++ t482) := ⟨_, rfl⟩
                replace H : ((runnelref17_one.f k2 ((rd_T52 (rd_L4 l0_3 x4_1) x5_2).f1)).bind fun t488 => (if y485.length + t488.length < 140737488355328 then ((some (y485 ++ t488 : List Int)).bind fun y491 => ((runnelref01_Text.f k2 ((rd_T52 (rd_L4 l0_3 x4_1) x5_2).f2)).bind fun t494 => (if y491.length + t494.length < 140737488355328 then (runnelref17_nodeBytes.l1 k2 (y491 ++ t494) x4_1 (wrap64 (x5_2 + 1)) a0_0 l0_1 l0_2 l0_3 l0_4 a0_5 a0_6 a0_7 a0_8) else (none)))) else (none))) = some r := by first | (rw [hy485]; with_reducible exact H) | (have H2_ := (Option.bind_some _ _).symm.trans H; rw [hy485]; with_reducible exact H2_) | (have H2_ := (Option.bind_some _ _).symm.trans H; with_reducible exact H2_) | with_reducible exact H | (rw [hy485]; exact H) | exact H
                have Ny485 := Aside0.mk hy485
                clear hy485
                replace H := Option.bind_eq_some_iff.mp H
                obtain ⟨t488, A370, H⟩ := H
                replace H : (if y485.length + t488.length < 140737488355328 then ((some (y485 ++ t488 : List Int)).bind fun y491 => ((runnelref01_Text.f k2 ((rd_T52 (rd_L4 l0_3 x4_1) x5_2).f2)).bind fun t494 => (if y491.length + t494.length < 140737488355328 then (runnelref17_nodeBytes.l1 k2 (y491 ++ t494) x4_1 (wrap64 (x5_2 + 1)) a0_0 l0_1 l0_2 l0_3 l0_4 a0_5 a0_6 a0_7 a0_8) else (none)))) else (none)) = some r := H
                have A37 := Aside0.mk A370
                clear A370
                by_cases c38 : y485.length + t488.length < 140737488355328
                ·
                 rw [if_pos c38] at H
                 have LMc38 := Aside0.mk c38
                 clear c38
                 obtain ⟨y491, hy491⟩ : ∃ y_ : List Int, y_ = (y485 ++ t488) := ⟨_, rfl⟩
                 replace H : ((runnelref01_Text.f k2 ((rd_T52 (rd_L4 l0_3 x4_1) x5_2).f2)).bind fun t494 => (if y491.length + t494.length < 140737488355328 then (runnelref17_nodeBytes.l1 k2 (y491 ++ t494) x4_1 (wrap64 (x5_2 + 1)) a0_0 l0_1 l0_2 l0_3 l0_4 a0_5 a0_6 a0_7 a0_8) else (none))) = some r := by first | (rw [hy491]; with_reducible exact H) | (have H2_ := (Option.bind_some _ _).symm.trans H; rw [hy491]; with_reducible exact H2_) | (have H2_ := (Option.bind_some _ _).symm.trans H; with_reducible exact H2_) | with_reducible exact H | (rw [hy491]; exact H) | exact H
                 have Ny491 := Aside0.mk hy491
                 clear hy491
                 replace H := Option.bind_eq_some_iff.mp H
                 obtain ⟨t494, A390, H⟩ := H
                 replace H : (if y491.length + t494.length < 140737488355328 then (runnelref17_nodeBytes.l1 k2 (y491 ++ t494) x4_1 (wrap64 (x5_2 + 1)) a0_0 l0_1 l0_2 l0_3 l0_4 a0_5 a0_6 a0_7 a0_8) else (none)) = some r := H
                 have A39 := Aside0.mk A390
                 clear A390
                 by_cases c40 : y491.length + t494.length < 140737488355328
                 ·
                  rw [if_pos c40] at H
                  have LMc40 := Aside0.mk c40
                  clear c40
                  obtain ⟨y497, hy497⟩ : ∃ y_ : List Int, y_ = (y491 ++ t494) := ⟨_, rfl⟩
                  replace H : (runnelref17_nodeBytes.l1 k2 y497 x4_1 (wrap64 (x5_2 + 1)) a0_0 l0_1 l0_2 l0_3 l0_4 a0_5 a0_6 a0_7 a0_8) = some r := by first | (rw [hy497]; with_reducible exact H) | (have H2_ := (Option.bind_some _ _).symm.trans H; rw [hy497]; with_reducible exact H2_) | (have H2_ := (Option.bind_some _ _).symm.trans H; with_reducible exact H2_) | with_reducible exact H | (rw [hy497]; exact H) | exact H
                  have Ny497 := Aside0.mk hy497
                  clear hy497
                  have H' := Aside0.mk H
                  clear H
                  obtain ⟨hcz41_0, hcz41_1, hcz41_2, hcz41_3, hcz41_4, hcz41_5, hcz41_6, hcz41_7, hcz41_8⟩ := cells9 BK449.out
                  obtain ⟨hfz41_0, hfz41_1, hfz41_2, hfz41_3, hfz41_4, hfz41_5, hfz41_6, hfz41_7, hfz41_8⟩ := frz9 BK449.out
                  have p478 : 0 ≤ (x4_1 : Int) := of_decide_eq_true (by first | (with_reducible assumption) | assumption)
                  have q478 : x4_1 < (l0_3.length : Int) := of_decide_eq_true (by first | (with_reducible assumption) | assumption)
                  obtain ⟨ad478, A478_0, c478_0, e478, hx478_0, hl478_0, hi478_0⟩ := at_L4 HR0_3.out x4_1 p478 q478
                  obtain rfl : ad471 = ad478 := (by injection e478)
                  replace hx478_0 := bc HB.out hx478_0
                  have HR478_0 := Aside0.mk hi478_0
                  have HC478_0 := Aside0.mk hl478_0
                  clear hi478_0 hl478_0
                  replace p478 := eq_true p478
                  replace q478 := eq_true q478
                  have p479 : 0 ≤ (x4_1 : Int) := of_decide_eq_true (by first | (with_reducible assumption) | assumption)
                  have q479 : x4_1 < (l0_3.length : Int) := of_decide_eq_true (by first | (with_reducible assumption) | assumption)
                  obtain ⟨ad479, A479_0, c479_0, e479, hx479_0, hl479_0, hi479_0⟩ := at_L4 HR0_3.out x4_1 p479 q479
                  obtain rfl : ad471 = ad479 := (by injection e479)
                  replace hx479_0 := bc HB.out hx479_0
                  have HR479_0 := Aside0.mk hi479_0
                  have HC479_0 := Aside0.mk hl479_0
                  clear hi479_0 hl479_0
                  replace p479 := eq_true p479
                  replace q479 := eq_true q479
                  have ea_ := Option.some.inj (hx478_0.symm.trans hx479_0)
                  injection ea_ with ea_ en_ ec_
                  subst ea_
                  subst ec_
                  clear en_
                  have p480 : 0 ≤ (x5_2 : Int) := of_decide_eq_true (by first | (with_reducible assumption) | assumption)
                  have q480 : x5_2 < ((rd_L4 l0_3 x4_1).length : Int) := of_decide_eq_true (by first | (with_reducible assumption) | assumption)
                  obtain ⟨ad480, e480, hx480_0, hx480_1, hx480_2⟩ := at_T52 HR479_0.out x5_2 p480 q480
                  cases e480
                  replace hx480_0 := bc HB.out hx480_0
                  replace hx480_1 := bc HB.out hx480_1
                  replace hx480_2 := bc HB.out hx480_2
                  replace p480 := eq_true p480
                  replace q480 := eq_true q480
                  try go_wp2_with (first | ((with_reducible refine gate_dst (N := 6) rfl ?_); refine box_event ?hg (N := 6) ?hd (cs := #[.int .i64 0, .int .i64 0, .string (⟨#[]⟩ : ByteArray)]) (t := 52) ?hr ?_; (case hd => rfl); (case hg => rfl); (case hr => first | (go_simp; done) | (go_simp; rfl)); intro gb481 hg w42 hbox hb; have n0_ := Aside0.mk (Kd.R_below (rp HO_3.out) hb); have n1_ := Aside0.mk (blk_below (g := gb449) (o := .cells #[.int .i64 a0_0, .slice A0_1 l0_1.length c0_1, .slice A0_2 l0_2.length c0_2, .slice (some ad471) l0_3.length c0_3, .slice A0_4 l0_4.length c0_4, .int .i64 a0_5, .int .i64 a0_6, .int .i64 a0_7, .int .i64 a0_8] 44 (0, 0)) bk hb); have n2_ := Aside0.mk (below_step bl hb); have n3_ := Aside0.mk (hbox); have n4_ := Aside0.mk ((by rw [hg]; exact (below_size bl) : w.heap.size ≤ gb481)); have n5_ := Aside0.mk ((by rw [hg]; exact (below_size bl) : w.heap.size ≤ gb481)); have n6_ := Aside0.mk ((by rw [hg]; exact Nat.ne_of_lt blt : gb449 ≠ gb481)); have n7_ := Aside0.mk ((by rw [hg]; exact Nat.ne_of_gt blt : gb481 ≠ gb449)); clear HO_3; clear BK449; clear HB; have HO_3 := n0_; have BK449 := n1_; have HB := n2_; have BK481 := n3_; have GW481 := n4_; have GE481 := n5_; have NB449_481 := n6_; have NB481_449 := n7_; clear n0_ n1_ n2_ n3_ n4_ n5_ n6_ n7_; clear hb hbox hg; have hnb43 := NB481_449.out; have hnc43 := NB449_481.out; obtain ⟨hcz44_0, hcz44_1, hcz44_2⟩ := cells3 BK481.out; obtain ⟨hfz44_0, hfz44_1, hfz44_2⟩ := frz3 BK481.out))
                  have n0_ : Aside0 (Kd.R (Kd.int .u8) 5 (((w42.setCell ⟨gb481, 0, none⟩ (.int .i64 ((rd_T52 (rd_L4 l0_3 x4_1) x5_2).f0))).setCell ⟨gb481, 1, none⟩ (.int .i64 ((rd_T52 (rd_L4 l0_3 x4_1) x5_2).f1))).setCell ⟨gb481, 2, none⟩ (.string ((rd_T52 (rd_L4 l0_3 x4_1) x5_2).f2))) w.heap.size (fun _ => True) u3 x3_2) := ⟨by (with_reducible repeat (first | apply Kd.R_alloc | apply Kd.R_drewN | apply Kd.R_drew)); exact Kd.R_mono (Kd.R_far (p := ⟨gb481, 2, none⟩) (Kd.R_far (p := ⟨gb481, 1, none⟩) (Kd.R_far (p := ⟨gb481, 0, none⟩) (Kd.R_types HO_3.out BK481.out (by decide)) (fun _ hk => hk.2) (.int .i64 ((rd_T52 (rd_L4 l0_3 x4_1) x5_2).f0))) (fun _ hk => hk.2) (.int .i64 ((rd_T52 (rd_L4 l0_3 x4_1) x5_2).f1))) (fun _ hk => hk.2) (.string ((rd_T52 (rd_L4 l0_3 x4_1) x5_2).f2))) (fun _ hk => trivial)⟩
                  have n1_ : Aside0 ((((w42.setCell ⟨gb481, 0, none⟩ (.int .i64 ((rd_T52 (rd_L4 l0_3 x4_1) x5_2).f0))).setCell ⟨gb481, 1, none⟩ (.int .i64 ((rd_T52 (rd_L4 l0_3 x4_1) x5_2).f1))).setCell ⟨gb481, 2, none⟩ (.string ((rd_T52 (rd_L4 l0_3 x4_1) x5_2).f2))).heap[gb449]? = some (.cells #[.int .i64 a0_0, .slice A0_1 l0_1.length c0_1, .slice A0_2 l0_2.length c0_2, .slice (some ad471) l0_3.length c0_3, .slice A0_4 l0_4.length c0_4, .int .i64 a0_5, .int .i64 a0_6, .int .i64 a0_7, .int .i64 a0_8] 44 (0, 0))) := ⟨by (iterate 3 ((with_reducible repeat (first | refine blk_drewN ?_ _ | refine blk_drew ?_ | refine blk_alloc ?_ _)); refine blk_far ?_ NB449_481.out _)); (with_reducible repeat (first | refine blk_drewN ?_ _ | refine blk_drew ?_ | refine blk_alloc ?_ _)); exact BK449.out⟩
                  have n2_ : Aside0 ((((w42.setCell ⟨gb481, 0, none⟩ (.int .i64 ((rd_T52 (rd_L4 l0_3 x4_1) x5_2).f0))).setCell ⟨gb481, 1, none⟩ (.int .i64 ((rd_T52 (rd_L4 l0_3 x4_1) x5_2).f1))).setCell ⟨gb481, 2, none⟩ (.string ((rd_T52 (rd_L4 l0_3 x4_1) x5_2).f2))).heap[gb481]? = some (.cells #[.int .i64 ((rd_T52 (rd_L4 l0_3 x4_1) x5_2).f0), .int .i64 ((rd_T52 (rd_L4 l0_3 x4_1) x5_2).f1), .string ((rd_T52 (rd_L4 l0_3 x4_1) x5_2).f2)] 52 (0, 0))) := ⟨by (with_reducible repeat (first | refine blk_drewN ?_ _ | refine blk_drew ?_ | refine blk_alloc ?_ _)); refine blk_put (cs := #[.int .i64 ((rd_T52 (rd_L4 l0_3 x4_1) x5_2).f0), .int .i64 ((rd_T52 (rd_L4 l0_3 x4_1) x5_2).f1), .string (⟨#[]⟩ : ByteArray)]) ?_ 2 _ rfl; (with_reducible repeat (first | refine blk_drewN ?_ _ | refine blk_drew ?_ | refine blk_alloc ?_ _)); refine blk_put (cs := #[.int .i64 ((rd_T52 (rd_L4 l0_3 x4_1) x5_2).f0), .int .i64 0, .string (⟨#[]⟩ : ByteArray)]) ?_ 1 _ rfl; (with_reducible repeat (first | refine blk_drewN ?_ _ | refine blk_drew ?_ | refine blk_alloc ?_ _)); refine blk_put (cs := #[.int .i64 0, .int .i64 0, .string (⟨#[]⟩ : ByteArray)]) ?_ 0 _ rfl; (with_reducible repeat (first | refine blk_drewN ?_ _ | refine blk_drew ?_ | refine blk_alloc ?_ _)); exact BK481.out⟩
                  have n3_ : Aside0 (Below w.heap.size w (((w42.setCell ⟨gb481, 0, none⟩ (.int .i64 ((rd_T52 (rd_L4 l0_3 x4_1) x5_2).f0))).setCell ⟨gb481, 1, none⟩ (.int .i64 ((rd_T52 (rd_L4 l0_3 x4_1) x5_2).f1))).setCell ⟨gb481, 2, none⟩ (.string ((rd_T52 (rd_L4 l0_3 x4_1) x5_2).f2)))) := ⟨bl⟩
                  (try clear HO_3)
                  (try clear BK449)
                  (try clear BK481)
                  (try clear HB)
                  generalize (((w42.setCell ⟨gb481, 0, none⟩ (.int .i64 ((rd_T52 (rd_L4 l0_3 x4_1) x5_2).f0))).setCell ⟨gb481, 1, none⟩ (.int .i64 ((rd_T52 (rd_L4 l0_3 x4_1) x5_2).f1))).setCell ⟨gb481, 2, none⟩ (.string ((rd_T52 (rd_L4 l0_3 x4_1) x5_2).f2))) = w45 at n0_ n1_ n2_ n3_ ⊢
                  have HO_3 := n0_
                  have BK449 := n1_
                  have BK481 := n2_
                  have HB := n3_
                  clear n0_ n1_ n2_ n3_
                  have n0_ := Aside0.mk (Kd.R_drew HO_3.out)
                  have n1_ := Aside0.mk (blk_drew BK449.out)
                  have n2_ := Aside0.mk (blk_drew BK481.out)
                  have n3_ := Aside0.mk (below_drew1 HB.out)
                  clear HO_3
                  clear BK449
                  clear BK481
                  clear HB
                  have HO_3 := n0_
                  have BK449 := n1_
                  have BK481 := n2_
                  have HB := n3_
                  clear n0_ n1_ n2_ n3_
                  refine start_ (n := 14) (S := fun w' => w'.cell? ⟨gb481, 0, none⟩ = some (.int .i64 ((rd_T52 (rd_L4 l0_3 x4_1) x5_2).f0)) ∧ w'.cell? ⟨gb481, 1, none⟩ = some (.int .i64 ((rd_T52 (rd_L4 l0_3 x4_1) x5_2).f1)) ∧ w'.cell? ⟨gb481, 2, none⟩ = some (.string ((rd_T52 (rd_L4 l0_3 x4_1) x5_2).f2))) (ds := []) #[false, false, false, false, false, false, false, false, false, false, false, false, false, false] (by kernel_rfl) rfl rfl ⟨(blk_cell BK481.out 0).trans rfl, (blk_cell BK481.out 1).trans rfl, (blk_cell BK481.out 2).trans rfl⟩ (fun hHeld => ?_); refine with_tabW runnelref17_nodeBytes.tab12 runnelref17_nodeBytes.bits12 (fun HT_ HW_ => ?_)
                  generalize w45.drew = w46 at HO_3 BK449 BK481 HB hHeld ⊢
                  refine pure_ (i := 0) (N := some 61) (v := ?_) (a' := ?_) #[true, false, false, false, false, false, false, false, false, false, false, false, false, false] rfl rfl (any_of HT_.out (by kernel_rfl)) (fun _ _ _ h => h) (Or.inl ⟨by rfl, ?_⟩) ?_ ?_
                  rotate_left
                  ·
                   intro w'
                   go_simp
                   with_reducible rfl
                  rotate_left
                  ·
                   simp only [Act.put, List.setIfInBounds_toArray, List.set_cons_zero, List.set_cons_succ, i64_w, i32_w]
                   rfl
                  refine pure_ (i := 1) (N := some 62) (v := ?_) (a' := ?_) #[true, true, false, false, false, false, false, false, false, false, false, false, false, false] rfl rfl (any_of HT_.out (by kernel_rfl)) (fun _ _ _ h => h) (Or.inl ⟨by rfl, ?_⟩) ?_ ?_
                  rotate_left
                  ·
                   intro w'
                   go_simp
                   with_reducible rfl
                  rotate_left
                  ·
                   simp only [Act.put, List.setIfInBounds_toArray, List.set_cons_zero, List.set_cons_succ, i64_w, i32_w]
                   rfl
                  refine pure_ (i := 5) (N := some 66) (v := ?_) (a' := ?_) #[true, true, false, false, false, true, false, false, false, false, false, false, false, false] rfl rfl (any_of HT_.out (by kernel_rfl)) (fun _ _ _ h => h) (Or.inl ⟨by rfl, ?_⟩) ?_ ?_
                  rotate_left
                  ·
                   intro w'
                   go_simp
                   with_reducible rfl
                  rotate_left
                  ·
                   simp only [Act.put, List.setIfInBounds_toArray, List.set_cons_zero, List.set_cons_succ, i64_w, i32_w]
                   rfl
                  refine pure_ (i := 9) (N := some 70) (v := ?_) (a' := ?_) #[true, true, false, false, false, true, false, false, false, true, false, false, false, false] rfl rfl (any_of HT_.out (by kernel_rfl)) (fun _ _ _ h => h) (Or.inl ⟨by rfl, ?_⟩) ?_ ?_
                  rotate_left
                  ·
                   intro w'
                   go_simp
                   with_reducible rfl
                  rotate_left
                  ·
                   simp only [Act.put, List.setIfInBounds_toArray, List.set_cons_zero, List.set_cons_succ, i64_w, i32_w]
                   rfl
                  refine take_ (i := 2) (N := some 63) (v := ?_) (a' := ?_) #[true, true, true, false, false, true, false, false, false, true, false, false, false, false] rfl rfl (take_ofW HT_.out HW_.out (by kernel_rfl)) (fun _ _ _ h => h) (Or.inl ⟨by rfl, ?_⟩) hHeld ?_ ?_
                  rotate_left
                  ·
                   rintro w' ⟨s0, s1, s2⟩
                   go_simp
                   with_reducible rfl
                  rotate_left
                  ·
                   simp only [Act.put, List.setIfInBounds_toArray, List.set_cons_zero, List.set_cons_succ, i64_w, i32_w]
                   rfl
                  refine take_ (i := 6) (N := some 67) (v := ?_) (a' := ?_) #[true, true, true, false, false, true, true, false, false, true, false, false, false, false] rfl rfl (take_ofW HT_.out HW_.out (by kernel_rfl)) (fun _ _ _ h => h) (Or.inl ⟨by rfl, ?_⟩) hHeld ?_ ?_
                  rotate_left
                  ·
                   rintro w' ⟨s0, s1, s2⟩
                   go_simp
                   with_reducible rfl
                  rotate_left
                  ·
                   simp only [Act.put, List.setIfInBounds_toArray, List.set_cons_zero, List.set_cons_succ, i64_w, i32_w]
                   rfl
                  refine take_ (i := 10) (N := some 71) (v := ?_) (a' := ?_) #[true, true, true, false, false, true, true, false, false, true, true, false, false, false] rfl rfl (take_ofW HT_.out HW_.out (by kernel_rfl)) (fun _ _ _ h => h) (Or.inl ⟨by rfl, ?_⟩) hHeld ?_ ?_
                  rotate_left
                  ·
                   rintro w' ⟨s0, s1, s2⟩
                   go_simp
                   with_reducible rfl
                  rotate_left
                  ·
                   simp only [Act.put, List.setIfInBounds_toArray, List.set_cons_zero, List.set_cons_succ, i64_w, i32_w]
                   rfl
                  refine one_ (i := 3) (N := some 64) #[true, true, true, true, false, true, true, false, false, true, true, false, false, false] rfl rfl (one_of HT_.out (by kernel_rfl)) (by decide) (fun K hK => ?_)
                  refine goes_ Try.func39 (by kernel_rfl) rfl #[.int .i64 ((rd_T52 (rd_L4 l0_3 x4_1) x5_2).f0)] (by rfl) rfl rfl mpq ?_
                  with_reducible refine (runnelref17_one.calls k2 ((rd_T52 (rd_L4 l0_3 x4_1) x5_2).f0) t482 _ A35.out).mono ?_
                  rintro e w47 ⟨v483, rfl, ho0, hb⟩
                  refine ⟨_, rfl, ?_⟩
                  have n0_ := Aside0.mk (Kd.R_elder' (rp HO_3.out) (Kd.R_base ho0) hb)
                  have n1_ := Aside0.mk (Kd.R_lower (Kd.R_new' ho0 (Kd.R_lt (rp HO_3.out))) (below_size bl))
                  have n2_ := Aside0.mk (blk_below (g := gb449) (o := .cells #[.int .i64 a0_0, .slice A0_1 l0_1.length c0_1, .slice A0_2 l0_2.length c0_2, .slice (some ad471) l0_3.length c0_3, .slice A0_4 l0_4.length c0_4, .int .i64 a0_5, .int .i64 a0_6, .int .i64 a0_7, .int .i64 a0_8] 44 (0, 0)) bk hb)
                  have n3_ := Aside0.mk (blk_below (g := gb481) (o := .cells #[.int .i64 ((rd_T52 (rd_L4 l0_3 x4_1) x5_2).f0), .int .i64 ((rd_T52 (rd_L4 l0_3 x4_1) x5_2).f1), .string ((rd_T52 (rd_L4 l0_3 x4_1) x5_2).f2)] 52 (0, 0)) bk hb)
                  have n4_ := Aside0.mk (below_step bl hb)
                  clear HO_3
                  clear BK449
                  clear BK481
                  clear HB
                  have HO_3 := n0_
                  have HO484 := n1_
                  have BK449 := n2_
                  have BK481 := n3_
                  have HB := n4_
                  clear n0_ n1_ n2_ n3_ n4_
                  (try clear hb)
                  (try clear hb2)
                  (try clear hk)
                  (try clear hi)
                  (try clear ho0)
                  obtain ⟨Ao49, co49, eo49⟩ := Kd.R_slice HO484.out
                  (first | subst eo49 | (injection eo49 with f1_ f2_ f3_; have f4_ := f1_.symm; have f5_ := f3_.symm; clear f1_ f2_ f3_; subst f4_; subst f5_))
                  refine hK.out _ _ ⟨(blk_cell BK481.out 0).trans rfl, (blk_cell BK481.out 1).trans rfl, (blk_cell BK481.out 2).trans rfl⟩ (fun hHeld => ?_)
                  clear hK K
                  refine norm_ (a' := ?_) ?_ ?_
                  rotate_left
                  ·
                   show Act.put _ (some 64) _ = _
                   simp only [Act.put, List.setIfInBounds_toArray, List.set_cons_zero, List.set_cons_succ, i64_w, i32_w]
                   rfl
                  refine one_ (i := 4) (N := some 65) #[true, true, true, true, true, true, true, false, false, true, true, false, false, false] rfl rfl (one_of HT_.out (by kernel_rfl)) (by decide) (fun K hK => ?_)
                  refine Kd.R_append_rows_step (Kd.int .u8) (w0 := w) w.heap.size (by rfl) (.tmp 61) (.tmp 64) 29 5 (.int .u8 0) 1 rfl Try.underlying29 info5 rfl (by decide) (by omega) u3 x3_2 t482 _ _ _ (fun k_ => some k_ ≠ (.slice Ao49 t482.length co49 : Value).ownBlock) (fun _ => False) rfl rfl ?aO ?aR (fun _ _ h => h) (fun _ h => h.elim) ?aF ?aB ?aS ?aL ?_
                  (case aR => repeat (first | exact (Kd.R_reads' HO484.out).2.2 | (with_reducible refine Kd.C_alloc ?_ _) | (with_reducible refine Kd.C_drewN ?_ _) | (with_reducible refine Kd.C_drew ?_)))
                  (case aB => exact bl)
                  (case aF => exact (fun k_ hk => Kd.fresh' (Kd.R_lt (rp HO484.out)) k_ hk))
                  (case aO => exact (rp (Kd.R_mono HO_3.out (fun _ hk => hk.2))))
                  (case aS => exact (below_size bl))
                  (case aL => have := LMc36.out; omega)
                  intro v486 w48 ho hb hg hat
                  rw [← Ny485.out] at ho
                  have n0_ := Aside0.mk (blk_grown (g := gb449) (o := .cells #[.int .i64 a0_0, .slice A0_1 l0_1.length c0_1, .slice A0_2 l0_2.length c0_2, .slice (some ad471) l0_3.length c0_3, .slice A0_4 l0_4.length c0_4, .int .i64 a0_5, .int .i64 a0_6, .int .i64 a0_7, .int .i64 a0_8] 44 (0, 0)) bk hg (Kd.R_ne HO_3.out BK449.out (by decide)))
                  have n1_ := Aside0.mk (blk_grown (g := gb481) (o := .cells #[.int .i64 ((rd_T52 (rd_L4 l0_3 x4_1) x5_2).f0), .int .i64 ((rd_T52 (rd_L4 l0_3 x4_1) x5_2).f1), .string ((rd_T52 (rd_L4 l0_3 x4_1) x5_2).f2)] 52 (0, 0)) bk hg (Kd.R_ne HO_3.out BK481.out (by decide)))
                  have n2_ := Aside0.mk (Kd.R_after (ok := (fun _ => True)) (rp HO484.out) hg hat)
                  have n3_ := Aside0.mk (hb)
                  have n4_ := Aside0.mk (ho)
                  clear BK449
                  clear BK481
                  clear HO484
                  clear HB
                  clear HO_3
                  have BK449 := n0_
                  have BK481 := n1_
                  have HO484 := n2_
                  have HB := n3_
                  have HO487 := n4_
                  clear n0_ n1_ n2_ n3_ n4_
                  clear ho hb hg hat
                  refine hK.out _ _ ⟨(blk_cell BK481.out 0).trans rfl, (blk_cell BK481.out 1).trans rfl, (blk_cell BK481.out 2).trans rfl⟩ (fun hHeld => ?_)
                  clear hK K
                  refine norm_ (a' := ?_) ?_ ?_
                  rotate_left
                  ·
                   show Act.put _ (some 65) _ = _
                   simp only [Act.put, List.setIfInBounds_toArray, List.set_cons_zero, List.set_cons_succ, i64_w, i32_w]
                   rfl
                  refine one_ (i := 7) (N := some 68) #[true, true, true, true, true, true, true, true, false, true, true, false, false, false] rfl rfl (one_of HT_.out (by kernel_rfl)) (by decide) (fun K hK => ?_)
                  refine goes_ Try.func39 (by kernel_rfl) rfl #[.int .i64 ((rd_T52 (rd_L4 l0_3 x4_1) x5_2).f1)] (by rfl) rfl rfl mpq ?_
                  with_reducible refine (runnelref17_one.calls k2 ((rd_T52 (rd_L4 l0_3 x4_1) x5_2).f1) t488 _ A37.out).mono ?_
                  rintro e w50 ⟨v489, rfl, ho0, hb⟩
                  refine ⟨_, rfl, ?_⟩
                  have n0_ := Aside0.mk (Kd.R_elder' (rp HO484.out) (Kd.R_base ho0) hb)
                  have n1_ := Aside0.mk (Kd.R_elder' (rp HO487.out) (Kd.R_base ho0) hb)
                  have n2_ := Aside0.mk (Kd.R_lower (Kd.R_new' (Kd.R_new' ho0 (Kd.R_lt (rp HO484.out))) (Kd.R_lt (rp HO487.out))) (below_size bl))
                  have n3_ := Aside0.mk (blk_below (g := gb449) (o := .cells #[.int .i64 a0_0, .slice A0_1 l0_1.length c0_1, .slice A0_2 l0_2.length c0_2, .slice (some ad471) l0_3.length c0_3, .slice A0_4 l0_4.length c0_4, .int .i64 a0_5, .int .i64 a0_6, .int .i64 a0_7, .int .i64 a0_8] 44 (0, 0)) bk hb)
                  have n4_ := Aside0.mk (blk_below (g := gb481) (o := .cells #[.int .i64 ((rd_T52 (rd_L4 l0_3 x4_1) x5_2).f0), .int .i64 ((rd_T52 (rd_L4 l0_3 x4_1) x5_2).f1), .string ((rd_T52 (rd_L4 l0_3 x4_1) x5_2).f2)] 52 (0, 0)) bk hb)
                  have n5_ := Aside0.mk (below_step bl hb)
                  clear HO484
                  clear HO487
                  clear BK449
                  clear BK481
                  clear HB
                  have HO484 := n0_
                  have HO487 := n1_
                  have HO490 := n2_
                  have BK449 := n3_
                  have BK481 := n4_
                  have HB := n5_
                  clear n0_ n1_ n2_ n3_ n4_ n5_
                  (try clear hb)
                  (try clear hb2)
                  (try clear hk)
                  (try clear hi)
                  (try clear ho0)
                  obtain ⟨Ao52, co52, eo52⟩ := Kd.R_slice HO490.out
                  (first | subst eo52 | (injection eo52 with f1_ f2_ f3_; have f4_ := f1_.symm; have f5_ := f3_.symm; clear f1_ f2_ f3_; subst f4_; subst f5_))
                  refine hK.out _ _ ⟨(blk_cell BK481.out 0).trans rfl, (blk_cell BK481.out 1).trans rfl, (blk_cell BK481.out 2).trans rfl⟩ (fun hHeld => ?_)
                  clear hK K
                  refine norm_ (a' := ?_) ?_ ?_
                  rotate_left
                  ·
                   show Act.put _ (some 68) _ = _
                   simp only [Act.put, List.setIfInBounds_toArray, List.set_cons_zero, List.set_cons_succ, i64_w, i32_w]
                   rfl
                  refine one_ (i := 8) (N := some 69) #[true, true, true, true, true, true, true, true, true, true, true, false, false, false] rfl rfl (one_of HT_.out (by kernel_rfl)) (by decide) (fun K hK => ?_)
                  refine Kd.R_append_rows_step (Kd.int .u8) (w0 := w) w.heap.size (by rfl) (.tmp 65) (.tmp 68) 29 5 (.int .u8 0) 1 rfl Try.underlying29 info5 rfl (by decide) (by omega) v486 y485 t488 _ _ _ (fun k_ => some k_ ≠ (.slice Ao49 t482.length co49 : Value).ownBlock ∧ some k_ ≠ (.slice Ao52 t488.length co52 : Value).ownBlock) (fun _ => False) rfl rfl ?aO ?aR (fun _ _ h => h) (fun _ h => h.elim) ?aF ?aB ?aS ?aL ?_
                  (case aR => repeat (first | exact (Kd.R_reads' HO490.out).2.2 | (with_reducible refine Kd.C_alloc ?_ _) | (with_reducible refine Kd.C_drewN ?_ _) | (with_reducible refine Kd.C_drew ?_)))
                  (case aB => exact bl)
                  (case aF => exact (fun k_ hk => ⟨Kd.fresh' (Kd.R_lt (rp HO484.out)) k_ hk, Kd.fresh' (Kd.R_lt (rp HO490.out)) k_ hk⟩))
                  (case aO => exact (rp HO487.out))
                  (case aS => exact (below_size bl))
                  (case aL => have := LMc38.out; omega)
                  intro v492 w51 ho hb hg hat
                  rw [← Ny491.out] at ho
                  have n0_ := Aside0.mk (blk_grown (g := gb449) (o := .cells #[.int .i64 a0_0, .slice A0_1 l0_1.length c0_1, .slice A0_2 l0_2.length c0_2, .slice (some ad471) l0_3.length c0_3, .slice A0_4 l0_4.length c0_4, .int .i64 a0_5, .int .i64 a0_6, .int .i64 a0_7, .int .i64 a0_8] 44 (0, 0)) bk hg (Kd.R_ne HO487.out BK449.out (by decide)))
                  have n1_ := Aside0.mk (blk_grown (g := gb481) (o := .cells #[.int .i64 ((rd_T52 (rd_L4 l0_3 x4_1) x5_2).f0), .int .i64 ((rd_T52 (rd_L4 l0_3 x4_1) x5_2).f1), .string ((rd_T52 (rd_L4 l0_3 x4_1) x5_2).f2)] 52 (0, 0)) bk hg (Kd.R_ne HO487.out BK481.out (by decide)))
                  have n2_ := Aside0.mk (Kd.R_after (ok := (fun k_ => some k_ ≠ (.slice Ao52 t488.length co52 : Value).ownBlock)) (by (with_reducible repeat (first | apply Kd.R_alloc | apply Kd.R_drewN | apply Kd.R_drew)); exact Kd.R_mono HO484.out (fun _ hk => ⟨hk.2, hk.1.2⟩)) hg hat)
                  have n3_ := Aside0.mk (Kd.R_after (ok := (fun k_ => some k_ ≠ (.slice Ao49 t482.length co49 : Value).ownBlock)) (by (with_reducible repeat (first | apply Kd.R_alloc | apply Kd.R_drewN | apply Kd.R_drew)); exact Kd.R_mono HO490.out (fun _ hk => ⟨hk.1.2, hk.2⟩)) hg hat)
                  have n4_ := Aside0.mk (hb)
                  have n5_ := Aside0.mk (ho)
                  clear BK449
                  clear BK481
                  clear HO484
                  clear HO490
                  clear HB
                  clear HO487
                  have BK449 := n0_
                  have BK481 := n1_
                  have HO484 := n2_
                  have HO490 := n3_
                  have HB := n4_
                  have HO493 := n5_
                  clear n0_ n1_ n2_ n3_ n4_ n5_
                  clear ho hb hg hat
                  refine hK.out _ _ ⟨(blk_cell BK481.out 0).trans rfl, (blk_cell BK481.out 1).trans rfl, (blk_cell BK481.out 2).trans rfl⟩ (fun hHeld => ?_)
                  clear hK K
                  refine norm_ (a' := ?_) ?_ ?_
                  rotate_left
                  ·
                   show Act.put _ (some 69) _ = _
                   simp only [Act.put, List.setIfInBounds_toArray, List.set_cons_zero, List.set_cons_succ, i64_w, i32_w]
                   rfl
                  refine one_ (i := 11) (N := some 72) #[true, true, true, true, true, true, true, true, true, true, true, true, false, false] rfl rfl (one_of HT_.out (by kernel_rfl)) (by decide) (fun K hK => ?_)
                  refine goes_ Try.func64 (by kernel_rfl) rfl #[.string ((rd_T52 (rd_L4 l0_3 x4_1) x5_2).f2)] (by rfl) rfl rfl mpq ?_
                  with_reducible refine (runnelref01_Text.calls k2 ((rd_T52 (rd_L4 l0_3 x4_1) x5_2).f2) t494 _ A39.out).mono ?_
                  rintro e w53 ⟨v495, rfl, ho0, hb⟩
                  refine ⟨_, rfl, ?_⟩
                  have n0_ := Aside0.mk (Kd.R_elder' (rp HO484.out) (Kd.R_base ho0) hb)
                  have n1_ := Aside0.mk (Kd.R_elder' (rp HO490.out) (Kd.R_base ho0) hb)
                  have n2_ := Aside0.mk (Kd.R_elder' (rp HO493.out) (Kd.R_base ho0) hb)
                  have n3_ := Aside0.mk (Kd.R_lower (Kd.R_new' (Kd.R_new' (Kd.R_new' ho0 (Kd.R_lt (rp HO484.out))) (Kd.R_lt (rp HO490.out))) (Kd.R_lt (rp HO493.out))) (below_size bl))
                  have n4_ := Aside0.mk (blk_below (g := gb449) (o := .cells #[.int .i64 a0_0, .slice A0_1 l0_1.length c0_1, .slice A0_2 l0_2.length c0_2, .slice (some ad471) l0_3.length c0_3, .slice A0_4 l0_4.length c0_4, .int .i64 a0_5, .int .i64 a0_6, .int .i64 a0_7, .int .i64 a0_8] 44 (0, 0)) bk hb)
                  have n5_ := Aside0.mk (blk_below (g := gb481) (o := .cells #[.int .i64 ((rd_T52 (rd_L4 l0_3 x4_1) x5_2).f0), .int .i64 ((rd_T52 (rd_L4 l0_3 x4_1) x5_2).f1), .string ((rd_T52 (rd_L4 l0_3 x4_1) x5_2).f2)] 52 (0, 0)) bk hb)
                  have n6_ := Aside0.mk (below_step bl hb)
                  clear HO484
                  clear HO490
                  clear HO493
                  clear BK449
                  clear BK481
                  clear HB
                  have HO484 := n0_
                  have HO490 := n1_
                  have HO493 := n2_
                  have HO496 := n3_
                  have BK449 := n4_
                  have BK481 := n5_
                  have HB := n6_
                  clear n0_ n1_ n2_ n3_ n4_ n5_ n6_
                  (try clear hb)
                  (try clear hb2)
                  (try clear hk)
                  (try clear hi)
                  (try clear ho0)
                  obtain ⟨Ao55, co55, eo55⟩ := Kd.R_slice HO496.out
                  (first | subst eo55 | (injection eo55 with f1_ f2_ f3_; have f4_ := f1_.symm; have f5_ := f3_.symm; clear f1_ f2_ f3_; subst f4_; subst f5_))
                  refine hK.out _ _ ⟨(blk_cell BK481.out 0).trans rfl, (blk_cell BK481.out 1).trans rfl, (blk_cell BK481.out 2).trans rfl⟩ (fun hHeld => ?_)
                  clear hK K
                  refine norm_ (a' := ?_) ?_ ?_
                  rotate_left
                  ·
                   show Act.put _ (some 72) _ = _
                   simp only [Act.put, List.setIfInBounds_toArray, List.set_cons_zero, List.set_cons_succ, i64_w, i32_w]
                   rfl
                  refine one_ (i := 12) (N := some 73) #[true, true, true, true, true, true, true, true, true, true, true, true, true, false] rfl rfl (one_of HT_.out (by kernel_rfl)) (by decide) (fun K hK => ?_)
                  refine Kd.R_append_rows_step (Kd.int .u8) (w0 := w) w.heap.size (by rfl) (.tmp 69) (.tmp 72) 29 5 (.int .u8 0) 1 rfl Try.underlying29 info5 rfl (by decide) (by omega) v492 y491 t494 _ _ _ (fun k_ => some k_ ≠ (.slice Ao49 t482.length co49 : Value).ownBlock ∧ some k_ ≠ (.slice Ao52 t488.length co52 : Value).ownBlock ∧ some k_ ≠ (.slice Ao55 t494.length co55 : Value).ownBlock) (fun _ => False) rfl rfl ?aO ?aR (fun _ _ h => h) (fun _ h => h.elim) ?aF ?aB ?aS ?aL ?_
                  (case aR => repeat (first | exact (Kd.R_reads' HO496.out).2.2 | (with_reducible refine Kd.C_alloc ?_ _) | (with_reducible refine Kd.C_drewN ?_ _) | (with_reducible refine Kd.C_drew ?_)))
                  (case aB => exact bl)
                  (case aF => exact (fun k_ hk => ⟨Kd.fresh' (Kd.R_lt (rp HO484.out)) k_ hk, Kd.fresh' (Kd.R_lt (rp HO490.out)) k_ hk, Kd.fresh' (Kd.R_lt (rp HO496.out)) k_ hk⟩))
                  (case aO => exact (by (with_reducible repeat (first | apply Kd.R_alloc | apply Kd.R_drewN | apply Kd.R_drew)); exact Kd.R_mono HO493.out (fun _ hk => ⟨hk.1.1, ⟨hk.1.2, hk.2⟩⟩)))
                  (case aS => exact (below_size bl))
                  (case aL => have := LMc40.out; omega)
                  intro v498 w54 ho hb hg hat
                  rw [← Ny497.out] at ho
                  have n0_ := Aside0.mk (blk_grown (g := gb449) (o := .cells #[.int .i64 a0_0, .slice A0_1 l0_1.length c0_1, .slice A0_2 l0_2.length c0_2, .slice (some ad471) l0_3.length c0_3, .slice A0_4 l0_4.length c0_4, .int .i64 a0_5, .int .i64 a0_6, .int .i64 a0_7, .int .i64 a0_8] 44 (0, 0)) bk hg (Kd.R_ne HO493.out BK449.out (by decide)))
                  have n1_ := Aside0.mk (blk_grown (g := gb481) (o := .cells #[.int .i64 ((rd_T52 (rd_L4 l0_3 x4_1) x5_2).f0), .int .i64 ((rd_T52 (rd_L4 l0_3 x4_1) x5_2).f1), .string ((rd_T52 (rd_L4 l0_3 x4_1) x5_2).f2)] 52 (0, 0)) bk hg (Kd.R_ne HO493.out BK481.out (by decide)))
                  have n2_ := Aside0.mk (Kd.R_after (ok := (fun k_ => some k_ ≠ (.slice Ao52 t488.length co52 : Value).ownBlock ∧ some k_ ≠ (.slice Ao55 t494.length co55 : Value).ownBlock)) (by (with_reducible repeat (first | apply Kd.R_alloc | apply Kd.R_drewN | apply Kd.R_drew)); exact Kd.R_mono HO484.out (fun _ hk => ⟨⟨hk.1.1, hk.2⟩, hk.1.2⟩)) hg hat)
                  have n3_ := Aside0.mk (Kd.R_after (ok := (fun k_ => some k_ ≠ (.slice Ao49 t482.length co49 : Value).ownBlock ∧ some k_ ≠ (.slice Ao55 t494.length co55 : Value).ownBlock)) (by (with_reducible repeat (first | apply Kd.R_alloc | apply Kd.R_drewN | apply Kd.R_drew)); exact Kd.R_mono HO490.out (fun _ hk => ⟨⟨hk.1.1, hk.2⟩, hk.1.2⟩)) hg hat)
                  have n4_ := Aside0.mk (Kd.R_after (ok := (fun k_ => some k_ ≠ (.slice Ao49 t482.length co49 : Value).ownBlock ∧ some k_ ≠ (.slice Ao52 t488.length co52 : Value).ownBlock)) (by (with_reducible repeat (first | apply Kd.R_alloc | apply Kd.R_drewN | apply Kd.R_drew)); exact Kd.R_mono HO496.out (fun _ hk => ⟨⟨hk.1.1.2, hk.1.2⟩, hk.2⟩)) hg hat)
                  have n5_ := Aside0.mk (hb)
                  have n6_ := Aside0.mk (ho)
                  clear BK449
                  clear BK481
                  clear HO484
                  clear HO490
                  clear HO496
                  clear HB
                  clear HO493
                  have BK449 := n0_
                  have BK481 := n1_
                  have HO484 := n2_
                  have HO490 := n3_
                  have HO496 := n4_
                  have HB := n5_
                  have HO499 := n6_
                  clear n0_ n1_ n2_ n3_ n4_ n5_ n6_
                  clear ho hb hg hat
                  refine hK.out _ _ ⟨(blk_cell BK481.out 0).trans rfl, (blk_cell BK481.out 1).trans rfl, (blk_cell BK481.out 2).trans rfl⟩ (fun hHeld => ?_)
                  clear hK K
                  refine norm_ (a' := ?_) ?_ ?_
                  rotate_left
                  ·
                   show Act.put _ (some 73) _ = _
                   simp only [Act.put, List.setIfInBounds_toArray, List.set_cons_zero, List.set_cons_succ, i64_w, i32_w]
                   rfl
                  refine pure_ (i := 13) (N := some 3) (v := ?_) (a' := ?_) #[true, true, true, true, true, true, true, true, true, true, true, true, true, true] rfl rfl (any_of HT_.out (by kernel_rfl)) (fun _ _ _ h => h) (Or.inl ⟨by rfl, ?_⟩) ?_ ?_
                  rotate_left
                  ·
                   intro w'
                   go_simp
                   with_reducible rfl
                  rotate_left
                  ·
                   simp only [Act.put, List.setIfInBounds_toArray, List.set_cons_zero, List.set_cons_succ, i64_w, i32_w]
                   rfl
                  refine done_ (done_of HT_.out (by kernel_rfl)) ?_
                  try go_wp2
                  go_roundg k2
                  case measure => have := HK1.out; have := HK2.out; omega
                  case rel => exact ⟨(y497), (wrap64 (x5_2 + 1)), (by first | rfl | (simp; done) | (simp [*]; done)), H', ⟨by have := HK1.out; have := HK2.out; omega⟩, ⟨by (with_reducible repeat (first | apply Kd.R_alloc | apply Kd.R_drewN | apply Kd.R_drew)); exact Kd.R_mono HO499.out (fun _ hk => trivial)⟩, ⟨by (with_reducible repeat (first | refine blk_drewN ?_ _ | refine blk_drew ?_ | refine blk_alloc ?_ _)); exact BK449.out⟩, ⟨bl⟩⟩
                 ·
                  rw [if_neg c40] at H
                  exact absurd H (by simp)
                ·
                 rw [if_neg c38] at H
                 exact absurd H (by simp)
               ·
                rw [if_neg c36] at H
                exact absurd H (by simp)
              ·
               rw [if_neg c34] at H
               exact absurd H (by simp)
             ·
              rw [if_neg c33] at H
              have c33b0 : decide (x5_2 < ((rd_L4 l0_3 x4_1).length : Int)) = false := decide_eq_false c33
              clear c33
              have H' := Aside0.mk H
              clear H
              obtain ⟨hcz56_0, hcz56_1, hcz56_2, hcz56_3, hcz56_4, hcz56_5, hcz56_6, hcz56_7, hcz56_8⟩ := cells9 BK449.out
              obtain ⟨hfz56_0, hfz56_1, hfz56_2, hfz56_3, hfz56_4, hfz56_5, hfz56_6, hfz56_7, hfz56_8⟩ := frz9 BK449.out
              have p478 : 0 ≤ (x4_1 : Int) := of_decide_eq_true (by first | (with_reducible assumption) | assumption)
              have q478 : x4_1 < (l0_3.length : Int) := of_decide_eq_true (by first | (with_reducible assumption) | assumption)
              obtain ⟨ad478, A478_0, c478_0, e478, hx478_0, hl478_0, hi478_0⟩ := at_L4 HR0_3.out x4_1 p478 q478
              obtain rfl : ad471 = ad478 := (by injection e478)
              replace hx478_0 := bc HB.out hx478_0
              have HR478_0 := Aside0.mk hi478_0
              have HC478_0 := Aside0.mk hl478_0
              clear hi478_0 hl478_0
              replace p478 := eq_true p478
              replace q478 := eq_true q478
              go_wp2
              go_roundg k2
              case measure => have := HK1.out; have := HK2.out; omega
              case rel => exact ⟨(x3_2), (wrap64 (x4_1 + 1)), (by first | rfl | (simp; done) | (simp [*]; done)), H', ⟨by have := HK1.out; have := HK2.out; omega⟩, ⟨by (with_reducible repeat (first | apply Kd.R_alloc | apply Kd.R_drewN | apply Kd.R_drew)); exact HO_3.out⟩, ⟨by (with_reducible repeat (first | refine blk_drewN ?_ _ | refine blk_drew ?_ | refine blk_alloc ?_ _)); exact BK449.out⟩, ⟨bl⟩⟩
            ·
             rw [if_neg c32] at H
             exact absurd H (by simp)
           ·
            rw [if_neg c31] at H
            exact absurd H (by simp)
        ·
         rw [if_neg c26] at H
         exact absurd H (by simp)
       ·
        rw [if_neg c24] at H
        exact absurd H (by simp)
      ·
       rw [if_neg c23] at H
       have c23b0 : decide (x4_1 < (l0_3.length : Int)) = false := decide_eq_false c23
       clear c23
       replace H := Option.bind_eq_some_iff.mp H
       obtain ⟨t500, A570, H⟩ := H
       replace H : (if x3_1.length + t500.length < 140737488355328 then ((some (x3_1 ++ t500 : List Int)).bind fun y503 => ((runnelref17_one.f k1 a0_5).bind fun t506 => (if y503.length + t506.length < 140737488355328 then ((some (y503 ++ t506 : List Int)).bind fun y509 => ((runnelref17_one.f k1 a0_6).bind fun t512 => (if y509.length + t512.length < 140737488355328 then ((some (y509 ++ t512 : List Int)).bind fun y515 => ((runnelref17_one.f k1 a0_7).bind fun t518 => (if y515.length + t518.length < 140737488355328 then ((some (y515 ++ t518 : List Int)).bind fun y521 => ((runnelref17_one.f k1 a0_8).bind fun t524 => (if y521.length + t524.length < 140737488355328 then (some (y521 ++ t524)) else (none)))) else (none)))) else (none)))) else (none)))) else (none)) = some r := H
       have A57 := Aside0.mk A570
       clear A570
       by_cases c58 : x3_1.length + t500.length < 140737488355328
       ·
        rw [if_pos c58] at H
        have LMc58 := Aside0.mk c58
        clear c58
        obtain ⟨y503, hy503⟩ : ∃ y_ : List Int, y_ = (x3_1 ++ t500) := ⟨_, rfl⟩
        replace H : ((runnelref17_one.f k1 a0_5).bind fun t506 => (if y503.length + t506.length < 140737488355328 then ((some (y503 ++ t506 : List Int)).bind fun y509 => ((runnelref17_one.f k1 a0_6).bind fun t512 => (if y509.length + t512.length < 140737488355328 then ((some (y509 ++ t512 : List Int)).bind fun y515 => ((runnelref17_one.f k1 a0_7).bind fun t518 => (if y515.length + t518.length < 140737488355328 then ((some (y515 ++ t518 : List Int)).bind fun y521 => ((runnelref17_one.f k1 a0_8).bind fun t524 => (if y521.length + t524.length < 140737488355328 then (some (y521 ++ t524)) else (none)))) else (none)))) else (none)))) else (none))) = some r := by first | (rw [hy503]; with_reducible exact H) | (have H2_ := (Option.bind_some _ _).symm.trans H; rw [hy503]; with_reducible exact H2_) | (have H2_ := (Option.bind_some _ _).symm.trans H; with_reducible exact H2_) | with_reducible exact H | (rw [hy503]; exact H) | exact H
        have Ny503 := Aside0.mk hy503
        clear hy503
        replace H := Option.bind_eq_some_iff.mp H
        obtain ⟨t506, A590, H⟩ := H
        replace H : (if y503.length + t506.length < 140737488355328 then ((some (y503 ++ t506 : List Int)).bind fun y509 => ((runnelref17_one.f k1 a0_6).bind fun t512 => (if y509.length + t512.length < 140737488355328 then ((some (y509 ++ t512 : List Int)).bind fun y515 => ((runnelref17_one.f k1 a0_7).bind fun t518 => (if y515.length + t518.length < 140737488355328 then ((some (y515 ++ t518 : List Int)).bind fun y521 => ((runnelref17_one.f k1 a0_8).bind fun t524 => (if y521.length + t524.length < 140737488355328 then (some (y521 ++ t524)) else (none)))) else (none)))) else (none)))) else (none)) = some r := H
        have A59 := Aside0.mk A590
        clear A590
        by_cases c60 : y503.length + t506.length < 140737488355328
        ·
         rw [if_pos c60] at H
         have LMc60 := Aside0.mk c60
         clear c60
         obtain ⟨y509, hy509⟩ : ∃ y_ : List Int, y_ = (y503 ++ t506) := ⟨_, rfl⟩
         replace H : ((runnelref17_one.f k1 a0_6).bind fun t512 => (if y509.length + t512.length < 140737488355328 then ((some (y509 ++ t512 : List Int)).bind fun y515 => ((runnelref17_one.f k1 a0_7).bind fun t518 => (if y515.length + t518.length < 140737488355328 then ((some (y515 ++ t518 : List Int)).bind fun y521 => ((runnelref17_one.f k1 a0_8).bind fun t524 => (if y521.length + t524.length < 140737488355328 then (some (y521 ++ t524)) else (none)))) else (none)))) else (none))) = some r := by first | (rw [hy509]; with_reducible exact H) | (have H2_ := (Option.bind_some _ _).symm.trans H; rw [hy509]; with_reducible exact H2_) | (have H2_ := (Option.bind_some _ _).symm.trans H; with_reducible exact H2_) | with_reducible exact H | (rw [hy509]; exact H) | exact H
         have Ny509 := Aside0.mk hy509
         clear hy509
         replace H := Option.bind_eq_some_iff.mp H
         obtain ⟨t512, A610, H⟩ := H
         replace H : (if y509.length + t512.length < 140737488355328 then ((some (y509 ++ t512 : List Int)).bind fun y515 => ((runnelref17_one.f k1 a0_7).bind fun t518 => (if y515.length + t518.length < 140737488355328 then ((some (y515 ++ t518 : List Int)).bind fun y521 => ((runnelref17_one.f k1 a0_8).bind fun t524 => (if y521.length + t524.length < 140737488355328 then (some (y521 ++ t524)) else (none)))) else (none)))) else (none)) = some r := H
         have A61 := Aside0.mk A610
         clear A610
         by_cases c62 : y509.length + t512.length < 140737488355328
         ·
          rw [if_pos c62] at H
          have LMc62 := Aside0.mk c62
          clear c62
          obtain ⟨y515, hy515⟩ : ∃ y_ : List Int, y_ = (y509 ++ t512) := ⟨_, rfl⟩
          replace H : ((runnelref17_one.f k1 a0_7).bind fun t518 => (if y515.length + t518.length < 140737488355328 then ((some (y515 ++ t518 : List Int)).bind fun y521 => ((runnelref17_one.f k1 a0_8).bind fun t524 => (if y521.length + t524.length < 140737488355328 then (some (y521 ++ t524)) else (none)))) else (none))) = some r := by first | (rw [hy515]; with_reducible exact H) | (have H2_ := (Option.bind_some _ _).symm.trans H; rw [hy515]; with_reducible exact H2_) | (have H2_ := (Option.bind_some _ _).symm.trans H; with_reducible exact H2_) | with_reducible exact H | (rw [hy515]; exact H) | exact H
          have Ny515 := Aside0.mk hy515
          clear hy515
          replace H := Option.bind_eq_some_iff.mp H
          obtain ⟨t518, A630, H⟩ := H
          replace H : (if y515.length + t518.length < 140737488355328 then ((some (y515 ++ t518 : List Int)).bind fun y521 => ((runnelref17_one.f k1 a0_8).bind fun t524 => (if y521.length + t524.length < 140737488355328 then (some (y521 ++ t524)) else (none)))) else (none)) = some r := H
          have A63 := Aside0.mk A630
          clear A630
          by_cases c64 : y515.length + t518.length < 140737488355328
          ·
           rw [if_pos c64] at H
           have LMc64 := Aside0.mk c64
           clear c64
           obtain ⟨y521, hy521⟩ : ∃ y_ : List Int, y_ = (y515 ++ t518) := ⟨_, rfl⟩
           replace H : ((runnelref17_one.f k1 a0_8).bind fun t524 => (if y521.length + t524.length < 140737488355328 then (some (y521 ++ t524)) else (none))) = some r := by first | (rw [hy521]; with_reducible exact H) | (have H2_ := (Option.bind_some _ _).symm.trans H; rw [hy521]; with_reducible exact H2_) | (have H2_ := (Option.bind_some _ _).symm.trans H; with_reducible exact H2_) | with_reducible exact H | (rw [hy521]; exact H) | exact H
           have Ny521 := Aside0.mk hy521
           clear hy521
           replace H := Option.bind_eq_some_iff.mp H
           obtain ⟨t524, A650, H⟩ := H
           replace H : (if y521.length + t524.length < 140737488355328 then (some (y521 ++ t524)) else (none)) = some r := H
           have A65 := Aside0.mk A650
           clear A650
           by_cases c66 : y521.length + t524.length < 140737488355328
           ·
            rw [if_pos c66] at H
            have LMc66 := Aside0.mk c66
            clear c66
            obtain ⟨y527, hy527⟩ : ∃ y_ : List Int, y_ = (y521 ++ t524) := ⟨_, rfl⟩
            replace H : (some y527) = some r := by first | (rw [hy527]; with_reducible exact H) | (have H2_ := (Option.bind_some _ _).symm.trans H; rw [hy527]; with_reducible exact H2_) | (have H2_ := (Option.bind_some _ _).symm.trans H; with_reducible exact H2_) | with_reducible exact H | (rw [hy527]; exact H) | exact H
            have Ny527 := Aside0.mk hy527
            clear hy527
            obtain rfl := Option.some.inj H
            obtain ⟨hcz67_0, hcz67_1, hcz67_2, hcz67_3, hcz67_4, hcz67_5, hcz67_6, hcz67_7, hcz67_8⟩ := cells9 BK449.out
            obtain ⟨hfz67_0, hfz67_1, hfz67_2, hfz67_3, hfz67_4, hfz67_5, hfz67_6, hfz67_7, hfz67_8⟩ := frz9 BK449.out
            try go_wp2_with (first | ((with_reducible refine gate_callee (f := 40) rfl ?_); refine goesL_ (some 77) rfl rfl Try.func40 (by kernel_rfl) rfl #[.slice A0_4 l0_4.length c0_4] rfl mpq ?_; (with_reducible refine (runnelref17_list.calls k1 _ _ l0_4 t500 _ ?side1 ?side2 A57.out).mono ?_); (case side1 => repeat (first | exact (Kd.C_below HR0_4.out HB.out) | (with_reducible refine Kd.C_alloc ?_ _) | (with_reducible refine Kd.C_drewN ?_ _) | (with_reducible refine Kd.C_drew ?_))); (case side2 => exact HC0_4.out); rintro e w68 ⟨v501, rfl, ho0, hb⟩; refine ⟨_, rfl, ?_⟩; have n0_ := Aside0.mk (Kd.R_elder' (rp HO_3.out) (Kd.R_base ho0) hb); have n1_ := Aside0.mk (Kd.R_lower (Kd.R_new' ho0 (Kd.R_lt (rp HO_3.out))) (below_size bl)); have n2_ := Aside0.mk (blk_below (g := gb449) (o := .cells #[.int .i64 a0_0, .slice A0_1 l0_1.length c0_1, .slice A0_2 l0_2.length c0_2, .slice A0_3 l0_3.length c0_3, .slice A0_4 l0_4.length c0_4, .int .i64 a0_5, .int .i64 a0_6, .int .i64 a0_7, .int .i64 a0_8] 44 (0, 0)) bk hb); have n3_ := Aside0.mk (below_step bl hb); clear HO_3; clear BK449; clear HB; have HO_3 := n0_; have HO502 := n1_; have BK449 := n2_; have HB := n3_; clear n0_ n1_ n2_ n3_; (try clear hb); (try clear hb2); (try clear hk); (try clear hi); (try clear ho0); obtain ⟨Ao70, co70, eo70⟩ := Kd.R_slice HO502.out; subst eo70) | ((with_reducible refine gate_builtin (b := .append) (xs := #[.tmp 74, .tmp 77]) rfl ?_); at_builtin; refine Kd.R_append_rows (Kd.int .u8) (w0 := w) w.heap.size rfl (.tmp 74) (.tmp 77) 29 5 (.int .u8 0) 1 rfl Try.underlying29 info5 rfl (by decide) (by omega) u3 x3_1 t500 _ _ _ (fun k_ => some k_ ≠ (.slice Ao70 t500.length co70 : Value).ownBlock) (fun _ => False) rfl rfl ?aO ?aR (fun _ _ h => h) (fun _ h => h.elim) ?aF ?aB ?aS ?aL ?_; (case aR => repeat (first | exact (Kd.R_reads' HO502.out).2.2 | (with_reducible refine Kd.C_alloc ?_ _) | (with_reducible refine Kd.C_drewN ?_ _) | (with_reducible refine Kd.C_drew ?_))); (case aB => exact bl); (case aF => exact (fun k_ hk => Kd.fresh' (Kd.R_lt (rp HO502.out)) k_ hk)); (case aO => exact (rp (Kd.R_mono HO_3.out (fun _ hk => hk.2)))); (case aS => exact (below_size bl)); (case aL => have := LMc58.out; omega); intro v504 w69 ho hb hg hat; rw [← Ny503.out] at ho; have n0_ := Aside0.mk (blk_grown (g := gb449) (o := .cells #[.int .i64 a0_0, .slice A0_1 l0_1.length c0_1, .slice A0_2 l0_2.length c0_2, .slice A0_3 l0_3.length c0_3, .slice A0_4 l0_4.length c0_4, .int .i64 a0_5, .int .i64 a0_6, .int .i64 a0_7, .int .i64 a0_8] 44 (0, 0)) bk hg (Kd.R_ne HO_3.out BK449.out (by decide))); have n1_ := Aside0.mk (Kd.R_after (ok := (fun _ => True)) (rp HO502.out) hg hat); have n2_ := Aside0.mk (hb); have n3_ := Aside0.mk (ho); clear BK449; clear HO502; clear HB; clear HO_3; have BK449 := n0_; have HO502 := n1_; have HB := n2_; have HO505 := n3_; clear n0_ n1_ n2_ n3_; clear ho hb hg hat))
            have n0_ := Aside0.mk (Kd.R_drew HO502.out)
            have n1_ := Aside0.mk (Kd.R_drew HO505.out)
            have n2_ := Aside0.mk (blk_drew BK449.out)
            have n3_ := Aside0.mk (below_drew1 HB.out)
            clear HO502
            clear HO505
            clear BK449
            clear HB
            have HO502 := n0_
            have HO505 := n1_
            have BK449 := n2_
            have HB := n3_
            clear n0_ n1_ n2_ n3_
            refine start_ (n := 18) (S := fun w' => w'.cell? ⟨gb449, 0, none⟩ = some (.int .i64 a0_0) ∧ w'.cell? ⟨gb449, 1, none⟩ = some (.slice A0_1 l0_1.length c0_1) ∧ w'.cell? ⟨gb449, 2, none⟩ = some (.slice A0_2 l0_2.length c0_2) ∧ w'.cell? ⟨gb449, 3, none⟩ = some (.slice A0_3 l0_3.length c0_3) ∧ w'.cell? ⟨gb449, 4, none⟩ = some (.slice A0_4 l0_4.length c0_4) ∧ w'.cell? ⟨gb449, 5, none⟩ = some (.int .i64 a0_5) ∧ w'.cell? ⟨gb449, 6, none⟩ = some (.int .i64 a0_6) ∧ w'.cell? ⟨gb449, 7, none⟩ = some (.int .i64 a0_7) ∧ w'.cell? ⟨gb449, 8, none⟩ = some (.int .i64 a0_8)) (ds := []) #[false, false, false, false, false, false, false, false, false, false, false, false, false, false, false, false, false, false] (by kernel_rfl) rfl rfl ⟨(blk_cell BK449.out 0).trans rfl, (blk_cell BK449.out 1).trans rfl, (blk_cell BK449.out 2).trans rfl, (blk_cell BK449.out 3).trans rfl, (blk_cell BK449.out 4).trans rfl, (blk_cell BK449.out 5).trans rfl, (blk_cell BK449.out 6).trans rfl, (blk_cell BK449.out 7).trans rfl, (blk_cell BK449.out 8).trans rfl⟩ (fun hHeld => ?_); refine with_tabW runnelref17_nodeBytes.tab14 runnelref17_nodeBytes.bits14 (fun HT_ HW_ => ?_)
            generalize w69.drew = w71 at HO502 HO505 BK449 HB hHeld ⊢
            refine pure_ (i := 0) (N := some 79) (v := ?_) (a' := ?_) #[true, false, false, false, false, false, false, false, false, false, false, false, false, false, false, false, false, false] rfl rfl (any_of HT_.out (by kernel_rfl)) (fun _ _ _ h => h) (Or.inl ⟨by rfl, ?_⟩) ?_ ?_
            rotate_left
            ·
             intro w'
             go_simp
             with_reducible rfl
            rotate_left
            ·
             simp only [Act.put, List.setIfInBounds_toArray, List.set_cons_zero, List.set_cons_succ, i64_w, i32_w]
             rfl
            refine pure_ (i := 1) (N := some 80) (v := ?_) (a' := ?_) #[true, true, false, false, false, false, false, false, false, false, false, false, false, false, false, false, false, false] rfl rfl (any_of HT_.out (by kernel_rfl)) (fun _ _ _ h => h) (Or.inl ⟨by rfl, ?_⟩) ?_ ?_
            rotate_left
            ·
             intro w'
             go_simp
             with_reducible rfl
            rotate_left
            ·
             simp only [Act.put, List.setIfInBounds_toArray, List.set_cons_zero, List.set_cons_succ, i64_w, i32_w]
             rfl
            refine pure_ (i := 5) (N := some 84) (v := ?_) (a' := ?_) #[true, true, false, false, false, true, false, false, false, false, false, false, false, false, false, false, false, false] rfl rfl (any_of HT_.out (by kernel_rfl)) (fun _ _ _ h => h) (Or.inl ⟨by rfl, ?_⟩) ?_ ?_
            rotate_left
            ·
             intro w'
             go_simp
             with_reducible rfl
            rotate_left
            ·
             simp only [Act.put, List.setIfInBounds_toArray, List.set_cons_zero, List.set_cons_succ, i64_w, i32_w]
             rfl
            refine pure_ (i := 9) (N := some 88) (v := ?_) (a' := ?_) #[true, true, false, false, false, true, false, false, false, true, false, false, false, false, false, false, false, false] rfl rfl (any_of HT_.out (by kernel_rfl)) (fun _ _ _ h => h) (Or.inl ⟨by rfl, ?_⟩) ?_ ?_
            rotate_left
            ·
             intro w'
             go_simp
             with_reducible rfl
            rotate_left
            ·
             simp only [Act.put, List.setIfInBounds_toArray, List.set_cons_zero, List.set_cons_succ, i64_w, i32_w]
             rfl
            refine pure_ (i := 13) (N := some 92) (v := ?_) (a' := ?_) #[true, true, false, false, false, true, false, false, false, true, false, false, false, true, false, false, false, false] rfl rfl (any_of HT_.out (by kernel_rfl)) (fun _ _ _ h => h) (Or.inl ⟨by rfl, ?_⟩) ?_ ?_
            rotate_left
            ·
             intro w'
             go_simp
             with_reducible rfl
            rotate_left
            ·
             simp only [Act.put, List.setIfInBounds_toArray, List.set_cons_zero, List.set_cons_succ, i64_w, i32_w]
             rfl
            refine take_ (i := 2) (N := some 81) (v := ?_) (a' := ?_) #[true, true, true, false, false, true, false, false, false, true, false, false, false, true, false, false, false, false] rfl rfl (take_ofW HT_.out HW_.out (by kernel_rfl)) (fun _ _ _ h => h) (Or.inl ⟨by rfl, ?_⟩) hHeld ?_ ?_
            rotate_left
            ·
             rintro w' ⟨s0, s1, s2, s3, s4, s5, s6, s7, s8⟩
             go_simp
             with_reducible rfl
            rotate_left
            ·
             simp only [Act.put, List.setIfInBounds_toArray, List.set_cons_zero, List.set_cons_succ, i64_w, i32_w]
             rfl
            refine take_ (i := 6) (N := some 85) (v := ?_) (a' := ?_) #[true, true, true, false, false, true, true, false, false, true, false, false, false, true, false, false, false, false] rfl rfl (take_ofW HT_.out HW_.out (by kernel_rfl)) (fun _ _ _ h => h) (Or.inl ⟨by rfl, ?_⟩) hHeld ?_ ?_
            rotate_left
            ·
             rintro w' ⟨s0, s1, s2, s3, s4, s5, s6, s7, s8⟩
             go_simp
             with_reducible rfl
            rotate_left
            ·
             simp only [Act.put, List.setIfInBounds_toArray, List.set_cons_zero, List.set_cons_succ, i64_w, i32_w]
             rfl
            refine take_ (i := 10) (N := some 89) (v := ?_) (a' := ?_) #[true, true, true, false, false, true, true, false, false, true, true, false, false, true, false, false, false, false] rfl rfl (take_ofW HT_.out HW_.out (by kernel_rfl)) (fun _ _ _ h => h) (Or.inl ⟨by rfl, ?_⟩) hHeld ?_ ?_
            rotate_left
            ·
             rintro w' ⟨s0, s1, s2, s3, s4, s5, s6, s7, s8⟩
             go_simp
             with_reducible rfl
            rotate_left
            ·
             simp only [Act.put, List.setIfInBounds_toArray, List.set_cons_zero, List.set_cons_succ, i64_w, i32_w]
             rfl
            refine take_ (i := 14) (N := some 93) (v := ?_) (a' := ?_) #[true, true, true, false, false, true, true, false, false, true, true, false, false, true, true, false, false, false] rfl rfl (take_ofW HT_.out HW_.out (by kernel_rfl)) (fun _ _ _ h => h) (Or.inl ⟨by rfl, ?_⟩) hHeld ?_ ?_
            rotate_left
            ·
             rintro w' ⟨s0, s1, s2, s3, s4, s5, s6, s7, s8⟩
             go_simp
             with_reducible rfl
            rotate_left
            ·
             simp only [Act.put, List.setIfInBounds_toArray, List.set_cons_zero, List.set_cons_succ, i64_w, i32_w]
             rfl
            refine one_ (i := 3) (N := some 82) #[true, true, true, true, false, true, true, false, false, true, true, false, false, true, true, false, false, false] rfl rfl (one_of HT_.out (by kernel_rfl)) (by decide) (fun K hK => ?_)
            refine goes_ Try.func39 (by kernel_rfl) rfl #[.int .i64 a0_5] (by rfl) rfl rfl mpq ?_
            with_reducible refine (runnelref17_one.calls k1 a0_5 t506 _ A59.out).mono ?_
            rintro e w72 ⟨v507, rfl, ho0, hb⟩
            refine ⟨_, rfl, ?_⟩
            have n0_ := Aside0.mk (Kd.R_elder' (rp HO502.out) (Kd.R_base ho0) hb)
            have n1_ := Aside0.mk (Kd.R_elder' (rp HO505.out) (Kd.R_base ho0) hb)
            have n2_ := Aside0.mk (Kd.R_lower (Kd.R_new' (Kd.R_new' ho0 (Kd.R_lt (rp HO502.out))) (Kd.R_lt (rp HO505.out))) (below_size bl))
            have n3_ := Aside0.mk (blk_below (g := gb449) (o := .cells #[.int .i64 a0_0, .slice A0_1 l0_1.length c0_1, .slice A0_2 l0_2.length c0_2, .slice A0_3 l0_3.length c0_3, .slice A0_4 l0_4.length c0_4, .int .i64 a0_5, .int .i64 a0_6, .int .i64 a0_7, .int .i64 a0_8] 44 (0, 0)) bk hb)
            have n4_ := Aside0.mk (below_step bl hb)
            clear HO502
            clear HO505
            clear BK449
            clear HB
            have HO502 := n0_
            have HO505 := n1_
            have HO508 := n2_
            have BK449 := n3_
            have HB := n4_
            clear n0_ n1_ n2_ n3_ n4_
            (try clear hb)
            (try clear hb2)
            (try clear hk)
            (try clear hi)
            (try clear ho0)
            obtain ⟨Ao74, co74, eo74⟩ := Kd.R_slice HO508.out
            (first | subst eo74 | (injection eo74 with f1_ f2_ f3_; have f4_ := f1_.symm; have f5_ := f3_.symm; clear f1_ f2_ f3_; subst f4_; subst f5_))
            refine hK.out _ _ ⟨(blk_cell BK449.out 0).trans rfl, (blk_cell BK449.out 1).trans rfl, (blk_cell BK449.out 2).trans rfl, (blk_cell BK449.out 3).trans rfl, (blk_cell BK449.out 4).trans rfl, (blk_cell BK449.out 5).trans rfl, (blk_cell BK449.out 6).trans rfl, (blk_cell BK449.out 7).trans rfl, (blk_cell BK449.out 8).trans rfl⟩ (fun hHeld => ?_)
            clear hK K
            refine norm_ (a' := ?_) ?_ ?_
            rotate_left
            ·
             show Act.put _ (some 82) _ = _
             simp only [Act.put, List.setIfInBounds_toArray, List.set_cons_zero, List.set_cons_succ, i64_w, i32_w]
             rfl
            refine one_ (i := 4) (N := some 83) #[true, true, true, true, true, true, true, false, false, true, true, false, false, true, true, false, false, false] rfl rfl (one_of HT_.out (by kernel_rfl)) (by decide) (fun K hK => ?_)
            refine Kd.R_append_rows_step (Kd.int .u8) (w0 := w) w.heap.size (by rfl) (.tmp 79) (.tmp 82) 29 5 (.int .u8 0) 1 rfl Try.underlying29 info5 rfl (by decide) (by omega) v504 y503 t506 _ _ _ (fun k_ => some k_ ≠ (.slice Ao70 t500.length co70 : Value).ownBlock ∧ some k_ ≠ (.slice Ao74 t506.length co74 : Value).ownBlock) (fun _ => False) rfl rfl ?aO ?aR (fun _ _ h => h) (fun _ h => h.elim) ?aF ?aB ?aS ?aL ?_
            (case aR => repeat (first | exact (Kd.R_reads' HO508.out).2.2 | (with_reducible refine Kd.C_alloc ?_ _) | (with_reducible refine Kd.C_drewN ?_ _) | (with_reducible refine Kd.C_drew ?_)))
            (case aB => exact bl)
            (case aF => exact (fun k_ hk => ⟨Kd.fresh' (Kd.R_lt (rp HO502.out)) k_ hk, Kd.fresh' (Kd.R_lt (rp HO508.out)) k_ hk⟩))
            (case aO => exact (rp HO505.out))
            (case aS => exact (below_size bl))
            (case aL => have := LMc60.out; omega)
            intro v510 w73 ho hb hg hat
            rw [← Ny509.out] at ho
            have n0_ := Aside0.mk (blk_grown (g := gb449) (o := .cells #[.int .i64 a0_0, .slice A0_1 l0_1.length c0_1, .slice A0_2 l0_2.length c0_2, .slice A0_3 l0_3.length c0_3, .slice A0_4 l0_4.length c0_4, .int .i64 a0_5, .int .i64 a0_6, .int .i64 a0_7, .int .i64 a0_8] 44 (0, 0)) bk hg (Kd.R_ne HO505.out BK449.out (by decide)))
            have n1_ := Aside0.mk (Kd.R_after (ok := (fun k_ => some k_ ≠ (.slice Ao74 t506.length co74 : Value).ownBlock)) (by (with_reducible repeat (first | apply Kd.R_alloc | apply Kd.R_drewN | apply Kd.R_drew)); exact Kd.R_mono HO502.out (fun _ hk => ⟨hk.2, hk.1.2⟩)) hg hat)
            have n2_ := Aside0.mk (Kd.R_after (ok := (fun k_ => some k_ ≠ (.slice Ao70 t500.length co70 : Value).ownBlock)) (by (with_reducible repeat (first | apply Kd.R_alloc | apply Kd.R_drewN | apply Kd.R_drew)); exact Kd.R_mono HO508.out (fun _ hk => ⟨hk.1.2, hk.2⟩)) hg hat)
            have n3_ := Aside0.mk (hb)
            have n4_ := Aside0.mk (ho)
            clear BK449
            clear HO502
            clear HO508
            clear HB
            clear HO505
            have BK449 := n0_
            have HO502 := n1_
            have HO508 := n2_
            have HB := n3_
            have HO511 := n4_
            clear n0_ n1_ n2_ n3_ n4_
            clear ho hb hg hat
            refine hK.out _ _ ⟨(blk_cell BK449.out 0).trans rfl, (blk_cell BK449.out 1).trans rfl, (blk_cell BK449.out 2).trans rfl, (blk_cell BK449.out 3).trans rfl, (blk_cell BK449.out 4).trans rfl, (blk_cell BK449.out 5).trans rfl, (blk_cell BK449.out 6).trans rfl, (blk_cell BK449.out 7).trans rfl, (blk_cell BK449.out 8).trans rfl⟩ (fun hHeld => ?_)
            clear hK K
            refine norm_ (a' := ?_) ?_ ?_
            rotate_left
            ·
             show Act.put _ (some 83) _ = _
             simp only [Act.put, List.setIfInBounds_toArray, List.set_cons_zero, List.set_cons_succ, i64_w, i32_w]
             rfl
            refine one_ (i := 7) (N := some 86) #[true, true, true, true, true, true, true, true, false, true, true, false, false, true, true, false, false, false] rfl rfl (one_of HT_.out (by kernel_rfl)) (by decide) (fun K hK => ?_)
            refine goes_ Try.func39 (by kernel_rfl) rfl #[.int .i64 a0_6] (by rfl) rfl rfl mpq ?_
            with_reducible refine (runnelref17_one.calls k1 a0_6 t512 _ A61.out).mono ?_
            rintro e w75 ⟨v513, rfl, ho0, hb⟩
            refine ⟨_, rfl, ?_⟩
            have n0_ := Aside0.mk (Kd.R_elder' (rp HO502.out) (Kd.R_base ho0) hb)
            have n1_ := Aside0.mk (Kd.R_elder' (rp HO508.out) (Kd.R_base ho0) hb)
            have n2_ := Aside0.mk (Kd.R_elder' (rp HO511.out) (Kd.R_base ho0) hb)
            have n3_ := Aside0.mk (Kd.R_lower (Kd.R_new' (Kd.R_new' (Kd.R_new' ho0 (Kd.R_lt (rp HO502.out))) (Kd.R_lt (rp HO508.out))) (Kd.R_lt (rp HO511.out))) (below_size bl))
            have n4_ := Aside0.mk (blk_below (g := gb449) (o := .cells #[.int .i64 a0_0, .slice A0_1 l0_1.length c0_1, .slice A0_2 l0_2.length c0_2, .slice A0_3 l0_3.length c0_3, .slice A0_4 l0_4.length c0_4, .int .i64 a0_5, .int .i64 a0_6, .int .i64 a0_7, .int .i64 a0_8] 44 (0, 0)) bk hb)
            have n5_ := Aside0.mk (below_step bl hb)
            clear HO502
            clear HO508
            clear HO511
            clear BK449
            clear HB
            have HO502 := n0_
            have HO508 := n1_
            have HO511 := n2_
            have HO514 := n3_
            have BK449 := n4_
            have HB := n5_
            clear n0_ n1_ n2_ n3_ n4_ n5_
            (try clear hb)
            (try clear hb2)
            (try clear hk)
            (try clear hi)
            (try clear ho0)
            obtain ⟨Ao77, co77, eo77⟩ := Kd.R_slice HO514.out
            (first | subst eo77 | (injection eo77 with f1_ f2_ f3_; have f4_ := f1_.symm; have f5_ := f3_.symm; clear f1_ f2_ f3_; subst f4_; subst f5_))
            refine hK.out _ _ ⟨(blk_cell BK449.out 0).trans rfl, (blk_cell BK449.out 1).trans rfl, (blk_cell BK449.out 2).trans rfl, (blk_cell BK449.out 3).trans rfl, (blk_cell BK449.out 4).trans rfl, (blk_cell BK449.out 5).trans rfl, (blk_cell BK449.out 6).trans rfl, (blk_cell BK449.out 7).trans rfl, (blk_cell BK449.out 8).trans rfl⟩ (fun hHeld => ?_)
            clear hK K
            refine norm_ (a' := ?_) ?_ ?_
            rotate_left
            ·
             show Act.put _ (some 86) _ = _
             simp only [Act.put, List.setIfInBounds_toArray, List.set_cons_zero, List.set_cons_succ, i64_w, i32_w]
             rfl
            refine one_ (i := 8) (N := some 87) #[true, true, true, true, true, true, true, true, true, true, true, false, false, true, true, false, false, false] rfl rfl (one_of HT_.out (by kernel_rfl)) (by decide) (fun K hK => ?_)
            refine Kd.R_append_rows_step (Kd.int .u8) (w0 := w) w.heap.size (by rfl) (.tmp 83) (.tmp 86) 29 5 (.int .u8 0) 1 rfl Try.underlying29 info5 rfl (by decide) (by omega) v510 y509 t512 _ _ _ (fun k_ => some k_ ≠ (.slice Ao70 t500.length co70 : Value).ownBlock ∧ some k_ ≠ (.slice Ao74 t506.length co74 : Value).ownBlock ∧ some k_ ≠ (.slice Ao77 t512.length co77 : Value).ownBlock) (fun _ => False) rfl rfl ?aO ?aR (fun _ _ h => h) (fun _ h => h.elim) ?aF ?aB ?aS ?aL ?_
            (case aR => repeat (first | exact (Kd.R_reads' HO514.out).2.2 | (with_reducible refine Kd.C_alloc ?_ _) | (with_reducible refine Kd.C_drewN ?_ _) | (with_reducible refine Kd.C_drew ?_)))
            (case aB => exact bl)
            (case aF => exact (fun k_ hk => ⟨Kd.fresh' (Kd.R_lt (rp HO502.out)) k_ hk, Kd.fresh' (Kd.R_lt (rp HO508.out)) k_ hk, Kd.fresh' (Kd.R_lt (rp HO514.out)) k_ hk⟩))
            (case aO => exact (by (with_reducible repeat (first | apply Kd.R_alloc | apply Kd.R_drewN | apply Kd.R_drew)); exact Kd.R_mono HO511.out (fun _ hk => ⟨hk.1.1, ⟨hk.1.2, hk.2⟩⟩)))
            (case aS => exact (below_size bl))
            (case aL => have := LMc62.out; omega)
            intro v516 w76 ho hb hg hat
            rw [← Ny515.out] at ho
            have n0_ := Aside0.mk (blk_grown (g := gb449) (o := .cells #[.int .i64 a0_0, .slice A0_1 l0_1.length c0_1, .slice A0_2 l0_2.length c0_2, .slice A0_3 l0_3.length c0_3, .slice A0_4 l0_4.length c0_4, .int .i64 a0_5, .int .i64 a0_6, .int .i64 a0_7, .int .i64 a0_8] 44 (0, 0)) bk hg (Kd.R_ne HO511.out BK449.out (by decide)))
            have n1_ := Aside0.mk (Kd.R_after (ok := (fun k_ => some k_ ≠ (.slice Ao74 t506.length co74 : Value).ownBlock ∧ some k_ ≠ (.slice Ao77 t512.length co77 : Value).ownBlock)) (by (with_reducible repeat (first | apply Kd.R_alloc | apply Kd.R_drewN | apply Kd.R_drew)); exact Kd.R_mono HO502.out (fun _ hk => ⟨⟨hk.1.1, hk.2⟩, hk.1.2⟩)) hg hat)
            have n2_ := Aside0.mk (Kd.R_after (ok := (fun k_ => some k_ ≠ (.slice Ao70 t500.length co70 : Value).ownBlock ∧ some k_ ≠ (.slice Ao77 t512.length co77 : Value).ownBlock)) (by (with_reducible repeat (first | apply Kd.R_alloc | apply Kd.R_drewN | apply Kd.R_drew)); exact Kd.R_mono HO508.out (fun _ hk => ⟨⟨hk.1.1, hk.2⟩, hk.1.2⟩)) hg hat)
            have n3_ := Aside0.mk (Kd.R_after (ok := (fun k_ => some k_ ≠ (.slice Ao70 t500.length co70 : Value).ownBlock ∧ some k_ ≠ (.slice Ao74 t506.length co74 : Value).ownBlock)) (by (with_reducible repeat (first | apply Kd.R_alloc | apply Kd.R_drewN | apply Kd.R_drew)); exact Kd.R_mono HO514.out (fun _ hk => ⟨⟨hk.1.1.2, hk.1.2⟩, hk.2⟩)) hg hat)
            have n4_ := Aside0.mk (hb)
            have n5_ := Aside0.mk (ho)
            clear BK449
            clear HO502
            clear HO508
            clear HO514
            clear HB
            clear HO511
            have BK449 := n0_
            have HO502 := n1_
            have HO508 := n2_
            have HO514 := n3_
            have HB := n4_
            have HO517 := n5_
            clear n0_ n1_ n2_ n3_ n4_ n5_
            clear ho hb hg hat
            refine hK.out _ _ ⟨(blk_cell BK449.out 0).trans rfl, (blk_cell BK449.out 1).trans rfl, (blk_cell BK449.out 2).trans rfl, (blk_cell BK449.out 3).trans rfl, (blk_cell BK449.out 4).trans rfl, (blk_cell BK449.out 5).trans rfl, (blk_cell BK449.out 6).trans rfl, (blk_cell BK449.out 7).trans rfl, (blk_cell BK449.out 8).trans rfl⟩ (fun hHeld => ?_)
            clear hK K
            refine norm_ (a' := ?_) ?_ ?_
            rotate_left
            ·
             show Act.put _ (some 87) _ = _
             simp only [Act.put, List.setIfInBounds_toArray, List.set_cons_zero, List.set_cons_succ, i64_w, i32_w]
             rfl
            refine one_ (i := 11) (N := some 90) #[true, true, true, true, true, true, true, true, true, true, true, true, false, true, true, false, false, false] rfl rfl (one_of HT_.out (by kernel_rfl)) (by decide) (fun K hK => ?_)
            refine goes_ Try.func39 (by kernel_rfl) rfl #[.int .i64 a0_7] (by rfl) rfl rfl mpq ?_
            with_reducible refine (runnelref17_one.calls k1 a0_7 t518 _ A63.out).mono ?_
            rintro e w78 ⟨v519, rfl, ho0, hb⟩
            refine ⟨_, rfl, ?_⟩
            have n0_ := Aside0.mk (Kd.R_elder' (rp HO502.out) (Kd.R_base ho0) hb)
            have n1_ := Aside0.mk (Kd.R_elder' (rp HO508.out) (Kd.R_base ho0) hb)
            have n2_ := Aside0.mk (Kd.R_elder' (rp HO514.out) (Kd.R_base ho0) hb)
            have n3_ := Aside0.mk (Kd.R_elder' (rp HO517.out) (Kd.R_base ho0) hb)
            have n4_ := Aside0.mk (Kd.R_lower (Kd.R_new' (Kd.R_new' (Kd.R_new' (Kd.R_new' ho0 (Kd.R_lt (rp HO502.out))) (Kd.R_lt (rp HO508.out))) (Kd.R_lt (rp HO514.out))) (Kd.R_lt (rp HO517.out))) (below_size bl))
            have n5_ := Aside0.mk (blk_below (g := gb449) (o := .cells #[.int .i64 a0_0, .slice A0_1 l0_1.length c0_1, .slice A0_2 l0_2.length c0_2, .slice A0_3 l0_3.length c0_3, .slice A0_4 l0_4.length c0_4, .int .i64 a0_5, .int .i64 a0_6, .int .i64 a0_7, .int .i64 a0_8] 44 (0, 0)) bk hb)
            have n6_ := Aside0.mk (below_step bl hb)
            clear HO502
            clear HO508
            clear HO514
            clear HO517
            clear BK449
            clear HB
            have HO502 := n0_
            have HO508 := n1_
            have HO514 := n2_
            have HO517 := n3_
            have HO520 := n4_
            have BK449 := n5_
            have HB := n6_
            clear n0_ n1_ n2_ n3_ n4_ n5_ n6_
            (try clear hb)
            (try clear hb2)
            (try clear hk)
            (try clear hi)
            (try clear ho0)
            obtain ⟨Ao80, co80, eo80⟩ := Kd.R_slice HO520.out
            (first | subst eo80 | (injection eo80 with f1_ f2_ f3_; have f4_ := f1_.symm; have f5_ := f3_.symm; clear f1_ f2_ f3_; subst f4_; subst f5_))
            refine hK.out _ _ ⟨(blk_cell BK449.out 0).trans rfl, (blk_cell BK449.out 1).trans rfl, (blk_cell BK449.out 2).trans rfl, (blk_cell BK449.out 3).trans rfl, (blk_cell BK449.out 4).trans rfl, (blk_cell BK449.out 5).trans rfl, (blk_cell BK449.out 6).trans rfl, (blk_cell BK449.out 7).trans rfl, (blk_cell BK449.out 8).trans rfl⟩ (fun hHeld => ?_)
            clear hK K
            refine norm_ (a' := ?_) ?_ ?_
            rotate_left
            ·
             show Act.put _ (some 90) _ = _
             simp only [Act.put, List.setIfInBounds_toArray, List.set_cons_zero, List.set_cons_succ, i64_w, i32_w]
             rfl
            refine one_ (i := 12) (N := some 91) #[true, true, true, true, true, true, true, true, true, true, true, true, true, true, true, false, false, false] rfl rfl (one_of HT_.out (by kernel_rfl)) (by decide) (fun K hK => ?_)
            refine Kd.R_append_rows_step (Kd.int .u8) (w0 := w) w.heap.size (by rfl) (.tmp 87) (.tmp 90) 29 5 (.int .u8 0) 1 rfl Try.underlying29 info5 rfl (by decide) (by omega) v516 y515 t518 _ _ _ (fun k_ => some k_ ≠ (.slice Ao70 t500.length co70 : Value).ownBlock ∧ some k_ ≠ (.slice Ao74 t506.length co74 : Value).ownBlock ∧ some k_ ≠ (.slice Ao77 t512.length co77 : Value).ownBlock ∧ some k_ ≠ (.slice Ao80 t518.length co80 : Value).ownBlock) (fun _ => False) rfl rfl ?aO ?aR (fun _ _ h => h) (fun _ h => h.elim) ?aF ?aB ?aS ?aL ?_
            (case aR => repeat (first | exact (Kd.R_reads' HO520.out).2.2 | (with_reducible refine Kd.C_alloc ?_ _) | (with_reducible refine Kd.C_drewN ?_ _) | (with_reducible refine Kd.C_drew ?_)))
            (case aB => exact bl)
            (case aF => exact (fun k_ hk => ⟨Kd.fresh' (Kd.R_lt (rp HO502.out)) k_ hk, Kd.fresh' (Kd.R_lt (rp HO508.out)) k_ hk, Kd.fresh' (Kd.R_lt (rp HO514.out)) k_ hk, Kd.fresh' (Kd.R_lt (rp HO520.out)) k_ hk⟩))
            (case aO => exact (by (with_reducible repeat (first | apply Kd.R_alloc | apply Kd.R_drewN | apply Kd.R_drew)); exact Kd.R_mono HO517.out (fun _ hk => ⟨hk.1.1, ⟨hk.1.2.1, ⟨hk.1.2.2, hk.2⟩⟩⟩)))
            (case aS => exact (below_size bl))
            (case aL => have := LMc64.out; omega)
            intro v522 w79 ho hb hg hat
            rw [← Ny521.out] at ho
            have n0_ := Aside0.mk (blk_grown (g := gb449) (o := .cells #[.int .i64 a0_0, .slice A0_1 l0_1.length c0_1, .slice A0_2 l0_2.length c0_2, .slice A0_3 l0_3.length c0_3, .slice A0_4 l0_4.length c0_4, .int .i64 a0_5, .int .i64 a0_6, .int .i64 a0_7, .int .i64 a0_8] 44 (0, 0)) bk hg (Kd.R_ne HO517.out BK449.out (by decide)))
            have n1_ := Aside0.mk (Kd.R_after (ok := (fun k_ => some k_ ≠ (.slice Ao74 t506.length co74 : Value).ownBlock ∧ some k_ ≠ (.slice Ao77 t512.length co77 : Value).ownBlock ∧ some k_ ≠ (.slice Ao80 t518.length co80 : Value).ownBlock)) (by (with_reducible repeat (first | apply Kd.R_alloc | apply Kd.R_drewN | apply Kd.R_drew)); exact Kd.R_mono HO502.out (fun _ hk => ⟨⟨hk.1.1.1, ⟨hk.1.1.2, hk.2⟩⟩, hk.1.2⟩)) hg hat)
            have n2_ := Aside0.mk (Kd.R_after (ok := (fun k_ => some k_ ≠ (.slice Ao70 t500.length co70 : Value).ownBlock ∧ some k_ ≠ (.slice Ao77 t512.length co77 : Value).ownBlock ∧ some k_ ≠ (.slice Ao80 t518.length co80 : Value).ownBlock)) (by (with_reducible repeat (first | apply Kd.R_alloc | apply Kd.R_drewN | apply Kd.R_drew)); exact Kd.R_mono HO508.out (fun _ hk => ⟨⟨hk.1.1.1, ⟨hk.1.1.2, hk.2⟩⟩, hk.1.2⟩)) hg hat)
            have n3_ := Aside0.mk (Kd.R_after (ok := (fun k_ => some k_ ≠ (.slice Ao70 t500.length co70 : Value).ownBlock ∧ some k_ ≠ (.slice Ao74 t506.length co74 : Value).ownBlock ∧ some k_ ≠ (.slice Ao80 t518.length co80 : Value).ownBlock)) (by (with_reducible repeat (first | apply Kd.R_alloc | apply Kd.R_drewN | apply Kd.R_drew)); exact Kd.R_mono HO514.out (fun _ hk => ⟨⟨hk.1.1.1, ⟨hk.1.1.2, hk.2⟩⟩, hk.1.2⟩)) hg hat)
            have n4_ := Aside0.mk (Kd.R_after (ok := (fun k_ => some k_ ≠ (.slice Ao70 t500.length co70 : Value).ownBlock ∧ some k_ ≠ (.slice Ao74 t506.length co74 : Value).ownBlock ∧ some k_ ≠ (.slice Ao77 t512.length co77 : Value).ownBlock)) (by (with_reducible repeat (first | apply Kd.R_alloc | apply Kd.R_drewN | apply Kd.R_drew)); exact Kd.R_mono HO520.out (fun _ hk => ⟨⟨hk.1.1.1.2, ⟨hk.1.1.2, hk.1.2⟩⟩, hk.2⟩)) hg hat)
            have n5_ := Aside0.mk (hb)
            have n6_ := Aside0.mk (ho)
            clear BK449
            clear HO502
            clear HO508
            clear HO514
            clear HO520
            clear HB
            clear HO517
            have BK449 := n0_
            have HO502 := n1_
            have HO508 := n2_
            have HO514 := n3_
            have HO520 := n4_
            have HB := n5_
            have HO523 := n6_
            clear n0_ n1_ n2_ n3_ n4_ n5_ n6_
            clear ho hb hg hat
            refine hK.out _ _ ⟨(blk_cell BK449.out 0).trans rfl, (blk_cell BK449.out 1).trans rfl, (blk_cell BK449.out 2).trans rfl, (blk_cell BK449.out 3).trans rfl, (blk_cell BK449.out 4).trans rfl, (blk_cell BK449.out 5).trans rfl, (blk_cell BK449.out 6).trans rfl, (blk_cell BK449.out 7).trans rfl, (blk_cell BK449.out 8).trans rfl⟩ (fun hHeld => ?_)
            clear hK K
            refine norm_ (a' := ?_) ?_ ?_
            rotate_left
            ·
             show Act.put _ (some 91) _ = _
             simp only [Act.put, List.setIfInBounds_toArray, List.set_cons_zero, List.set_cons_succ, i64_w, i32_w]
             rfl
            refine one_ (i := 15) (N := some 94) #[true, true, true, true, true, true, true, true, true, true, true, true, true, true, true, true, false, false] rfl rfl (one_of HT_.out (by kernel_rfl)) (by decide) (fun K hK => ?_)
            refine goes_ Try.func39 (by kernel_rfl) rfl #[.int .i64 a0_8] (by rfl) rfl rfl mpq ?_
            with_reducible refine (runnelref17_one.calls k1 a0_8 t524 _ A65.out).mono ?_
            rintro e w81 ⟨v525, rfl, ho0, hb⟩
            refine ⟨_, rfl, ?_⟩
            have n0_ := Aside0.mk (Kd.R_elder' (rp HO502.out) (Kd.R_base ho0) hb)
            have n1_ := Aside0.mk (Kd.R_elder' (rp HO508.out) (Kd.R_base ho0) hb)
            have n2_ := Aside0.mk (Kd.R_elder' (rp HO514.out) (Kd.R_base ho0) hb)
            have n3_ := Aside0.mk (Kd.R_elder' (rp HO520.out) (Kd.R_base ho0) hb)
            have n4_ := Aside0.mk (Kd.R_elder' (rp HO523.out) (Kd.R_base ho0) hb)
            have n5_ := Aside0.mk (Kd.R_lower (Kd.R_new' (Kd.R_new' (Kd.R_new' (Kd.R_new' (Kd.R_new' ho0 (Kd.R_lt (rp HO502.out))) (Kd.R_lt (rp HO508.out))) (Kd.R_lt (rp HO514.out))) (Kd.R_lt (rp HO520.out))) (Kd.R_lt (rp HO523.out))) (below_size bl))
            have n6_ := Aside0.mk (blk_below (g := gb449) (o := .cells #[.int .i64 a0_0, .slice A0_1 l0_1.length c0_1, .slice A0_2 l0_2.length c0_2, .slice A0_3 l0_3.length c0_3, .slice A0_4 l0_4.length c0_4, .int .i64 a0_5, .int .i64 a0_6, .int .i64 a0_7, .int .i64 a0_8] 44 (0, 0)) bk hb)
            have n7_ := Aside0.mk (below_step bl hb)
            clear HO502
            clear HO508
            clear HO514
            clear HO520
            clear HO523
            clear BK449
            clear HB
            have HO502 := n0_
            have HO508 := n1_
            have HO514 := n2_
            have HO520 := n3_
            have HO523 := n4_
            have HO526 := n5_
            have BK449 := n6_
            have HB := n7_
            clear n0_ n1_ n2_ n3_ n4_ n5_ n6_ n7_
            (try clear hb)
            (try clear hb2)
            (try clear hk)
            (try clear hi)
            (try clear ho0)
            obtain ⟨Ao83, co83, eo83⟩ := Kd.R_slice HO526.out
            (first | subst eo83 | (injection eo83 with f1_ f2_ f3_; have f4_ := f1_.symm; have f5_ := f3_.symm; clear f1_ f2_ f3_; subst f4_; subst f5_))
            refine hK.out _ _ ⟨(blk_cell BK449.out 0).trans rfl, (blk_cell BK449.out 1).trans rfl, (blk_cell BK449.out 2).trans rfl, (blk_cell BK449.out 3).trans rfl, (blk_cell BK449.out 4).trans rfl, (blk_cell BK449.out 5).trans rfl, (blk_cell BK449.out 6).trans rfl, (blk_cell BK449.out 7).trans rfl, (blk_cell BK449.out 8).trans rfl⟩ (fun hHeld => ?_)
            clear hK K
            refine norm_ (a' := ?_) ?_ ?_
            rotate_left
            ·
             show Act.put _ (some 94) _ = _
             simp only [Act.put, List.setIfInBounds_toArray, List.set_cons_zero, List.set_cons_succ, i64_w, i32_w]
             rfl
            refine one_ (i := 16) (N := some 95) #[true, true, true, true, true, true, true, true, true, true, true, true, true, true, true, true, true, false] rfl rfl (one_of HT_.out (by kernel_rfl)) (by decide) (fun K hK => ?_)
            refine Kd.R_append_rows_step (Kd.int .u8) (w0 := w) w.heap.size (by rfl) (.tmp 91) (.tmp 94) 29 5 (.int .u8 0) 1 rfl Try.underlying29 info5 rfl (by decide) (by omega) v522 y521 t524 _ _ _ (fun k_ => some k_ ≠ (.slice Ao70 t500.length co70 : Value).ownBlock ∧ some k_ ≠ (.slice Ao74 t506.length co74 : Value).ownBlock ∧ some k_ ≠ (.slice Ao77 t512.length co77 : Value).ownBlock ∧ some k_ ≠ (.slice Ao80 t518.length co80 : Value).ownBlock ∧ some k_ ≠ (.slice Ao83 t524.length co83 : Value).ownBlock) (fun _ => False) rfl rfl ?aO ?aR (fun _ _ h => h) (fun _ h => h.elim) ?aF ?aB ?aS ?aL ?_
            (case aR => repeat (first | exact (Kd.R_reads' HO526.out).2.2 | (with_reducible refine Kd.C_alloc ?_ _) | (with_reducible refine Kd.C_drewN ?_ _) | (with_reducible refine Kd.C_drew ?_)))
            (case aB => exact bl)
            (case aF => exact (fun k_ hk => ⟨Kd.fresh' (Kd.R_lt (rp HO502.out)) k_ hk, Kd.fresh' (Kd.R_lt (rp HO508.out)) k_ hk, Kd.fresh' (Kd.R_lt (rp HO514.out)) k_ hk, Kd.fresh' (Kd.R_lt (rp HO520.out)) k_ hk, Kd.fresh' (Kd.R_lt (rp HO526.out)) k_ hk⟩))
            (case aO => exact (by (with_reducible repeat (first | apply Kd.R_alloc | apply Kd.R_drewN | apply Kd.R_drew)); exact Kd.R_mono HO523.out (fun _ hk => ⟨hk.1.1, ⟨hk.1.2.1, ⟨hk.1.2.2.1, ⟨hk.1.2.2.2, hk.2⟩⟩⟩⟩)))
            (case aS => exact (below_size bl))
            (case aL => have := LMc66.out; omega)
            intro v528 w82 ho hb hg hat
            rw [← Ny527.out] at ho
            have n0_ := Aside0.mk (blk_grown (g := gb449) (o := .cells #[.int .i64 a0_0, .slice A0_1 l0_1.length c0_1, .slice A0_2 l0_2.length c0_2, .slice A0_3 l0_3.length c0_3, .slice A0_4 l0_4.length c0_4, .int .i64 a0_5, .int .i64 a0_6, .int .i64 a0_7, .int .i64 a0_8] 44 (0, 0)) bk hg (Kd.R_ne HO523.out BK449.out (by decide)))
            have n1_ := Aside0.mk (Kd.R_after (ok := (fun k_ => some k_ ≠ (.slice Ao74 t506.length co74 : Value).ownBlock ∧ some k_ ≠ (.slice Ao77 t512.length co77 : Value).ownBlock ∧ some k_ ≠ (.slice Ao80 t518.length co80 : Value).ownBlock ∧ some k_ ≠ (.slice Ao83 t524.length co83 : Value).ownBlock)) (by (with_reducible repeat (first | apply Kd.R_alloc | apply Kd.R_drewN | apply Kd.R_drew)); exact Kd.R_mono HO502.out (fun _ hk => ⟨⟨hk.1.1.1, ⟨hk.1.1.2.1, ⟨hk.1.1.2.2, hk.2⟩⟩⟩, hk.1.2⟩)) hg hat)
            have n2_ := Aside0.mk (Kd.R_after (ok := (fun k_ => some k_ ≠ (.slice Ao70 t500.length co70 : Value).ownBlock ∧ some k_ ≠ (.slice Ao77 t512.length co77 : Value).ownBlock ∧ some k_ ≠ (.slice Ao80 t518.length co80 : Value).ownBlock ∧ some k_ ≠ (.slice Ao83 t524.length co83 : Value).ownBlock)) (by (with_reducible repeat (first | apply Kd.R_alloc | apply Kd.R_drewN | apply Kd.R_drew)); exact Kd.R_mono HO508.out (fun _ hk => ⟨⟨hk.1.1.1, ⟨hk.1.1.2.1, ⟨hk.1.1.2.2, hk.2⟩⟩⟩, hk.1.2⟩)) hg hat)
            have n3_ := Aside0.mk (Kd.R_after (ok := (fun k_ => some k_ ≠ (.slice Ao70 t500.length co70 : Value).ownBlock ∧ some k_ ≠ (.slice Ao74 t506.length co74 : Value).ownBlock ∧ some k_ ≠ (.slice Ao80 t518.length co80 : Value).ownBlock ∧ some k_ ≠ (.slice Ao83 t524.length co83 : Value).ownBlock)) (by (with_reducible repeat (first | apply Kd.R_alloc | apply Kd.R_drewN | apply Kd.R_drew)); exact Kd.R_mono HO514.out (fun _ hk => ⟨⟨hk.1.1.1, ⟨hk.1.1.2.1, ⟨hk.1.1.2.2, hk.2⟩⟩⟩, hk.1.2⟩)) hg hat)
            have n4_ := Aside0.mk (Kd.R_after (ok := (fun k_ => some k_ ≠ (.slice Ao70 t500.length co70 : Value).ownBlock ∧ some k_ ≠ (.slice Ao74 t506.length co74 : Value).ownBlock ∧ some k_ ≠ (.slice Ao77 t512.length co77 : Value).ownBlock ∧ some k_ ≠ (.slice Ao83 t524.length co83 : Value).ownBlock)) (by (with_reducible repeat (first | apply Kd.R_alloc | apply Kd.R_drewN | apply Kd.R_drew)); exact Kd.R_mono HO520.out (fun _ hk => ⟨⟨hk.1.1.1, ⟨hk.1.1.2.1, ⟨hk.1.1.2.2, hk.2⟩⟩⟩, hk.1.2⟩)) hg hat)
            have n5_ := Aside0.mk (Kd.R_after (ok := (fun k_ => some k_ ≠ (.slice Ao70 t500.length co70 : Value).ownBlock ∧ some k_ ≠ (.slice Ao74 t506.length co74 : Value).ownBlock ∧ some k_ ≠ (.slice Ao77 t512.length co77 : Value).ownBlock ∧ some k_ ≠ (.slice Ao80 t518.length co80 : Value).ownBlock)) (by (with_reducible repeat (first | apply Kd.R_alloc | apply Kd.R_drewN | apply Kd.R_drew)); exact Kd.R_mono HO526.out (fun _ hk => ⟨⟨hk.1.1.1.1.2, ⟨hk.1.1.1.2, ⟨hk.1.1.2, hk.1.2⟩⟩⟩, hk.2⟩)) hg hat)
            have n6_ := Aside0.mk (hb)
            have n7_ := Aside0.mk (ho)
            clear BK449
            clear HO502
            clear HO508
            clear HO514
            clear HO520
            clear HO526
            clear HB
            clear HO523
            have BK449 := n0_
            have HO502 := n1_
            have HO508 := n2_
            have HO514 := n3_
            have HO520 := n4_
            have HO526 := n5_
            have HB := n6_
            have HO529 := n7_
            clear n0_ n1_ n2_ n3_ n4_ n5_ n6_ n7_
            clear ho hb hg hat
            refine hK.out _ _ ⟨(blk_cell BK449.out 0).trans rfl, (blk_cell BK449.out 1).trans rfl, (blk_cell BK449.out 2).trans rfl, (blk_cell BK449.out 3).trans rfl, (blk_cell BK449.out 4).trans rfl, (blk_cell BK449.out 5).trans rfl, (blk_cell BK449.out 6).trans rfl, (blk_cell BK449.out 7).trans rfl, (blk_cell BK449.out 8).trans rfl⟩ (fun hHeld => ?_)
            clear hK K
            refine norm_ (a' := ?_) ?_ ?_
            rotate_left
            ·
             show Act.put _ (some 95) _ = _
             simp only [Act.put, List.setIfInBounds_toArray, List.set_cons_zero, List.set_cons_succ, i64_w, i32_w]
             rfl
            refine pure_ (i := 17) (N := some 2) (v := ?_) (a' := ?_) #[true, true, true, true, true, true, true, true, true, true, true, true, true, true, true, true, true, true] rfl rfl (any_of HT_.out (by kernel_rfl)) (fun _ _ _ h => h) (Or.inl ⟨by rfl, ?_⟩) ?_ ?_
            rotate_left
            ·
             intro w'
             go_simp
             with_reducible rfl
            rotate_left
            ·
             simp only [Act.put, List.setIfInBounds_toArray, List.set_cons_zero, List.set_cons_succ, i64_w, i32_w]
             rfl
            refine done_ (done_of HT_.out (by kernel_rfl)) ?_
            try go_wp2
            go_ret
            exact ⟨_, erq, by (with_reducible repeat (first | apply Kd.R_alloc | apply Kd.R_drewN | apply Kd.R_drew)); exact Kd.R_mono HO529.out (fun _ hk => trivial), by repeat (first | (with_reducible first | exact HB.out | apply below_alloc | apply pw_below_drewN | apply below_drew1 | refine below_set ?_ GE449.out) | exact HB.out)⟩
           ·
            rw [if_neg c66] at H
            exact absurd H (by simp)
          ·
           rw [if_neg c64] at H
           exact absurd H (by simp)
         ·
          rw [if_neg c62] at H
          exact absurd H (by simp)
        ·
         rw [if_neg c60] at H
         exact absurd H (by simp)
       ·
        rw [if_neg c58] at H
        exact absurd H (by simp)
   ·
    rw [if_neg c8] at H
    exact absurd H (by simp)
  ·
   rw [if_neg c6] at H
   exact absurd H (by simp)
 ·
  rw [if_neg c4] at H
  exact absurd H (by simp)

end Go.Proofs.Ytbdpnecnnokkkaa.PSheetEncodes
