/- One piece of the machine's side of the law, written by a program over the translation; Lean checks it. -/
import Derived.Test.YtpplklickfioiaaOWireDecodesx0
import Derived.Test.YtpplklickfioiaaOWireDecodesx8
import Derived.Test.YtpplklickfioiaaOWireDecodesx10
import Derived.Test.YtpplklickfioiaaShort
namespace Go.Proofs.Ytpplklickfioiaa.PWireDecodes
open Go.RowKit Go.Proofs.YtpplklickfioiaaW.PrintWords Go.Proofs.YtpplklickfioiaaW.PrintLast Go.Proofs.YtpplklickfioiaaW.PrintMore
attribute [local go_sem] max2_int min2_int max_two min_two max_three min_three max_four min_four   -- for this text's walks alone
set_option linter.unusedVariables false
set_option linter.unusedSimpArgs false

/-! ### wire_Decode: function 27 -/
mutual
def wire_Decode.j0 : Nat → List Int → List (S40) → Int → Int → Bool → Option ((List (S40)) × Int × Int)
 | 0, _, _, _, _, _ => none
 | k + 1, x0, x2, x4, x5, x20 => if x20 = true then (some (([] : List (S40)), 6, 0)) else (wire_Decode.l0 k x0 x2 x4 x5 0)
def wire_Decode.l0 : Nat → List Int → List (S40) → Int → Int → Int → Option ((List (S40)) × Int × Int)
 | 0, _, _, _, _, _ => none
 | k + 1, x0, x2, x4, x21, x22 => if x22 < x21 then ((wire_Get.f k x0 x4).bind fun bt377 => (if bt377.2.2.2.2.2.2.2.2.2.2 = 0 then (if x2.length < 1172812402961 then (wire_Decode.l0 k x0 (x2 ++ [(⟨bt377.1, bt377.2.1, (⟨bt377.2.2.1, (⟨bt377.2.2.2.1, bt377.2.2.2.2.1⟩ : S36), bt377.2.2.2.2.2.1⟩ : S38), bt377.2.2.2.2.2.2.1, bt377.2.2.2.2.2.2.2.1, bt377.2.2.2.2.2.2.2.2.1⟩ : S40)]) bt377.2.2.2.2.2.2.2.2.2.1 x21 (IntKind.u64.wrap (x22 + 1))) else (none)) else (some (([] : List (S40)), 6, x4)))) else (if x4 = (x0.length : Int) then (some (x2, 0, x4)) else (some (([] : List (S40)), 6, x4)))
end
def wire_Decode.f (k : Nat) (l0 : List Int) : Option ((List (S40)) × Int × Int) := (num_Get.f k l0 0).bind fun bt374 => (if bt374.2.2 = 0 then (wire_Decode.j0 k l0 ([] : List (S40)) bt374.2.1 bt374.1 (decide (bt374.1 > 4096))) else (wire_Decode.j0 k l0 ([] : List (S40)) bt374.2.1 bt374.1 true))
theorem wire_Decode.mono_l : ∀ k, (∀ y0 y1 y2 y3 y4, LeO (wire_Decode.j0 k y0 y1 y2 y3 y4) (wire_Decode.j0 (k + 1) y0 y1 y2 y3 y4)) ∧ (∀ y0 y1 y2 y3 y4, LeO (wire_Decode.l0 k y0 y1 y2 y3 y4) (wire_Decode.l0 (k + 1) y0 y1 y2 y3 y4))
 | 0 => ⟨fun _ _ _ _ _ r h => by simp [wire_Decode.j0] at h, fun _ _ _ _ _ r h => by simp [wire_Decode.l0] at h⟩
 | k + 1 => by
  obtain ⟨ih0, ih1⟩ := wire_Decode.mono_l k
  refine ⟨?_, ?_⟩
  ·
   intro y0 y1 y2 y3 y4
   unfold wire_Decode.j0
   repeat' first
   | (with_reducible exact ih0 _ _ _ _ _)
   | (with_reducible exact ih1 _ _ _ _ _)
   | (with_reducible exact num_Get.mono _ _ _)
   | (with_reducible exact wire_Get.mono _ _ _)
   | (with_reducible exact LeO.refl _)
   | (with_reducible exact LeO.none _)
   | (with_reducible refine LeO.ite ?_ ?_)
   | (with_reducible refine LeO.bind ?_ (fun _ => ?_))
   | exact ih0 _ _ _ _ _
   | exact ih1 _ _ _ _ _
   | exact num_Get.mono _ _ _
   | exact wire_Get.mono _ _ _
   | exact LeO.none _
   | refine LeO.ite ?_ ?_
   | refine LeO.bind ?_ (fun _ => ?_)
  ·
   intro y0 y1 y2 y3 y4
   unfold wire_Decode.l0
   repeat' first
   | (with_reducible exact ih0 _ _ _ _ _)
   | (with_reducible exact ih1 _ _ _ _ _)
   | (with_reducible exact num_Get.mono _ _ _)
   | (with_reducible exact wire_Get.mono _ _ _)
   | (with_reducible exact LeO.refl _)
   | (with_reducible exact LeO.none _)
   | (with_reducible refine LeO.ite ?_ ?_)
   | (with_reducible refine LeO.bind ?_ (fun _ => ?_))
   | exact ih0 _ _ _ _ _
   | exact ih1 _ _ _ _ _
   | exact num_Get.mono _ _ _
   | exact wire_Get.mono _ _ _
   | exact LeO.none _
   | refine LeO.ite ?_ ?_
   | refine LeO.bind ?_ (fun _ => ?_)
theorem wire_Decode.mono : ∀ a0 k, LeO (wire_Decode.f k a0) (wire_Decode.f (k + 1) a0) := by
 intro a0 k
 obtain ⟨ih0, ih1⟩ := wire_Decode.mono_l k
 unfold wire_Decode.f
 repeat' first
   | (with_reducible exact ih0 _ _ _ _ _)
   | (with_reducible exact ih1 _ _ _ _ _)
   | (with_reducible exact num_Get.mono _ _ _)
   | (with_reducible exact wire_Get.mono _ _ _)
   | (with_reducible exact LeO.refl _)
   | (with_reducible exact LeO.none _)
   | (with_reducible refine LeO.ite ?_ ?_)
   | (with_reducible refine LeO.bind ?_ (fun _ => ?_))
   | exact ih0 _ _ _ _ _
   | exact ih1 _ _ _ _ _
   | exact num_Get.mono _ _ _
   | exact wire_Get.mono _ _ _
   | exact LeO.none _
   | refine LeO.ite ?_ ?_
   | refine LeO.bind ?_ (fun _ => ?_)
set_option maxHeartbeats 8000000 in
set_option maxRecDepth 100000 in
theorem wire_Decode.calls (k : Nat) (A0 : Option Addr) (c0 : Nat) (l0 : List Int) (r1 : List (S40)) (r2 : Int) (r3 : Int) (w : World) (hr0 : Kd.C (Kd.int .u8) w A0 l0.length l0) (hc0 : l0.length ≤ c0) (h : wire_Decode.f k l0 = some (r1, r2, r3)) :
  Calls Try.prog 27 #[.slice A0 l0.length c0] w fun e w' => ∃ v0_ : Value, e = .returned (.tuple #[v0_, .int .i64 r2, .int .i64 r3]) ∧ Kd.N k40 40 w' w.heap.size (fun k_ => (w.heap.size ≤ k_)) v0_ r1 ∧ Below w.heap.size w w' := by
 have hu40 := Try.underlying40
 have HR0 := Aside0.mk hr0
 have HC0 := Aside0.mk hc0
 clear hr0 hc0
 have HB := Aside0.mk (Below.refl w.heap.size w)
 have H : ((num_Get.f k l0 0).bind fun bt374 => (if bt374.2.2 = 0 then (wire_Decode.j0 k l0 ([] : List (S40)) bt374.2.1 bt374.1 (decide (bt374.1 > 4096))) else (wire_Decode.j0 k l0 ([] : List (S40)) bt374.2.1 bt374.1 true))) = some (r1, r2, r3) := h
 clear h
 replace H := Option.bind_eq_some_iff.mp H
 obtain ⟨⟨t374, t375, t376⟩, A20, H⟩ := H
 replace H : (if t376 = 0 then (wire_Decode.j0 k l0 ([] : List (S40)) t375 t374 (decide (t374 > 4096))) else (wire_Decode.j0 k l0 ([] : List (S40)) t375 t374 true)) = some (r1, r2, r3) := H
 have A2 := Aside0.mk A20
 clear A20
 have HC3 := Aside0.mk H
 clear H
 go_enter Try.func27, Try.ntmps27
 go_upto_region 2 with (first | ((with_reducible refine gate_callee (f := 31) rfl ?_); refine goesL_ (some 11) rfl rfl Try.func31 (by kernel_rfl) rfl #[.slice A0 l0.length c0, .int .i64 0] rfl mpq ?_; (with_reducible refine (num_Get.calls k _ _ l0 0 t374 t375 t376 _ ?side1 ?side2 A2.out).mono ?_); (case side1 => repeat (first | exact HR0.out | (with_reducible refine Kd.C_alloc ?_ _) | (with_reducible refine Kd.C_drewN ?_ _) | (with_reducible refine Kd.C_drew ?_))); (case side2 => exact HC0.out); rintro e w' ⟨rfl, ⟨nd, rfl⟩⟩; refine ⟨_, rfl, ?_⟩))
 (try simp only [Act.put, List.setIfInBounds_toArray, List.set_cons_zero, List.set_cons_succ])
 go_cut [20] (fun v20 wc => ∃ (kq : Nat) (x20_2 : Bool), v20 = .bool x20_2 ∧ Aside0 (wire_Decode.j0 kq l0 ([] : List (S40)) t375 t374 x20_2 = some (r1, r2, r3)) ∧ Aside0 (kq ≤ k) ∧ Aside0 (Kd.N k40 40 wc w.heap.size (fun k_ => (w.heap.size ≤ k_)) (.slice none 0 0) ([] : List (S40))) ∧ Aside0 (Below w.heap.size w wc))
 case first =>
  have H := HC3.out
  clear HC3
  by_cases c4 : t376 = 0
  ·
   rw [if_pos c4] at H
   have c4b0 : (t376 == 0) = true := beq_iff_eq.mpr c4
   have c4b1 : (t376 != 0) = false := bne_eq_false_iff_eq.mpr c4
   clear c4
   (first | rw [c4b0] | (simp only [i64_w, i32_w]; rw [c4b0]) | skip)
   have H' := Aside0.mk H
   clear H
   go_wp2
   go_meet
   case rel => exact ⟨_, (decide (t374 > 4096)), (by first | rfl | (simp; done) | (simp [*]; done)), H', ⟨by first | omega | exact Nat.le_refl _⟩, ⟨by first | exact Kd.S_nil _ _ _ _ _ | exact Kd.N_nil _ _ _ _ _ | exact Kd.V_nil _ _ _ _ _ | exact Kd.Q_nil _ _ _ _ _ | exact Kd.R_nil _ _ _ _ _⟩, ⟨bl⟩⟩
  ·
   rw [if_neg c4] at H
   have c4b0 : (t376 == 0) = false := beq_eq_false_iff_ne.mpr c4
   have c4b1 : (t376 != 0) = true := bne_iff_ne.mpr c4
   (first | rw [c4b0] | (simp only [i64_w, i32_w]; rw [c4b0]) | skip)
   have H' := Aside0.mk H
   clear H
   go_wp2
   go_meet
   case rel => exact ⟨_, (true), (by first | rfl | (simp; done) | (simp [*]; done)), H', ⟨by first | omega | exact Nat.le_refl _⟩, ⟨by first | exact Kd.S_nil _ _ _ _ _ | exact Kd.N_nil _ _ _ _ _ | exact Kd.V_nil _ _ _ _ _ | exact Kd.Q_nil _ _ _ _ _ | exact Kd.R_nil _ _ _ _ _⟩, ⟨bl⟩⟩
 case rest =>
  clear HC3
  obtain ⟨kq, x20_2, rfl, HA, HJ2, HO_2, HB⟩ := hcut
  cases kq with
  | zero => exact absurd HA.out (by simp [wire_Decode.j0])
  | succ kj2 =>
   have H := HA.out
   clear HA
   simp only [wire_Decode.j0] at H
   by_cases c5 : x20_2 = true
   ·
    subst c5
    have H1 : (some (([] : List (S40)), 6, 0)) = some (r1, r2, r3) := by rw [if_pos rfl] at H; exact H
    clear H
    have H := H1
    clear H1
    simp only [Option.some.injEq, Prod.mk.injEq] at H
    obtain ⟨rfl, rfl, rfl⟩ := H
    go_wp2
    go_ret3
    exact ⟨_, erq, by first | exact Kd.S_nil _ _ _ _ _ | exact Kd.N_nil _ _ _ _ _ | exact Kd.V_nil _ _ _ _ _ | exact Kd.Q_nil _ _ _ _ _ | exact Kd.R_nil _ _ _ _ _, by repeat (first | (with_reducible first | exact HB.out | apply below_alloc | apply pw_below_drewN | apply below_drew1) | exact HB.out)⟩
   ·
    replace c5 := Bool.eq_false_iff.mpr c5
    subst c5
    have H1 : (wire_Decode.l0 kj2 l0 ([] : List (S40)) t375 t374 0) = some (r1, r2, r3) := by rw [if_neg (show ¬ (false = true) by decide)] at H; exact H
    clear H
    have H := H1
    clear H1
    have H' := Aside0.mk H
    clear H
    go_wp2
    go_loopg [2, 4, 22] kj2 (fun kq v2 v4 v22 w' => ∃ (x2_2 : List (S40)) (x4_2 : Int) (x22_2 : Int), v4 = .int .i64 x4_2 ∧ v22 = .int .u64 x22_2 ∧ Aside0 (wire_Decode.l0 kq l0 x2_2 x4_2 t374 x22_2 = some (r1, r2, r3)) ∧ Aside0 (kq ≤ kj2) ∧ Aside0 (Kd.N k40 40 w' w.heap.size (fun k_ => (w.heap.size ≤ k_)) v2 x2_2) ∧ Aside0 (Below w.heap.size w w'))
    case atStart => exact ⟨(([] : List (S40))), (t375), (0), (by first | rfl | (simp; done) | (simp [*]; done)), (by first | rfl | (simp; done) | (simp [*]; done)), H', ⟨Nat.le_refl _⟩, ⟨by (with_reducible repeat (first | apply Kd.N_alloc | apply Kd.N_drewN | apply Kd.N_drew)); exact HO_2.out⟩, ⟨bl⟩⟩
    case round =>
     clear H'
     try clear c5
     obtain ⟨x2_2, x4_2, x22_2, rfl, rfl, HA, HK2, HO_2, HB⟩ := hrel
     cases gk with
     | zero => exact absurd HA.out (by simp [wire_Decode.l0])
     | succ k2 =>
      have H := HA.out
      clear HA
      simp only [wire_Decode.l0] at H
      by_cases c6 : x22_2 < t374
      ·
       rw [if_pos c6] at H
       have c6b0 : decide (x22_2 < t374) = true := decide_eq_true c6
       clear c6
       replace H := Option.bind_eq_some_iff.mp H
       obtain ⟨⟨t377, t378, t379, t382, t383, t384, t385, t388, t389, t392, t393⟩, A70, H⟩ := H
       replace H : (if t393 = 0 then (if x2_2.length < 1172812402961 then (wire_Decode.l0 k2 l0 (x2_2 ++ [(⟨t377, t378, (⟨t379, (⟨t382, t383⟩ : S36), t384⟩ : S38), t385, t388, t389⟩ : S40)]) t392 t374 (IntKind.u64.wrap (x22_2 + 1))) else (none)) else (some (([] : List (S40)), 6, x4_2))) = some (r1, r2, r3) := H
       have A7 := Aside0.mk A70
       clear A70
       by_cases c8 : t393 = 0
       ·
        rw [if_pos c8] at H
        have c8b0 : (t393 == 0) = true := beq_iff_eq.mpr c8
        have c8b1 : (t393 != 0) = false := bne_eq_false_iff_eq.mpr c8
        clear c8
        by_cases c9 : x2_2.length < 1172812402961
        ·
         rw [if_pos c9] at H
         have LMc9 := Aside0.mk c9
         clear c9
         obtain ⟨y395, hy395⟩ : ∃ y_ : List (S40), y_ = (x2_2 ++ [(⟨t377, t378, (⟨t379, (⟨t382, t383⟩ : S36), t384⟩ : S38), t385, t388, t389⟩ : S40)]) := ⟨_, rfl⟩
         replace H : (wire_Decode.l0 k2 l0 y395 t392 t374 (IntKind.u64.wrap (x22_2 + 1))) = some (r1, r2, r3) := by first | (rw [hy395]; with_reducible exact H) | (have H2_ := (Option.bind_some _ _).symm.trans H; rw [hy395]; with_reducible exact H2_) | (have H2_ := (Option.bind_some _ _).symm.trans H; with_reducible exact H2_) | with_reducible exact H | (rw [hy395]; exact H) | exact H
         have Ny395 := Aside0.mk hy395
         clear hy395
         have H' := Aside0.mk H
         clear H
         go_wp2_with (first | ((with_reducible refine gate_callee (f := 14) rfl ?_); refine goesL_ (some 27) rfl rfl Try.func14 (by kernel_rfl) rfl #[.slice A0 l0.length c0, .int .i64 x4_2] rfl mpq ?_; (with_reducible refine (wire_Get.calls k2 _ _ l0 x4_2 t377 t378 t379 t382 t383 t384 t385 t388 t389 t392 t393 _ ?side1 ?side2 A7.out).mono ?_); (case side1 => repeat (first | exact (Kd.C_below HR0.out HB.out) | (with_reducible refine Kd.C_alloc ?_ _) | (with_reducible refine Kd.C_drewN ?_ _) | (with_reducible refine Kd.C_drew ?_))); (case side2 => exact HC0.out); rintro e w10 ⟨v380, v386, v390, rfl, ho0, ho1, ho2, hb⟩; refine ⟨_, rfl, ?_⟩; have n0_ := Aside0.mk (Kd.N_mono (Kd.N_told (Kd.N_told (Kd.N_old (by (with_reducible repeat (first | apply Kd.N_alloc | apply Kd.N_drewN | apply Kd.N_drew)); exact HO_2.out) hb) (Kd.R_base ho0)) (Kd.R_base ho1)) (fun _ h_ => h_.1)); have n1_ := Aside0.mk (Kd.R_lower (Kd.R_newM (M := fun k_ => (w.heap.size ≤ k_)) (Kd.R_mono (ok' := fun k_ => True) ho0 (fun _ hk_ => trivial)) (below_size bl) (fun k_ h_ => h_)) (below_size bl)); have n2_ := Aside0.mk (Kd.R_lower (Kd.R_newM (M := fun k_ => (w.heap.size ≤ k_)) (Kd.R_mono (ok' := fun k_ => True) ho1 (fun _ hk_ => trivial)) (below_size bl) (fun k_ h_ => h_)) (below_size bl)); have n3_ := Aside0.mk (Kd.V_lower (Kd.V_mono (ok' := fun k_ => (w.heap.size ≤ k_) ∧ some k_ ≠ (v380 : Value).ownBlock ∧ some k_ ≠ (v386 : Value).ownBlock ∧ some k_ ≠ (u2 : Value).ownBlock) ho2 (fun k_ hk_ => ⟨(Nat.le_trans (below_size bl) hk_.1), hk_.2.1, hk_.2.2, (Kd.fresh' (Kd.N_lt (by (with_reducible repeat (first | apply Kd.N_alloc | apply Kd.N_drewN | apply Kd.N_drew)); exact HO_2.out)) k_ hk_.1)⟩)) (below_size bl)); have n4_ := Aside0.mk (below_step bl hb); clear HO_2; clear HB; have HO_2 := n0_; have HO381 := n1_; have HO387 := n2_; have HO391 := n3_; have HB := n4_; clear n0_ n1_ n2_ n3_ n4_; (try clear hb); (try clear hb2); (try clear hk); (try clear hi); (try clear ho0); (try clear ho1); (try clear ho2)) | ((with_reducible refine gate_dst (N := 6) rfl ?_); refine box_event ?hg (N := 6) ?hd (cs := #[.int .i64 0, .int .i64 0, .slice none 0 0, .int .i64 0, .int .i64 0, .int .i64 0, .slice none 0 0, .int .i64 0, .slice none 0 0]) (t := 40) ?hr ?_; (case hd => rfl); (case hg => rfl); (case hr => first | (go_simp; done) | (go_simp; rfl)); intro gb394 hg w11 hbox hb; have n0_ := Aside0.mk (Kd.N_below (Kd.N_elderB (by (with_reducible repeat (first | apply Kd.N_alloc | apply Kd.N_drewN | apply Kd.N_drew)); exact HO_2.out) gb394 (Nat.le_of_eq hg.symm)) hb); have n1_ := Aside0.mk (Kd.R_below (rp HO381.out) hb); have n2_ := Aside0.mk (Kd.R_below (rp HO387.out) hb); have n3_ := Aside0.mk (Kd.V_below (Kd.V_elderB (by (with_reducible repeat (first | apply Kd.V_alloc | apply Kd.V_drewN | apply Kd.V_drew)); exact HO391.out) gb394 (Nat.le_of_eq hg.symm)) hb); have n4_ := Aside0.mk (below_step bl hb); have n5_ := Aside0.mk (hbox); have n6_ := Aside0.mk ((by rw [hg]; exact (below_size bl) : w.heap.size ≤ gb394)); have n7_ := Aside0.mk ((by rw [hg]; exact (below_size bl) : w.heap.size ≤ gb394)); clear HO_2; clear HO381; clear HO387; clear HO391; clear HB; have HO_2 := n0_; have HO381 := n1_; have HO387 := n2_; have HO391 := n3_; have HB := n4_; have BK394 := n5_; have GW394 := n6_; have GE394 := n7_; clear n0_ n1_ n2_ n3_ n4_ n5_ n6_ n7_; clear hb hbox hg; obtain ⟨hcz12_0, hcz12_1, hcz12_2, hcz12_3, hcz12_4, hcz12_5, hcz12_6, hcz12_7, hcz12_8⟩ := cells9 BK394.out; obtain ⟨hfz12_0, hfz12_1, hfz12_2, hfz12_3, hfz12_4, hfz12_5, hfz12_6, hfz12_7, hfz12_8⟩ := frz9 BK394.out; obtain ⟨Ao13, co13, eo13⟩ := Kd.R_slice HO381.out; subst eo13; obtain ⟨Ao14, co14, eo14⟩ := Kd.R_slice HO387.out; subst eo14; obtain ⟨Ao15, co15, eo15⟩ := Kd.V_slice HO391.out; subst eo15) | ((with_reducible refine gate_store (t := 40) (p := 6) rfl ?_); refine store_event (t := 40) (p := 6) (v := ?vo_w16) (w1 := (((((((((w11.setCell ⟨gb394, 0, none⟩ (.int .i64 t377)).setCell ⟨gb394, 1, none⟩ (.int .i64 t378)).setCell ⟨gb394, 2, none⟩ (.slice Ao13 t379.length co13)).setCell ⟨gb394, 3, none⟩ (.int .i64 t382)).setCell ⟨gb394, 4, none⟩ (.int .i64 t383)).setCell ⟨gb394, 5, none⟩ (.int .i64 t384)).setCell ⟨gb394, 6, none⟩ (.slice Ao14 t385.length co14)).setCell ⟨gb394, 7, none⟩ (.int .i64 t388)).setCell ⟨gb394, 8, none⟩ (.slice Ao15 t389.length co15))) ?hg ?ho ?hn ?hr ?_; (case ho => rfl); (case hg => rfl); (case hn => rfl); (case hr => first | (go_simp; done) | (go_simp; rfl)); intro w16 hw; have n0_ : Aside0 (Kd.N k40 40 w16 w.heap.size (fun k_ => (w.heap.size ≤ k_) ∧ some k_ ≠ (.slice Ao13 t379.length co13 : Value).ownBlock ∧ some k_ ≠ (.slice Ao14 t385.length co14 : Value).ownBlock ∧ k_ ≠ gb394) u2 x2_2) := ⟨(by rw [hw]; exact (by (with_reducible repeat (first | apply Kd.N_alloc | apply Kd.N_drewN | apply Kd.N_drew)); exact Kd.N_mono (Kd.N_far (p := ⟨gb394, 8, none⟩) (Kd.N_far (p := ⟨gb394, 7, none⟩) (Kd.N_far (p := ⟨gb394, 6, none⟩) (Kd.N_far (p := ⟨gb394, 5, none⟩) (Kd.N_far (p := ⟨gb394, 4, none⟩) (Kd.N_far (p := ⟨gb394, 3, none⟩) (Kd.N_far (p := ⟨gb394, 2, none⟩) (Kd.N_far (p := ⟨gb394, 1, none⟩) (Kd.N_far (p := ⟨gb394, 0, none⟩) (Kd.N_mono HO_2.out (fun k_ hk => (⟨hk, hk.2⟩ : _ ∧ k_ ≠ gb394))) (fun _ hk => hk.2) (.int .i64 t377)) (fun _ hk => hk.2) (.int .i64 t378)) (fun _ hk => hk.2) (.slice Ao13 t379.length co13)) (fun _ hk => hk.2) (.int .i64 t382)) (fun _ hk => hk.2) (.int .i64 t383)) (fun _ hk => hk.2) (.int .i64 t384)) (fun _ hk => hk.2) (.slice Ao14 t385.length co14)) (fun _ hk => hk.2) (.int .i64 t388)) (fun _ hk => hk.2) (.slice Ao15 t389.length co15)) (fun _ hk => ⟨hk.1.1.1.1, ⟨hk.1.1.1.2, ⟨hk.1.1.2, hk.1.2⟩⟩⟩)))⟩; have n1_ : Aside0 (Kd.R k103 103 w16 w.heap.size (fun k_ => (w.heap.size ≤ k_)) (.slice Ao13 t379.length co13) t379) := ⟨(by rw [hw]; exact (rp (Kd.R_mono (Kd.R_far (p := ⟨gb394, 8, none⟩) (Kd.R_far (p := ⟨gb394, 7, none⟩) (Kd.R_far (p := ⟨gb394, 6, none⟩) (Kd.R_far (p := ⟨gb394, 5, none⟩) (Kd.R_far (p := ⟨gb394, 4, none⟩) (Kd.R_far (p := ⟨gb394, 3, none⟩) (Kd.R_far (p := ⟨gb394, 2, none⟩) (Kd.R_far (p := ⟨gb394, 1, none⟩) (Kd.R_far (p := ⟨gb394, 0, none⟩) (Kd.R_types HO381.out BK394.out (by decide)) (fun _ hk => hk.2) (.int .i64 t377)) (fun _ hk => hk.2) (.int .i64 t378)) (fun _ hk => hk.2) (.slice Ao13 t379.length co13)) (fun _ hk => hk.2) (.int .i64 t382)) (fun _ hk => hk.2) (.int .i64 t383)) (fun _ hk => hk.2) (.int .i64 t384)) (fun _ hk => hk.2) (.slice Ao14 t385.length co14)) (fun _ hk => hk.2) (.int .i64 t388)) (fun _ hk => hk.2) (.slice Ao15 t389.length co15)) (fun _ hk => hk.1.1))))⟩; have n2_ : Aside0 (Kd.R k36 36 w16 w.heap.size (fun k_ => (w.heap.size ≤ k_)) (.slice Ao14 t385.length co14) t385) := ⟨(by rw [hw]; exact (rp (Kd.R_mono (Kd.R_far (p := ⟨gb394, 8, none⟩) (Kd.R_far (p := ⟨gb394, 7, none⟩) (Kd.R_far (p := ⟨gb394, 6, none⟩) (Kd.R_far (p := ⟨gb394, 5, none⟩) (Kd.R_far (p := ⟨gb394, 4, none⟩) (Kd.R_far (p := ⟨gb394, 3, none⟩) (Kd.R_far (p := ⟨gb394, 2, none⟩) (Kd.R_far (p := ⟨gb394, 1, none⟩) (Kd.R_far (p := ⟨gb394, 0, none⟩) (Kd.R_types HO387.out BK394.out (by decide)) (fun _ hk => hk.2) (.int .i64 t377)) (fun _ hk => hk.2) (.int .i64 t378)) (fun _ hk => hk.2) (.slice Ao13 t379.length co13)) (fun _ hk => hk.2) (.int .i64 t382)) (fun _ hk => hk.2) (.int .i64 t383)) (fun _ hk => hk.2) (.int .i64 t384)) (fun _ hk => hk.2) (.slice Ao14 t385.length co14)) (fun _ hk => hk.2) (.int .i64 t388)) (fun _ hk => hk.2) (.slice Ao15 t389.length co15)) (fun _ hk => hk.1.1))))⟩; have n3_ : Aside0 (Kd.V (Kd.int .u8) 5 w16 w.heap.size (fun k_ => (w.heap.size ≤ k_) ∧ some k_ ≠ (u2 : Value).ownBlock ∧ some k_ ≠ (.slice Ao13 t379.length co13 : Value).ownBlock ∧ some k_ ≠ (.slice Ao14 t385.length co14 : Value).ownBlock ∧ k_ ≠ gb394) (.slice Ao15 t389.length co15) t389) := ⟨(by rw [hw]; exact (by (with_reducible repeat (first | apply Kd.V_alloc | apply Kd.V_drewN | apply Kd.V_drew)); exact Kd.V_mono (Kd.V_far (p := ⟨gb394, 8, none⟩) (Kd.V_far (p := ⟨gb394, 7, none⟩) (Kd.V_far (p := ⟨gb394, 6, none⟩) (Kd.V_far (p := ⟨gb394, 5, none⟩) (Kd.V_far (p := ⟨gb394, 4, none⟩) (Kd.V_far (p := ⟨gb394, 3, none⟩) (Kd.V_far (p := ⟨gb394, 2, none⟩) (Kd.V_far (p := ⟨gb394, 1, none⟩) (Kd.V_far (p := ⟨gb394, 0, none⟩) (Kd.V_mono HO391.out (fun k_ hk => (⟨hk, hk.2⟩ : _ ∧ k_ ≠ gb394))) (fun _ hk => hk.2) (.int .i64 t377)) (fun _ hk => hk.2) (.int .i64 t378)) (fun _ hk => hk.2) (.slice Ao13 t379.length co13)) (fun _ hk => hk.2) (.int .i64 t382)) (fun _ hk => hk.2) (.int .i64 t383)) (fun _ hk => hk.2) (.int .i64 t384)) (fun _ hk => hk.2) (.slice Ao14 t385.length co14)) (fun _ hk => hk.2) (.int .i64 t388)) (fun _ hk => hk.2) (.slice Ao15 t389.length co15)) (fun _ hk => ⟨hk.1.1.1, ⟨hk.1.1.2.2.2, ⟨hk.1.1.2.1, ⟨hk.1.1.2.2.1, hk.1.2⟩⟩⟩⟩)))⟩; have n4_ : Aside0 (w16.heap[gb394]? = some (.cells #[.int .i64 t377, .int .i64 t378, .slice Ao13 t379.length co13, .int .i64 t382, .int .i64 t383, .int .i64 t384, .slice Ao14 t385.length co14, .int .i64 t388, .slice Ao15 t389.length co15] 40 (0, 0))) := ⟨(by rw [hw]; exact bk)⟩; have n5_ : Aside0 (Below w.heap.size w w16) := ⟨(by rw [hw]; exact bl)⟩; clear hw; clear HO_2; clear HO381; clear HO387; clear HO391; clear BK394; clear HB; have HO_2 := n0_; have HO381 := n1_; have HO387 := n2_; have HO391 := n3_; have BK394 := n4_; have HB := n5_; clear n0_ n1_ n2_ n3_ n4_ n5_; obtain ⟨hcz17_0, hcz17_1, hcz17_2, hcz17_3, hcz17_4, hcz17_5, hcz17_6, hcz17_7, hcz17_8⟩ := cells9 BK394.out; have hfz17_0 := blk_frozen BK394.out 0; have hfz17_1 := blk_frozen BK394.out 1; have hfz17_2 := blk_frozen BK394.out 2; have hfz17_3 := blk_frozen BK394.out 3; have hfz17_4 := blk_frozen BK394.out 4; have hfz17_5 := blk_frozen BK394.out 5; have hfz17_6 := blk_frozen BK394.out 6; have hfz17_7 := blk_frozen BK394.out 7; have hfz17_8 := blk_frozen BK394.out 8) | ((with_reducible refine gate_builtin (b := .append) (xs := #[.tmp 34, .tmp 36]) rfl ?_); at_builtin; refine Kd.N_append k40 (w0 := w) w.heap.size rfl (.tmp 34) (.tmp 36) 48 40 (.agg #[(.int .i64 0), (.int .i64 0), (.slice none 0 0), (.int .i64 0), (.int .i64 0), (.int .i64 0), (.slice none 0 0), (.int .i64 0), (.slice none 0 0)]) 120 rfl Try.underlying48 info40 rfl (by decide) (by omega) u2 x2_2 (⟨t377, t378, (⟨t379, (⟨t382, t383⟩ : S36), t384⟩ : S38), t385, t388, t389⟩ : S40) [.int .i64 t377, .int .i64 t378, .slice Ao13 t379.length co13, .int .i64 t382, .int .i64 t383, .int .i64 t384, .slice Ao14 t385.length co14, .int .i64 t388, .slice Ao15 t389.length co15] (fun k_ => (w.heap.size ≤ k_) ∧ k_ ≠ gb394) (fun k_ => ((fun k_ => (w.heap.size ≤ k_) ∧ k_ ≠ gb394)) k_ ∧ some k_ ≠ (u2 : Value).ownBlock) rfl rfl ?aP (fun _ hk => hk) ?aF ?aO ?aB ?aS ?aL ?_; (case aP => exact (k40_mkF _ _ (⟨t377, t378, (⟨t379, (⟨t382, t383⟩ : S36), t384⟩ : S38), t385, t388, t389⟩ : S40) (Kd.R_reads' (Kd.R_mono (ok' := (fun k_ => ((fun k_ => (w.heap.size ≤ k_) ∧ k_ ≠ gb394)) k_ ∧ some k_ ≠ (u2 : Value).ownBlock)) (Kd.R_types (Kd.R_apart' (HO381.out) (Kd.N_typed HO_2.out) (by decide)) BK394.out (by decide)) (fun k_ hk => ⟨⟨hk.1.1, hk.2⟩, hk.1.2⟩))).2.1 (Kd.R_F (Kd.R_mono (ok' := (fun k_ => ((fun k_ => (w.heap.size ≤ k_) ∧ k_ ≠ gb394)) k_ ∧ some k_ ≠ (u2 : Value).ownBlock)) (Kd.R_types (Kd.R_apart' (HO381.out) (Kd.N_typed HO_2.out) (by decide)) BK394.out (by decide)) (fun k_ hk => ⟨⟨hk.1.1, hk.2⟩, hk.1.2⟩))) (Kd.R_reads' (Kd.R_mono (ok' := (fun k_ => ((fun k_ => (w.heap.size ≤ k_) ∧ k_ ≠ gb394)) k_ ∧ some k_ ≠ (u2 : Value).ownBlock)) (Kd.R_types (Kd.R_apart' (HO387.out) (Kd.N_typed HO_2.out) (by decide)) BK394.out (by decide)) (fun k_ hk => ⟨⟨hk.1.1, hk.2⟩, hk.1.2⟩))).2.1 (Kd.R_F (Kd.R_mono (ok' := (fun k_ => ((fun k_ => (w.heap.size ≤ k_) ∧ k_ ≠ gb394)) k_ ∧ some k_ ≠ (u2 : Value).ownBlock)) (Kd.R_types (Kd.R_apart' (HO387.out) (Kd.N_typed HO_2.out) (by decide)) BK394.out (by decide)) (fun k_ hk => ⟨⟨hk.1.1, hk.2⟩, hk.1.2⟩))) (Kd.V_reads' (Kd.V_mono (ok' := (fun k_ => ((fun k_ => (w.heap.size ≤ k_) ∧ k_ ≠ gb394)) k_ ∧ some k_ ≠ (u2 : Value).ownBlock)) (HO391.out) (fun k_ hk => ⟨⟨hk.1, hk.2.2.2.2⟩, hk.2.1⟩))).2.1 (Kd.V_F (Kd.V_mono (ok' := (fun k_ => ((fun k_ => (w.heap.size ≤ k_) ∧ k_ ≠ gb394)) k_ ∧ some k_ ≠ (u2 : Value).ownBlock)) (HO391.out) (fun k_ hk => ⟨⟨hk.1, hk.2.2.2.2⟩, hk.2.1⟩))))); (case aB => exact bl); (case aF => exact (fun k_ hk => ⟨(Nat.le_trans (below_size bl) hk), Kd.freshB (g := gb394) (o := .cells #[.int .i64 t377, .int .i64 t378, .slice Ao13 t379.length co13, .int .i64 t382, .int .i64 t383, .int .i64 t384, .slice Ao14 t385.length co14, .int .i64 t388, .slice Ao15 t389.length co15] 40 (0, 0)) bk k_ hk⟩)); (case aO => exact (by (with_reducible repeat (first | apply Kd.N_alloc | apply Kd.N_drewN | apply Kd.N_drew)); exact Kd.N_mono HO_2.out (fun _ hk => ⟨hk.1, hk.2.2.2⟩))); (case aS => exact (below_size bl)); (case aL => have := LMc9.out; omega); intro v396 w18 ho hb hg hat; rw [← Ny395.out] at ho; have n0_ := Aside0.mk (Kd.V_afterv (ok := (fun k_ => (w.heap.size ≤ k_) ∧ some k_ ≠ (.slice Ao13 t379.length co13 : Value).ownBlock ∧ some k_ ≠ (.slice Ao14 t385.length co14 : Value).ownBlock ∧ k_ ≠ gb394)) (by (with_reducible repeat (first | apply Kd.V_alloc | apply Kd.V_drewN | apply Kd.V_drew)); exact Kd.V_mono HO391.out (fun _ hk => ⟨⟨hk.1, ⟨hk.2.2.1, ⟨hk.2.2.2.1, hk.2.2.2.2⟩⟩⟩, hk.2.1⟩)) hg hat); have n1_ := Aside0.mk (blk_grown (g := gb394) (o := .cells #[.int .i64 t377, .int .i64 t378, .slice Ao13 t379.length co13, .int .i64 t382, .int .i64 t383, .int .i64 t384, .slice Ao14 t385.length co14, .int .i64 t388, .slice Ao15 t389.length co15] 40 (0, 0)) bk hg (Kd.N_away HO_2.out (fun _ hk => hk.2.2.2))); have n2_ := Aside0.mk (hb); have n3_ := Aside0.mk (ho); clear HO391; clear BK394; clear HB; clear HO_2; clear HO381; clear HO387; have HO391 := n0_; have BK394 := n1_; have HB := n2_; have HO397 := n3_; clear n0_ n1_ n2_ n3_; clear ho hb hg hat))
         go_roundg k2
         case measure => have := HJ2.out; have := HK2.out; omega
         case rel => exact ⟨(y395), (t392), (IntKind.u64.wrap (x22_2 + 1)), (by first | rfl | (simp; done) | (simp [*]; done)), (by first | rfl | (simp; done) | (simp [*]; done)), H', ⟨by have := HJ2.out; have := HK2.out; omega⟩, ⟨by (with_reducible repeat (first | apply Kd.N_alloc | apply Kd.N_drewN | apply Kd.N_drew)); exact Kd.N_mono HO397.out (fun _ hk => hk.1)⟩, ⟨bl⟩⟩
        ·
         rw [if_neg c9] at H
         exact absurd H (by simp)
       ·
        rw [if_neg c8] at H
        have c8b0 : (t393 == 0) = false := beq_eq_false_iff_ne.mpr c8
        have c8b1 : (t393 != 0) = true := bne_iff_ne.mpr c8
        simp only [Option.some.injEq, Prod.mk.injEq] at H
        obtain ⟨rfl, rfl, rfl⟩ := H
        go_wp2_with (first | ((with_reducible refine gate_callee (f := 14) rfl ?_); refine goesL_ (some 27) rfl rfl Try.func14 (by kernel_rfl) rfl #[.slice A0 l0.length c0, .int .i64 x4_2] rfl mpq ?_; (with_reducible refine (wire_Get.calls k2 _ _ l0 x4_2 t377 t378 t379 t382 t383 t384 t385 t388 t389 t392 t393 _ ?side1 ?side2 A7.out).mono ?_); (case side1 => repeat (first | exact (Kd.C_below HR0.out HB.out) | (with_reducible refine Kd.C_alloc ?_ _) | (with_reducible refine Kd.C_drewN ?_ _) | (with_reducible refine Kd.C_drew ?_))); (case side2 => exact HC0.out); rintro e w19 ⟨v380, v386, v390, rfl, ho0, ho1, ho2, hb⟩; refine ⟨_, rfl, ?_⟩; have n0_ := Aside0.mk (Kd.N_mono (Kd.N_told (Kd.N_told (Kd.N_old (by (with_reducible repeat (first | apply Kd.N_alloc | apply Kd.N_drewN | apply Kd.N_drew)); exact HO_2.out) hb) (Kd.R_base ho0)) (Kd.R_base ho1)) (fun _ h_ => h_.1)); have n1_ := Aside0.mk (Kd.R_lower (Kd.R_newM (M := fun k_ => (w.heap.size ≤ k_)) (Kd.R_mono (ok' := fun k_ => True) ho0 (fun _ hk_ => trivial)) (below_size bl) (fun k_ h_ => h_)) (below_size bl)); have n2_ := Aside0.mk (Kd.R_lower (Kd.R_newM (M := fun k_ => (w.heap.size ≤ k_)) (Kd.R_mono (ok' := fun k_ => True) ho1 (fun _ hk_ => trivial)) (below_size bl) (fun k_ h_ => h_)) (below_size bl)); have n3_ := Aside0.mk (Kd.V_lower (Kd.V_mono (ok' := fun k_ => (w.heap.size ≤ k_) ∧ some k_ ≠ (v380 : Value).ownBlock ∧ some k_ ≠ (v386 : Value).ownBlock ∧ some k_ ≠ (u2 : Value).ownBlock) ho2 (fun k_ hk_ => ⟨(Nat.le_trans (below_size bl) hk_.1), hk_.2.1, hk_.2.2, (Kd.fresh' (Kd.N_lt (by (with_reducible repeat (first | apply Kd.N_alloc | apply Kd.N_drewN | apply Kd.N_drew)); exact HO_2.out)) k_ hk_.1)⟩)) (below_size bl)); have n4_ := Aside0.mk (below_step bl hb); clear HO_2; clear HB; have HO_2 := n0_; have HO381 := n1_; have HO387 := n2_; have HO391 := n3_; have HB := n4_; clear n0_ n1_ n2_ n3_ n4_; (try clear hb); (try clear hb2); (try clear hk); (try clear hi); (try clear ho0); (try clear ho1); (try clear ho2)) | ((with_reducible refine gate_dst (N := 6) rfl ?_); refine box_event ?hg (N := 6) ?hd (cs := #[.int .i64 0, .int .i64 0, .slice none 0 0, .int .i64 0, .int .i64 0, .int .i64 0, .slice none 0 0, .int .i64 0, .slice none 0 0]) (t := 40) ?hr ?_; (case hd => rfl); (case hg => rfl); (case hr => first | (go_simp; done) | (go_simp; rfl)); intro gb394 hg w20 hbox hb; have n0_ := Aside0.mk (Kd.N_below (Kd.N_elderB (by (with_reducible repeat (first | apply Kd.N_alloc | apply Kd.N_drewN | apply Kd.N_drew)); exact HO_2.out) gb394 (Nat.le_of_eq hg.symm)) hb); have n1_ := Aside0.mk (Kd.R_below (rp HO381.out) hb); have n2_ := Aside0.mk (Kd.R_below (rp HO387.out) hb); have n3_ := Aside0.mk (Kd.V_below (Kd.V_elderB (by (with_reducible repeat (first | apply Kd.V_alloc | apply Kd.V_drewN | apply Kd.V_drew)); exact HO391.out) gb394 (Nat.le_of_eq hg.symm)) hb); have n4_ := Aside0.mk (below_step bl hb); have n5_ := Aside0.mk (hbox); have n6_ := Aside0.mk ((by rw [hg]; exact (below_size bl) : w.heap.size ≤ gb394)); have n7_ := Aside0.mk ((by rw [hg]; exact (below_size bl) : w.heap.size ≤ gb394)); clear HO_2; clear HO381; clear HO387; clear HO391; clear HB; have HO_2 := n0_; have HO381 := n1_; have HO387 := n2_; have HO391 := n3_; have HB := n4_; have BK394 := n5_; have GW394 := n6_; have GE394 := n7_; clear n0_ n1_ n2_ n3_ n4_ n5_ n6_ n7_; clear hb hbox hg; obtain ⟨hcz21_0, hcz21_1, hcz21_2, hcz21_3, hcz21_4, hcz21_5, hcz21_6, hcz21_7, hcz21_8⟩ := cells9 BK394.out; obtain ⟨hfz21_0, hfz21_1, hfz21_2, hfz21_3, hfz21_4, hfz21_5, hfz21_6, hfz21_7, hfz21_8⟩ := frz9 BK394.out; obtain ⟨Ao22, co22, eo22⟩ := Kd.R_slice HO381.out; subst eo22; obtain ⟨Ao23, co23, eo23⟩ := Kd.R_slice HO387.out; subst eo23; obtain ⟨Ao24, co24, eo24⟩ := Kd.V_slice HO391.out; subst eo24))
        go_ret3
        exact ⟨_, erq, by first | exact Kd.S_nil _ _ _ _ _ | exact Kd.N_nil _ _ _ _ _ | exact Kd.V_nil _ _ _ _ _ | exact Kd.Q_nil _ _ _ _ _ | exact Kd.R_nil _ _ _ _ _, by repeat (first | (with_reducible first | exact HB.out | apply below_alloc | apply pw_below_drewN | apply below_drew1 | refine below_set ?_ GE394.out) | exact HB.out)⟩
      ·
       rw [if_neg c6] at H
       have c6b0 : decide (x22_2 < t374) = false := decide_eq_false c6
       clear c6
       by_cases c25 : x4_2 = (l0.length : Int)
       ·
        rw [if_pos c25] at H
        have c25b0 : (x4_2 == (l0.length : Int)) = true := beq_iff_eq.mpr c25
        have c25b1 : (x4_2 != (l0.length : Int)) = false := bne_eq_false_iff_eq.mpr c25
        clear c25
        simp only [Option.some.injEq, Prod.mk.injEq] at H
        obtain ⟨rfl, rfl, rfl⟩ := H
        go_wp2
        go_ret3
        exact ⟨_, erq, by (with_reducible repeat (first | apply Kd.N_alloc | apply Kd.N_drewN | apply Kd.N_drew)); exact HO_2.out, by repeat (first | (with_reducible first | exact HB.out | apply below_alloc | apply pw_below_drewN | apply below_drew1) | exact HB.out)⟩
       ·
        rw [if_neg c25] at H
        have c25b0 : (x4_2 == (l0.length : Int)) = false := beq_eq_false_iff_ne.mpr c25
        have c25b1 : (x4_2 != (l0.length : Int)) = true := bne_iff_ne.mpr c25
        simp only [Option.some.injEq, Prod.mk.injEq] at H
        obtain ⟨rfl, rfl, rfl⟩ := H
        go_wp2
        go_ret3
        exact ⟨_, erq, by first | exact Kd.S_nil _ _ _ _ _ | exact Kd.N_nil _ _ _ _ _ | exact Kd.V_nil _ _ _ _ _ | exact Kd.Q_nil _ _ _ _ _ | exact Kd.R_nil _ _ _ _ _, by repeat (first | (with_reducible first | exact HB.out | apply below_alloc | apply pw_below_drewN | apply below_drew1) | exact HB.out)⟩

/-! ### runnelref01_Bytes: function 33 -/
def runnelref01_Bytes.l0 : Nat → Int → List Int → Option (List Int)
 | 0, _, _ => none
 | k + 1, x0, x3 => if x0 > 0 then ((some (([(IntKind.u64.wrap ((Int.tmod x0 128) + 128)) % 256] : List Int) : List Int)).bind fun y401 => (if y401.length + x3.length < 140737488355328 then (runnelref01_Bytes.l0 k (IntKind.u64.wrap (Int.tdiv x0 128)) (y401 ++ x3)) else (none))) else (some x3)
def runnelref01_Bytes.f (k : Nat) (a0 : Int) : Option (List Int) := runnelref01_Bytes.l0 k (IntKind.u64.wrap (Int.tdiv a0 128)) (([(Int.tmod a0 128) % 256] : List Int))
theorem runnelref01_Bytes.mono_l : ∀ k, (∀ y0 y1, LeO (runnelref01_Bytes.l0 k y0 y1) (runnelref01_Bytes.l0 (k + 1) y0 y1))
 | 0 => fun _ _ r h => by simp [runnelref01_Bytes.l0] at h
 | k + 1 => by
  have ih0 := runnelref01_Bytes.mono_l k
  ·
   intro y0 y1
   unfold runnelref01_Bytes.l0
   repeat' first
   | (with_reducible exact ih0 _ _)
   | (with_reducible exact LeO.refl _)
   | (with_reducible exact LeO.none _)
   | (with_reducible refine LeO.ite ?_ ?_)
   | (with_reducible refine LeO.bind ?_ (fun _ => ?_))
   | exact ih0 _ _
   | exact LeO.none _
   | refine LeO.ite ?_ ?_
   | refine LeO.bind ?_ (fun _ => ?_)
theorem runnelref01_Bytes.mono : ∀ a0 k, LeO (runnelref01_Bytes.f k a0) (runnelref01_Bytes.f (k + 1) a0) := by
 intro a0 k
 have ih0 := runnelref01_Bytes.mono_l k
 unfold runnelref01_Bytes.f
 repeat' first
   | (with_reducible exact ih0 _ _)
   | (with_reducible exact LeO.refl _)
   | (with_reducible exact LeO.none _)
   | (with_reducible refine LeO.ite ?_ ?_)
   | (with_reducible refine LeO.bind ?_ (fun _ => ?_))
   | exact ih0 _ _
   | exact LeO.none _
   | refine LeO.ite ?_ ?_
   | refine LeO.bind ?_ (fun _ => ?_)
set_option maxHeartbeats 8000000 in
set_option maxRecDepth 100000 in
theorem runnelref01_Bytes.calls (k : Nat) (a0 : Int) (r : List Int) (w : World) (h : runnelref01_Bytes.f k a0 = some r) :
  Calls Try.prog 33 #[.int .u64 a0] w fun e w' => ∃ v0_ : Value, e = .returned (v0_) ∧ Kd.R (Kd.int .u8) 5 w' w.heap.size (fun _ => True) v0_ r ∧ Below w.heap.size w w' := by
 have HB := Aside0.mk (Below.refl w.heap.size w)
 have H : (runnelref01_Bytes.l0 k (IntKind.u64.wrap (Int.tdiv a0 128)) (([(Int.tmod a0 128) % 256] : List Int))) = some r := h
 clear h
 obtain ⟨y398, hy398⟩ : ∃ y_ : List Int, y_ = (([(Int.tmod a0 128) % 256] : List Int)) := ⟨_, rfl⟩
 replace H : (runnelref01_Bytes.l0 k (IntKind.u64.wrap (Int.tdiv a0 128)) y398) = some r := by first | (rw [hy398]; with_reducible exact H) | (have H2_ := (Option.bind_some _ _).symm.trans H; rw [hy398]; with_reducible exact H2_) | (have H2_ := (Option.bind_some _ _).symm.trans H; with_reducible exact H2_) | with_reducible exact H | (rw [hy398]; exact H) | exact H
 have Ny398 := Aside0.mk hy398
 clear hy398
 have H' := Aside0.mk H
 clear H
 go_enter Try.func33, Try.ntmps33
 go_wp2_with (first | ((with_reducible refine gate_dst (N := 7) rfl ?_); refine Kd.R_lit (Kd.int .u8) _ 5 ?hg (N := 7) ?hd (xs := ([(Int.tmod a0 128) % 256] : List Int)) (inner := [.int .u8 ((Int.tmod a0 128) % 256)]) (ok := fun _ => True) (okp := fun _ => True) ?hr ?hp (fun _ hk => hk) trivial (Below.refl _ _) (Nat.le_refl _) (by simp) ?_; (case hd => rfl); (case hg => rfl); (case hr => first | (go_simp; done) | (go_simp; rfl)); (case hp => exact (Reps.one (show Kd.M (Kd.int .u8) _ _ _ ((Int.tmod a0 128) % 256) [.int .u8 ((Int.tmod a0 128) % 256)] from rfl) (Reps.none _ _))); intro v399 w2 ho3 hb hg_ hnew_; clear hg_ hnew_; (first | rw [← Ny398.out] at ho3 | (simp only [Int.reduceToNat] at ho3; rw [← Ny398.out] at ho3)); have n0_ := Aside0.mk (Kd.R_lower ho3 (below_size bl)); have n1_ := Aside0.mk (below_step bl hb); clear HB; have HO400 := n0_; have HB := n1_; clear n0_ n1_; clear hb ho3))
 go_loopg [0, 3] k (fun kq v0 v3 w' => ∃ (x0_1 : Int) (x3_1 : List Int), v0 = .int .u64 x0_1 ∧ Aside0 (runnelref01_Bytes.l0 kq x0_1 x3_1 = some r) ∧ Aside0 (kq ≤ k) ∧ Aside0 (Kd.R (Kd.int .u8) 5 w' w.heap.size (fun _ => True) v3 x3_1) ∧ Aside0 (Below w.heap.size w w'))
 case atStart => exact ⟨(IntKind.u64.wrap (Int.tdiv a0 128)), (y398), (by first | rfl | (simp; done) | (simp [*]; done)), H', ⟨Nat.le_refl _⟩, ⟨by (with_reducible repeat (first | apply Kd.R_alloc | apply Kd.R_drewN | apply Kd.R_drew)); exact HO400.out⟩, ⟨bl⟩⟩
 case round =>
  clear H'
  obtain ⟨x0_1, x3_1, rfl, HA, HK1, HO_3, HB⟩ := hrel
  cases gk with
  | zero => exact absurd HA.out (by simp [runnelref01_Bytes.l0])
  | succ k1 =>
   have H := HA.out
   clear HA
   simp only [runnelref01_Bytes.l0] at H
   by_cases c4 : x0_1 > 0
   ·
    rw [if_pos c4] at H
    have c4b0 : decide (0 < x0_1) = true := decide_eq_true c4
    clear c4
    obtain ⟨y401, hy401⟩ : ∃ y_ : List Int, y_ = (([(IntKind.u64.wrap ((Int.tmod x0_1 128) + 128)) % 256] : List Int)) := ⟨_, rfl⟩
    replace H : (if y401.length + x3_1.length < 140737488355328 then (runnelref01_Bytes.l0 k1 (IntKind.u64.wrap (Int.tdiv x0_1 128)) (y401 ++ x3_1)) else (none)) = some r := by first | (rw [hy401]; with_reducible exact H) | (have H2_ := (Option.bind_some _ _).symm.trans H; rw [hy401]; with_reducible exact H2_) | (have H2_ := (Option.bind_some _ _).symm.trans H; with_reducible exact H2_) | with_reducible exact H | (rw [hy401]; exact H) | exact H
    have Ny401 := Aside0.mk hy401
    clear hy401
    by_cases c5 : y401.length + x3_1.length < 140737488355328
    ·
     rw [if_pos c5] at H
     have LMc5 := Aside0.mk c5
     clear c5
     obtain ⟨y404, hy404⟩ : ∃ y_ : List Int, y_ = (y401 ++ x3_1) := ⟨_, rfl⟩
     replace H : (runnelref01_Bytes.l0 k1 (IntKind.u64.wrap (Int.tdiv x0_1 128)) y404) = some r := by first | (rw [hy404]; with_reducible exact H) | (have H2_ := (Option.bind_some _ _).symm.trans H; rw [hy404]; with_reducible exact H2_) | (have H2_ := (Option.bind_some _ _).symm.trans H; with_reducible exact H2_) | with_reducible exact H | (rw [hy404]; exact H) | exact H
     have Ny404 := Aside0.mk hy404
     clear hy404
     have H' := Aside0.mk H
     clear H
     go_wp2_with (first | ((with_reducible refine gate_dst (N := 16) rfl ?_); refine Kd.R_lit (Kd.int .u8) _ 5 ?hg (N := 16) ?hd (xs := ([(IntKind.u64.wrap ((Int.tmod x0_1 128) + 128)) % 256] : List Int)) (inner := [.int .u8 ((IntKind.u64.wrap ((Int.tmod x0_1 128) + 128)) % 256)]) (ok := fun _ => True) (okp := fun _ => True) ?hr ?hp (fun _ hk => hk) trivial (Below.refl _ _) (Nat.le_refl _) (by simp) ?_; (case hd => rfl); (case hg => rfl); (case hr => first | (go_simp; done) | (go_simp; rfl)); (case hp => exact (Reps.one (show Kd.M (Kd.int .u8) _ _ _ ((IntKind.u64.wrap ((Int.tmod x0_1 128) + 128)) % 256) [.int .u8 ((IntKind.u64.wrap ((Int.tmod x0_1 128) + 128)) % 256)] from rfl) (Reps.none _ _))); intro v402 w6 ho7 hb hg_ hnew_; clear hg_ hnew_; (first | rw [← Ny401.out] at ho7 | (simp only [Int.reduceToNat] at ho7; rw [← Ny401.out] at ho7)); have n0_ := Aside0.mk (Kd.R_elder' (rp HO_3.out) (Kd.R_base ho7) hb); have n1_ := Aside0.mk (Kd.R_lower (Kd.R_new' ho7 (Kd.R_lt (rp HO_3.out))) (below_size bl)); have n2_ := Aside0.mk (below_step bl hb); clear HO_3; clear HB; have HO_3 := n0_; have HO403 := n1_; have HB := n2_; clear n0_ n1_ n2_; clear hb ho7; obtain ⟨Ao9, co9, eo9⟩ := Kd.R_slice HO_3.out; subst eo9) | ((with_reducible refine gate_builtin (b := .append) (xs := #[.tmp 16, .tmp 17]) rfl ?_); at_builtin; refine Kd.R_append_rows (Kd.int .u8) (w0 := w) w.heap.size rfl (.tmp 16) (.tmp 17) 22 5 (.int .u8 0) 1 rfl Try.underlying22 info5 rfl (by decide) (by omega) v402 y401 x3_1 _ _ _ (fun k_ => some k_ ≠ (.slice Ao9 x3_1.length co9 : Value).ownBlock) (fun _ => False) rfl rfl ?aO ?aR (fun _ _ h => h) (fun _ h => h.elim) ?aF ?aB ?aS ?aL ?_; (case aR => repeat (first | exact (Kd.R_reads' HO_3.out).2.2 | (with_reducible refine Kd.C_alloc ?_ _) | (with_reducible refine Kd.C_drewN ?_ _) | (with_reducible refine Kd.C_drew ?_))); (case aB => exact bl); (case aF => exact (fun k_ hk => Kd.fresh' (Kd.R_lt (rp HO_3.out)) k_ hk)); (case aO => exact (rp (Kd.R_mono HO403.out (fun _ hk => hk.2)))); (case aS => exact (below_size bl)); (case aL => have := LMc5.out; omega); intro v405 w8 ho hb hg hat; rw [← Ny404.out] at ho; have n0_ := Aside0.mk (Kd.R_after (ok := (fun _ => True)) (rp HO_3.out) hg hat); have n1_ := Aside0.mk (hb); have n2_ := Aside0.mk (ho); clear HO_3; clear HB; clear HO403; have HO_3 := n0_; have HB := n1_; have HO406 := n2_; clear n0_ n1_ n2_; clear ho hb hg hat))
     go_roundg k1
     case measure => have := HK1.out; omega
     case rel => exact ⟨(IntKind.u64.wrap (Int.tdiv x0_1 128)), (y404), (by first | rfl | (simp; done) | (simp [*]; done)), H', ⟨by have := HK1.out; omega⟩, ⟨by (with_reducible repeat (first | apply Kd.R_alloc | apply Kd.R_drewN | apply Kd.R_drew)); exact Kd.R_mono HO406.out (fun _ hk => trivial)⟩, ⟨bl⟩⟩
    ·
     rw [if_neg c5] at H
     exact absurd H (by simp)
   ·
    rw [if_neg c4] at H
    have c4b0 : decide (0 < x0_1) = false := decide_eq_false c4
    clear c4
    obtain rfl := Option.some.inj H
    go_wp2
    go_ret
    exact ⟨_, erq, by (with_reducible repeat (first | apply Kd.R_alloc | apply Kd.R_drewN | apply Kd.R_drew)); exact HO_3.out, by repeat (first | (with_reducible first | exact HB.out | apply below_alloc | apply pw_below_drewN | apply below_drew1) | exact HB.out)⟩

/-! ### runnelref01_same: function 66 -/
def runnelref01_same.f (l0 : List Int) (a1 : Int) (l2 : List Int) : Option (Bool) := if (l2.length : Int) ≤ (wrap64 ((l0.length : Int) - a1)) then (if 0 ≤ a1 then (if a1 ≤ (wrap64 (a1 + (l2.length : Int))) then (if (wrap64 (a1 + (l2.length : Int))) ≤ (l0.length : Int) then (some ((strOfNums ((l0.take ((wrap64 (a1 + (l2.length : Int))) : Int).toNat).drop (a1 : Int).toNat)).toList == (strOfNums l2).toList)) else (none)) else (none)) else (none)) else (some false)
set_option maxHeartbeats 8000000 in
set_option maxRecDepth 100000 in
theorem runnelref01_same.calls (A0 : Option Addr) (c0 : Nat) (l0 : List Int) (a1 : Int) (A2 : Option Addr) (c2 : Nat) (l2 : List Int) (r : Bool) (w : World) (hr0 : Kd.C (Kd.int .u8) w A0 l0.length l0) (hc0 : l0.length ≤ c0) (hr2 : Kd.C (Kd.int .u8) w A2 l2.length l2) (hc2 : l2.length ≤ c2) (h : runnelref01_same.f l0 a1 l2 = some r) :
  Calls Try.prog 66 #[.slice A0 l0.length c0, .int .i64 a1, .slice A2 l2.length c2] w fun e w' => e = .returned (.bool r) ∧ Drawn0 w w' := by
 have HR0 := Aside0.mk hr0
 have HC0 := Aside0.mk hc0
 clear hr0 hc0
 have HR2 := Aside0.mk hr2
 have HC2 := Aside0.mk hc2
 clear hr2 hc2
 have H : (if (l2.length : Int) ≤ (wrap64 ((l0.length : Int) - a1)) then (if 0 ≤ a1 then (if a1 ≤ (wrap64 (a1 + (l2.length : Int))) then (if (wrap64 (a1 + (l2.length : Int))) ≤ (l0.length : Int) then (some ((strOfNums ((l0.take ((wrap64 (a1 + (l2.length : Int))) : Int).toNat).drop (a1 : Int).toNat)).toList == (strOfNums l2).toList)) else (none)) else (none)) else (none)) else (some false)) = some r := h
 clear h
 by_cases c4 : (l2.length : Int) ≤ (wrap64 ((l0.length : Int) - a1))
 ·
  rw [if_pos c4] at H
  have c4b0 : decide ((l2.length : Int) ≤ (wrap64 ((l0.length : Int) - a1))) = true := decide_eq_true c4
  clear c4
  by_cases c5 : 0 ≤ a1
  ·
   rw [if_pos c5] at H
   have c5b0 := eq_true c5
   have c5b1 : decide (0 ≤ a1) = true := decide_eq_true c5
   clear c5
   by_cases c6 : a1 ≤ (wrap64 (a1 + (l2.length : Int)))
   ·
    rw [if_pos c6] at H
    have c6b0 := eq_true c6
    have c6b1 : decide (a1 ≤ (wrap64 (a1 + (l2.length : Int)))) = true := decide_eq_true c6
    by_cases c7 : (wrap64 (a1 + (l2.length : Int))) ≤ (l0.length : Int)
    ·
     rw [if_pos c7] at H
     have c7b0 := eq_true c7
     have c7b1 : decide ((wrap64 (a1 + (l2.length : Int))) ≤ (l0.length : Int)) = true := decide_eq_true c7
     obtain rfl := Option.some.inj H
     obtain ⟨i08, hi08, _, hsz8, _⟩ := info_parts info5
     obtain ⟨A8, hcut8, hA8, hC8⟩ := print_mid_of (P := Try.prog) (Value.int .u8) 0 22 5 .i64 .i64 Try.underlying22 hi08 hsz8 A0 c0 l0 a1 (wrap64 (a1 + (l2.length : Int))) (of_decide_eq_true (by first | (with_reducible assumption) | assumption)) (by first | omega | exact of_decide_eq_true (by first | (with_reducible assumption) | assumption)) (of_decide_eq_true (by first | (with_reducible assumption) | assumption)) HC0.out
     have HR407 := Aside0.mk (Kd.C_of_reads (h1 := fun _ => rfl) (hA8 _ (Kd.reads_of_C HR0.out)))
     have HC407 := Aside0.mk hC8
     clear hA8 hC8 hi08 hsz8
     generalize ((l0.take ((wrap64 (a1 + (l2.length : Int))) : Int).toNat).drop (a1 : Int).toNat) = LM8 at *
     have hcv9 := Kd.C_string (P := Try.prog) (A := A8) (c := (c0 - a1.toNat)) Try.underlying22 Try.underlying5 Try.underlying9 HR407.out
     have hcv9d := fun n_ : Nat => Kd.C_string (P := Try.prog) (A := A8) (c := (c0 - a1.toNat)) Try.underlying22 Try.underlying5 Try.underlying9 (Kd.C_drewN (HR407.out) n_)
     have hcv10 := Kd.C_string (P := Try.prog) (A := A2) (c := c2) Try.underlying22 Try.underlying5 Try.underlying9 HR2.out
     have hcv10d := fun n_ : Nat => Kd.C_string (P := Try.prog) (A := A2) (c := c2) Try.underlying22 Try.underlying5 Try.underlying9 (Kd.C_drewN (HR2.out) n_)
     try have hwz0 := i64_w (a1 + (l2.length : Int))
     try have hwz1 := i64_w ((l0.length : Int) - a1)
     go_enter Try.func66, Try.ntmps66
     go_wp2
     repeat (go_quiet (fail); try go_wp2)
     go_ret
     exact ⟨by first | rfl | (simp; done) | (simp [*]; done), by repeat (first | exact Drawn0.refl _ | apply Drawn0.step)⟩
    ·
     rw [if_neg c7] at H
     exact absurd H (by simp)
   ·
    rw [if_neg c6] at H
    exact absurd H (by simp)
  ·
   rw [if_neg c5] at H
   exact absurd H (by simp)
 ·
  rw [if_neg c4] at H
  have c4b0 : decide ((l2.length : Int) ≤ (wrap64 ((l0.length : Int) - a1))) = false := decide_eq_false c4
  clear c4
  obtain rfl := Option.some.inj H
  try have hwz0 := i64_w ((l0.length : Int) - a1)
  go_enter Try.func66, Try.ntmps66
  go_wp2
  repeat (go_quiet (fail); try go_wp2)
  go_ret
  exact ⟨by first | rfl | (simp; done) | (simp [*]; done), by repeat (first | exact Drawn0.refl _ | apply Drawn0.step)⟩

/-! ### runnelref01_Get: function 44 -/
mutual
def runnelref01_Get.j0 : Nat → List Int → Int → Bool → Option (Int × Int × Int)
 | 0, _, _, _ => none
 | k + 1, x0, x1, x17 => if x17 = true then (some (0, 0, 9)) else (runnelref01_Get.l0 k x0 x1 0 x1)
def runnelref01_Get.l0 : Nat → List Int → Int → Int → Int → Option (Int × Int × Int)
 | 0, _, _, _, _ => none
 | k + 1, x0, x1, x7, x8 => if x8 < (x0.length : Int) then (runnelref01_Get.j2 k x0 x1 x7 x8 (decide (x8 < (wrap64 (x1 + 10))))) else (runnelref01_Get.j2 k x0 x1 x7 x8 false)
def runnelref01_Get.j2 : Nat → List Int → Int → Int → Int → Bool → Option (Int × Int × Int)
 | 0, _, _, _, _, _ => none
 | k + 1, x0, x1, x7, x8, x28 => if x28 = true then (if 0 ≤ x8 then (if x8 < (x0.length : Int) then (if (rd x0 x8) ≥ 128 then (runnelref01_Get.l0 k x0 x1 (IntKind.u64.wrap ((IntKind.u64.wrap (x7 * 128)) + (IntKind.u64.wrap (Int.tmod (rd x0 x8) 128)))) (wrap64 (x8 + 1))) else ((runnelref01_Bytes.f k (IntKind.u64.wrap ((IntKind.u64.wrap (x7 * 128)) + (IntKind.u64.wrap (Int.tmod (rd x0 x8) 128))))).bind fun t410 => ((runnelref01_same.f x0 x1 t410).bind fun t413 => (if t413 = true then (if (t410.length : Int) = (wrap64 ((wrap64 (x8 + 1)) - x1)) then (some (IntKind.u64.wrap ((IntKind.u64.wrap (x7 * 128)) + (IntKind.u64.wrap (Int.tmod (rd x0 x8) 128))), wrap64 (x8 + 1), 0)) else (some (0, 0, 6))) else (some (0, 0, 6)))))) else (none)) else (none)) else (some (0, 0, 6))
end
def runnelref01_Get.f (k : Nat) (l0 : List Int) (a1 : Int) : Option (Int × Int × Int) := if a1 < 0 then (runnelref01_Get.j0 k l0 a1 true) else (runnelref01_Get.j0 k l0 a1 (decide (a1 > (l0.length : Int))))
theorem runnelref01_Get.mono_l : ∀ k, (∀ y0 y1 y2, LeO (runnelref01_Get.j0 k y0 y1 y2) (runnelref01_Get.j0 (k + 1) y0 y1 y2)) ∧ (∀ y0 y1 y2 y3, LeO (runnelref01_Get.l0 k y0 y1 y2 y3) (runnelref01_Get.l0 (k + 1) y0 y1 y2 y3)) ∧ (∀ y0 y1 y2 y3 y4, LeO (runnelref01_Get.j2 k y0 y1 y2 y3 y4) (runnelref01_Get.j2 (k + 1) y0 y1 y2 y3 y4))
 | 0 => ⟨fun _ _ _ r h => by simp [runnelref01_Get.j0] at h, fun _ _ _ _ r h => by simp [runnelref01_Get.l0] at h, fun _ _ _ _ _ r h => by simp [runnelref01_Get.j2] at h⟩
 | k + 1 => by
  obtain ⟨ih0, ih1, ih2⟩ := runnelref01_Get.mono_l k
  refine ⟨?_, ?_, ?_⟩
  ·
   intro y0 y1 y2
   unfold runnelref01_Get.j0
   repeat' first
   | (with_reducible exact ih0 _ _ _)
   | (with_reducible exact ih1 _ _ _ _)
   | (with_reducible exact ih2 _ _ _ _ _)
   | (with_reducible exact runnelref01_Bytes.mono _ _)
   | (with_reducible exact LeO.refl _)
   | (with_reducible exact LeO.none _)
   | (with_reducible refine LeO.ite ?_ ?_)
   | (with_reducible refine LeO.bind ?_ (fun _ => ?_))
   | exact ih0 _ _ _
   | exact ih1 _ _ _ _
   | exact ih2 _ _ _ _ _
   | exact runnelref01_Bytes.mono _ _
   | exact LeO.none _
   | refine LeO.ite ?_ ?_
   | refine LeO.bind ?_ (fun _ => ?_)
  ·
   intro y0 y1 y2 y3
   unfold runnelref01_Get.l0
   repeat' first
   | (with_reducible exact ih0 _ _ _)
   | (with_reducible exact ih1 _ _ _ _)
   | (with_reducible exact ih2 _ _ _ _ _)
   | (with_reducible exact runnelref01_Bytes.mono _ _)
   | (with_reducible exact LeO.refl _)
   | (with_reducible exact LeO.none _)
   | (with_reducible refine LeO.ite ?_ ?_)
   | (with_reducible refine LeO.bind ?_ (fun _ => ?_))
   | exact ih0 _ _ _
   | exact ih1 _ _ _ _
   | exact ih2 _ _ _ _ _
   | exact runnelref01_Bytes.mono _ _
   | exact LeO.none _
   | refine LeO.ite ?_ ?_
   | refine LeO.bind ?_ (fun _ => ?_)
  ·
   intro y0 y1 y2 y3 y4
   unfold runnelref01_Get.j2
   repeat' first
   | (with_reducible exact ih0 _ _ _)
   | (with_reducible exact ih1 _ _ _ _)
   | (with_reducible exact ih2 _ _ _ _ _)
   | (with_reducible exact runnelref01_Bytes.mono _ _)
   | (with_reducible exact LeO.refl _)
   | (with_reducible exact LeO.none _)
   | (with_reducible refine LeO.ite ?_ ?_)
   | (with_reducible refine LeO.bind ?_ (fun _ => ?_))
   | exact ih0 _ _ _
   | exact ih1 _ _ _ _
   | exact ih2 _ _ _ _ _
   | exact runnelref01_Bytes.mono _ _
   | exact LeO.none _
   | refine LeO.ite ?_ ?_
   | refine LeO.bind ?_ (fun _ => ?_)
theorem runnelref01_Get.mono : ∀ a0 a1 k, LeO (runnelref01_Get.f k a0 a1) (runnelref01_Get.f (k + 1) a0 a1) := by
 intro a0 a1 k
 obtain ⟨ih0, ih1, ih2⟩ := runnelref01_Get.mono_l k
 unfold runnelref01_Get.f
 repeat' first
   | (with_reducible exact ih0 _ _ _)
   | (with_reducible exact ih1 _ _ _ _)
   | (with_reducible exact ih2 _ _ _ _ _)
   | (with_reducible exact runnelref01_Bytes.mono _ _)
   | (with_reducible exact LeO.refl _)
   | (with_reducible exact LeO.none _)
   | (with_reducible refine LeO.ite ?_ ?_)
   | (with_reducible refine LeO.bind ?_ (fun _ => ?_))
   | exact ih0 _ _ _
   | exact ih1 _ _ _ _
   | exact ih2 _ _ _ _ _
   | exact runnelref01_Bytes.mono _ _
   | exact LeO.none _
   | refine LeO.ite ?_ ?_
   | refine LeO.bind ?_ (fun _ => ?_)
set_option maxHeartbeats 8000000 in
set_option maxRecDepth 100000 in
theorem runnelref01_Get.calls (k : Nat) (A0 : Option Addr) (c0 : Nat) (l0 : List Int) (a1 : Int) (r1 : Int) (r2 : Int) (r3 : Int) (w : World) (hr0 : Kd.C (Kd.int .u8) w A0 l0.length l0) (hc0 : l0.length ≤ c0) (h : runnelref01_Get.f k l0 a1 = some (r1, r2, r3)) :
  Calls Try.prog 44 #[.slice A0 l0.length c0, .int .i64 a1] w fun e w' => e = .returned (.tuple #[.int .u64 r1, .int .i64 r2, .int .i64 r3]) ∧ Below w.heap.size w w' := by
 have HR0 := Aside0.mk hr0
 have HC0 := Aside0.mk hc0
 clear hr0 hc0
 have HB := Aside0.mk (Below.refl w.heap.size w)
 have H : (if a1 < 0 then (runnelref01_Get.j0 k l0 a1 true) else (runnelref01_Get.j0 k l0 a1 (decide (a1 > (l0.length : Int))))) = some (r1, r2, r3) := h
 clear h
 have HC3 := Aside0.mk H
 clear H
 go_enter Try.func44, Try.ntmps44
 go_upto_region 1 with (fail)
 go_cut [17] (fun v17 wc => ∃ (kq : Nat) (x17_2 : Bool), v17 = .bool x17_2 ∧ Aside0 (runnelref01_Get.j0 kq l0 a1 x17_2 = some (r1, r2, r3)) ∧ Aside0 (kq ≤ k) ∧ Aside0 (Below w.heap.size w wc))
 case first =>
  have H := HC3.out
  clear HC3
  by_cases c4 : a1 < 0
  ·
   rw [if_pos c4] at H
   have c4b0 : decide (a1 < 0) = true := decide_eq_true c4
   clear c4
   (first | rw [c4b0] | (simp only [i64_w, i32_w]; rw [c4b0]) | skip)
   have H' := Aside0.mk H
   clear H
   go_wp2
   go_meet
   case rel => exact ⟨_, (true), (by first | rfl | (simp; done) | (simp [*]; done)), H', ⟨by first | omega | exact Nat.le_refl _⟩, ⟨bl⟩⟩
  ·
   rw [if_neg c4] at H
   have c4b0 : decide (a1 < 0) = false := decide_eq_false c4
   clear c4
   (first | rw [c4b0] | (simp only [i64_w, i32_w]; rw [c4b0]) | skip)
   have H' := Aside0.mk H
   clear H
   go_wp2
   go_meet
   case rel => exact ⟨_, (decide (a1 > (l0.length : Int))), (by first | rfl | (simp; done) | (simp [*]; done)), H', ⟨by first | omega | exact Nat.le_refl _⟩, ⟨bl⟩⟩
 case rest =>
  clear HC3
  obtain ⟨kq, x17_2, rfl, HA, HJ2, HB⟩ := hcut
  cases kq with
  | zero => exact absurd HA.out (by simp [runnelref01_Get.j0])
  | succ kj2 =>
   have H := HA.out
   clear HA
   simp only [runnelref01_Get.j0] at H
   by_cases c5 : x17_2 = true
   ·
    subst c5
    have H1 : (some (0, 0, 9)) = some (r1, r2, r3) := by rw [if_pos rfl] at H; exact H
    clear H
    have H := H1
    clear H1
    simp only [Option.some.injEq, Prod.mk.injEq] at H
    obtain ⟨rfl, rfl, rfl⟩ := H
    go_wp2
    go_ret3
    exact ⟨erq, by repeat (first | (with_reducible first | exact HB.out | apply below_alloc | apply pw_below_drewN | apply below_drew1) | exact HB.out)⟩
   ·
    replace c5 := Bool.eq_false_iff.mpr c5
    subst c5
    have H1 : (runnelref01_Get.l0 kj2 l0 a1 0 a1) = some (r1, r2, r3) := by rw [if_neg (show ¬ (false = true) by decide)] at H; exact H
    clear H
    have H := H1
    clear H1
    have H' := Aside0.mk H
    clear H
    go_wp2
    go_loopg [7, 8] kj2 (fun kq v7 v8 w' => ∃ (x7_2 : Int) (x8_2 : Int), v7 = .int .u64 x7_2 ∧ v8 = .int .i64 x8_2 ∧ Aside0 (runnelref01_Get.l0 kq l0 a1 x7_2 x8_2 = some (r1, r2, r3)) ∧ Aside0 (kq ≤ kj2) ∧ Aside0 (Below w.heap.size w w'))
    case atStart => exact ⟨(0), (a1), (by first | rfl | (simp; done) | (simp [*]; done)), (by first | rfl | (simp; done) | (simp [*]; done)), H', ⟨Nat.le_refl _⟩, ⟨bl⟩⟩
    case round =>
     clear H'
     try clear c5
     obtain ⟨x7_2, x8_2, rfl, rfl, HA, HK2, HB⟩ := hrel
     cases gk with
     | zero => exact absurd HA.out (by simp [runnelref01_Get.l0])
     | succ k2 =>
      have H := HA.out
      clear HA
      simp only [runnelref01_Get.l0] at H
      have HC6 := Aside0.mk H
      clear H
      go_upto_region 5 with (fail)
      go_cut [28] (fun v28 wc => ∃ (kq : Nat) (x28_5 : Bool), v28 = .bool x28_5 ∧ Aside0 (runnelref01_Get.j2 kq l0 a1 x7_2 x8_2 x28_5 = some (r1, r2, r3)) ∧ Aside0 (kq ≤ k2) ∧ Aside0 (Below w.heap.size w wc))
      case first =>
       have H := HC6.out
       clear HC6
       by_cases c7 : x8_2 < (l0.length : Int)
       ·
        rw [if_pos c7] at H
        have c7b0 : decide (x8_2 < (l0.length : Int)) = true := decide_eq_true c7
        clear c7
        (first | rw [c7b0] | (simp only [i64_w, i32_w]; rw [c7b0]) | skip)
        have H' := Aside0.mk H
        clear H
        go_wp2
        go_meet
        case rel => exact ⟨_, (decide (x8_2 < (wrap64 (a1 + 10)))), (by first | rfl | (simp; done) | (simp [*]; done)), H', ⟨by have := HJ2.out; have := HK2.out; first | omega | exact Nat.le_refl _⟩, ⟨bl⟩⟩
       ·
        rw [if_neg c7] at H
        have c7b0 : decide (x8_2 < (l0.length : Int)) = false := decide_eq_false c7
        clear c7
        (first | rw [c7b0] | (simp only [i64_w, i32_w]; rw [c7b0]) | skip)
        have H' := Aside0.mk H
        clear H
        go_wp2
        go_meet
        case rel => exact ⟨_, (false), (by first | rfl | (simp; done) | (simp [*]; done)), H', ⟨by have := HJ2.out; have := HK2.out; first | omega | exact Nat.le_refl _⟩, ⟨bl⟩⟩
      case rest =>
       clear HC6
       try clear c5
       obtain ⟨kq, x28_5, rfl, HA, HJ5, HB⟩ := hcut
       cases kq with
       | zero => exact absurd HA.out (by simp [runnelref01_Get.j2])
       | succ kj5 =>
        have H := HA.out
        clear HA
        simp only [runnelref01_Get.j2] at H
        by_cases c8 : x28_5 = true
        ·
         subst c8
         have H1 : (if 0 ≤ x8_2 then (if x8_2 < (l0.length : Int) then (if (rd l0 x8_2) ≥ 128 then (runnelref01_Get.l0 kj5 l0 a1 (IntKind.u64.wrap ((IntKind.u64.wrap (x7_2 * 128)) + (IntKind.u64.wrap (Int.tmod (rd l0 x8_2) 128)))) (wrap64 (x8_2 + 1))) else ((runnelref01_Bytes.f kj5 (IntKind.u64.wrap ((IntKind.u64.wrap (x7_2 * 128)) + (IntKind.u64.wrap (Int.tmod (rd l0 x8_2) 128))))).bind fun t410 => ((runnelref01_same.f l0 a1 t410).bind fun t413 => (if t413 = true then (if (t410.length : Int) = (wrap64 ((wrap64 (x8_2 + 1)) - a1)) then (some (IntKind.u64.wrap ((IntKind.u64.wrap (x7_2 * 128)) + (IntKind.u64.wrap (Int.tmod (rd l0 x8_2) 128))), wrap64 (x8_2 + 1), 0)) else (some (0, 0, 6))) else (some (0, 0, 6)))))) else (none)) else (none)) = some (r1, r2, r3) := by rw [if_pos rfl] at H; exact H
         clear H
         have H := H1
         clear H1
         by_cases c9 : 0 ≤ x8_2
         ·
          rw [if_pos c9] at H
          have c9b0 : decide (0 ≤ x8_2) = true := decide_eq_true c9
          clear c9
          by_cases c10 : x8_2 < (l0.length : Int)
          ·
           rw [if_pos c10] at H
           have c10b0 : decide (x8_2 < (l0.length : Int)) = true := decide_eq_true c10
           clear c10
           by_cases c11 : (rd l0 x8_2) ≥ 128
           ·
            rw [if_pos c11] at H
            have c11b0 : decide (128 ≤ (rd l0 x8_2)) = true := decide_eq_true c11
            clear c11
            have H' := Aside0.mk H
            clear H
            have p408 : 0 ≤ (x8_2 : Int) := of_decide_eq_true (by first | (with_reducible assumption) | assumption)
            have q408 : x8_2 < (l0.length : Int) := of_decide_eq_true (by first | (with_reducible assumption) | assumption)
            obtain ⟨ad408, e408, hx408_0⟩ := Kd.at_int HR0.out x8_2 p408 q408
            cases e408
            replace hx408_0 := bc HB.out hx408_0
            replace p408 := eq_true p408
            replace q408 := eq_true q408
            have p409 : 0 ≤ (x8_2 : Int) := of_decide_eq_true (by first | (with_reducible assumption) | assumption)
            have q409 : x8_2 < (l0.length : Int) := of_decide_eq_true (by first | (with_reducible assumption) | assumption)
            obtain ⟨ad409, e409, hx409_0⟩ := Kd.at_int HR0.out x8_2 p409 q409
            obtain rfl : ad408 = ad409 := (by injection e409)
            replace hx409_0 := bc HB.out hx409_0
            replace p409 := eq_true p409
            replace q409 := eq_true q409
            go_wp2
            go_roundg kj5
            case measure => have := HJ2.out; have := HK2.out; have := HJ5.out; omega
            case rel => exact ⟨(IntKind.u64.wrap ((IntKind.u64.wrap (x7_2 * 128)) + (IntKind.u64.wrap (Int.tmod (rd l0 x8_2) 128)))), (wrap64 (x8_2 + 1)), (by first | rfl | (simp; done) | (simp [*]; done)), (by first | rfl | (simp; done) | (simp [*]; done)), H', ⟨by have := HJ2.out; have := HK2.out; have := HJ5.out; omega⟩, ⟨bl⟩⟩
           ·
            rw [if_neg c11] at H
            have c11b0 : decide (128 ≤ (rd l0 x8_2)) = false := decide_eq_false c11
            clear c11
            replace H := Option.bind_eq_some_iff.mp H
            obtain ⟨t410, A120, H⟩ := H
            replace H : ((runnelref01_same.f l0 a1 t410).bind fun t413 => (if t413 = true then (if (t410.length : Int) = (wrap64 ((wrap64 (x8_2 + 1)) - a1)) then (some (IntKind.u64.wrap ((IntKind.u64.wrap (x7_2 * 128)) + (IntKind.u64.wrap (Int.tmod (rd l0 x8_2) 128))), wrap64 (x8_2 + 1), 0)) else (some (0, 0, 6))) else (some (0, 0, 6)))) = some (r1, r2, r3) := H
            have A12 := Aside0.mk A120
            clear A120
            replace H := Option.bind_eq_some_iff.mp H
            obtain ⟨t413, A130, H⟩ := H
            replace H : (if t413 = true then (if (t410.length : Int) = (wrap64 ((wrap64 (x8_2 + 1)) - a1)) then (some (IntKind.u64.wrap ((IntKind.u64.wrap (x7_2 * 128)) + (IntKind.u64.wrap (Int.tmod (rd l0 x8_2) 128))), wrap64 (x8_2 + 1), 0)) else (some (0, 0, 6))) else (some (0, 0, 6))) = some (r1, r2, r3) := H
            have A13 := Aside0.mk A130
            clear A130
            by_cases c14 : t413 = true
            ·
             subst c14
             have H1 : (if (t410.length : Int) = (wrap64 ((wrap64 (x8_2 + 1)) - a1)) then (some (IntKind.u64.wrap ((IntKind.u64.wrap (x7_2 * 128)) + (IntKind.u64.wrap (Int.tmod (rd l0 x8_2) 128))), wrap64 (x8_2 + 1), 0)) else (some (0, 0, 6))) = some (r1, r2, r3) := by rw [if_pos rfl] at H; exact H
             clear H
             have H := H1
             clear H1
             by_cases c15 : (t410.length : Int) = (wrap64 ((wrap64 (x8_2 + 1)) - a1))
             ·
              rw [if_pos c15] at H
              have c15b0 : ((t410.length : Int) == (wrap64 ((wrap64 (x8_2 + 1)) - a1))) = true := beq_iff_eq.mpr c15
              have c15b1 : ((t410.length : Int) != (wrap64 ((wrap64 (x8_2 + 1)) - a1))) = false := bne_eq_false_iff_eq.mpr c15
              clear c15
              simp only [Option.some.injEq, Prod.mk.injEq] at H
              obtain ⟨rfl, rfl, rfl⟩ := H
              have p408 : 0 ≤ (x8_2 : Int) := of_decide_eq_true (by first | (with_reducible assumption) | assumption)
              have q408 : x8_2 < (l0.length : Int) := of_decide_eq_true (by first | (with_reducible assumption) | assumption)
              obtain ⟨ad408, e408, hx408_0⟩ := Kd.at_int HR0.out x8_2 p408 q408
              cases e408
              replace hx408_0 := bc HB.out hx408_0
              replace p408 := eq_true p408
              replace q408 := eq_true q408
              have p409 : 0 ≤ (x8_2 : Int) := of_decide_eq_true (by first | (with_reducible assumption) | assumption)
              have q409 : x8_2 < (l0.length : Int) := of_decide_eq_true (by first | (with_reducible assumption) | assumption)
              obtain ⟨ad409, e409, hx409_0⟩ := Kd.at_int HR0.out x8_2 p409 q409
              obtain rfl : ad408 = ad409 := (by injection e409)
              replace hx409_0 := bc HB.out hx409_0
              replace p409 := eq_true p409
              replace q409 := eq_true q409
              go_wp2_with (first | ((with_reducible refine gate_callee (f := 33) rfl ?_); refine goesL_ (some 46) rfl rfl Try.func33 (by kernel_rfl) rfl #[.int .u64 (IntKind.u64.wrap ((IntKind.u64.wrap (x7_2 * 128)) + (IntKind.u64.wrap (Int.tmod (rd l0 x8_2) 128))))] rfl mpq ?_; (with_reducible refine (runnelref01_Bytes.calls kj5 (IntKind.u64.wrap ((IntKind.u64.wrap (x7_2 * 128)) + (IntKind.u64.wrap (Int.tmod (rd l0 x8_2) 128)))) t410 _ A12.out).mono ?_); rintro e w16 ⟨v411, rfl, ho0, hb⟩; refine ⟨_, rfl, ?_⟩; have n0_ := Aside0.mk (Kd.R_lower ho0 (below_size bl)); have n1_ := Aside0.mk (below_step bl hb); clear HB; have HO412 := n0_; have HB := n1_; clear n0_ n1_; (try clear hb); (try clear hb2); (try clear hk); (try clear hi); (try clear ho0); obtain ⟨Ao17, co17, eo17⟩ := Kd.R_slice HO412.out; subst eo17) | ((with_reducible refine gate_callee (f := 66) rfl ?_); refine goesL_ (some 50) rfl rfl Try.func66 (by kernel_rfl) rfl #[.slice (some ad408) l0.length c0, .int .i64 a1, .slice Ao17 t410.length co17] rfl mpq ?_; (with_reducible refine (runnelref01_same.calls _ _ l0 a1 _ _ t410 true _ ?side1 ?side2 ?side3 ?side4 A13.out).mono ?_); (case side1 => repeat (first | exact (Kd.C_below HR0.out HB.out) | (with_reducible refine Kd.C_alloc ?_ _) | (with_reducible refine Kd.C_drewN ?_ _) | (with_reducible refine Kd.C_drew ?_))); (case side2 => exact HC0.out); (case side3 => repeat (first | exact (Kd.R_reads' HO412.out).2.2 | (with_reducible refine Kd.C_alloc ?_ _) | (with_reducible refine Kd.C_drewN ?_ _) | (with_reducible refine Kd.C_drew ?_))); (case side4 => exact (Kd.R_reads' HO412.out).2.1); rintro e w' ⟨rfl, ⟨nd, rfl⟩⟩; refine ⟨_, rfl, ?_⟩))
              go_ret3
              exact ⟨erq, by repeat (first | (with_reducible first | exact HB.out | apply below_alloc | apply pw_below_drewN | apply below_drew1) | exact HB.out)⟩
             ·
              rw [if_neg c15] at H
              have c15b0 : ((t410.length : Int) == (wrap64 ((wrap64 (x8_2 + 1)) - a1))) = false := beq_eq_false_iff_ne.mpr c15
              have c15b1 : ((t410.length : Int) != (wrap64 ((wrap64 (x8_2 + 1)) - a1))) = true := bne_iff_ne.mpr c15
              simp only [Option.some.injEq, Prod.mk.injEq] at H
              obtain ⟨rfl, rfl, rfl⟩ := H
              have p408 : 0 ≤ (x8_2 : Int) := of_decide_eq_true (by first | (with_reducible assumption) | assumption)
              have q408 : x8_2 < (l0.length : Int) := of_decide_eq_true (by first | (with_reducible assumption) | assumption)
              obtain ⟨ad408, e408, hx408_0⟩ := Kd.at_int HR0.out x8_2 p408 q408
              cases e408
              replace hx408_0 := bc HB.out hx408_0
              replace p408 := eq_true p408
              replace q408 := eq_true q408
              have p409 : 0 ≤ (x8_2 : Int) := of_decide_eq_true (by first | (with_reducible assumption) | assumption)
              have q409 : x8_2 < (l0.length : Int) := of_decide_eq_true (by first | (with_reducible assumption) | assumption)
              obtain ⟨ad409, e409, hx409_0⟩ := Kd.at_int HR0.out x8_2 p409 q409
              obtain rfl : ad408 = ad409 := (by injection e409)
              replace hx409_0 := bc HB.out hx409_0
              replace p409 := eq_true p409
              replace q409 := eq_true q409
              go_wp2_with (first | ((with_reducible refine gate_callee (f := 33) rfl ?_); refine goesL_ (some 46) rfl rfl Try.func33 (by kernel_rfl) rfl #[.int .u64 (IntKind.u64.wrap ((IntKind.u64.wrap (x7_2 * 128)) + (IntKind.u64.wrap (Int.tmod (rd l0 x8_2) 128))))] rfl mpq ?_; (with_reducible refine (runnelref01_Bytes.calls kj5 (IntKind.u64.wrap ((IntKind.u64.wrap (x7_2 * 128)) + (IntKind.u64.wrap (Int.tmod (rd l0 x8_2) 128)))) t410 _ A12.out).mono ?_); rintro e w18 ⟨v411, rfl, ho0, hb⟩; refine ⟨_, rfl, ?_⟩; have n0_ := Aside0.mk (Kd.R_lower ho0 (below_size bl)); have n1_ := Aside0.mk (below_step bl hb); clear HB; have HO412 := n0_; have HB := n1_; clear n0_ n1_; (try clear hb); (try clear hb2); (try clear hk); (try clear hi); (try clear ho0); obtain ⟨Ao19, co19, eo19⟩ := Kd.R_slice HO412.out; subst eo19) | ((with_reducible refine gate_callee (f := 66) rfl ?_); refine goesL_ (some 50) rfl rfl Try.func66 (by kernel_rfl) rfl #[.slice (some ad408) l0.length c0, .int .i64 a1, .slice Ao19 t410.length co19] rfl mpq ?_; (with_reducible refine (runnelref01_same.calls _ _ l0 a1 _ _ t410 true _ ?side1 ?side2 ?side3 ?side4 A13.out).mono ?_); (case side1 => repeat (first | exact (Kd.C_below HR0.out HB.out) | (with_reducible refine Kd.C_alloc ?_ _) | (with_reducible refine Kd.C_drewN ?_ _) | (with_reducible refine Kd.C_drew ?_))); (case side2 => exact HC0.out); (case side3 => repeat (first | exact (Kd.R_reads' HO412.out).2.2 | (with_reducible refine Kd.C_alloc ?_ _) | (with_reducible refine Kd.C_drewN ?_ _) | (with_reducible refine Kd.C_drew ?_))); (case side4 => exact (Kd.R_reads' HO412.out).2.1); rintro e w' ⟨rfl, ⟨nd, rfl⟩⟩; refine ⟨_, rfl, ?_⟩))
              go_ret3
              exact ⟨erq, by repeat (first | (with_reducible first | exact HB.out | apply below_alloc | apply pw_below_drewN | apply below_drew1) | exact HB.out)⟩
            ·
             replace c14 := Bool.eq_false_iff.mpr c14
             subst c14
             have H1 : (some (0, 0, 6)) = some (r1, r2, r3) := by rw [if_neg (show ¬ (false = true) by decide)] at H; exact H
             clear H
             have H := H1
             clear H1
             simp only [Option.some.injEq, Prod.mk.injEq] at H
             obtain ⟨rfl, rfl, rfl⟩ := H
             have p408 : 0 ≤ (x8_2 : Int) := of_decide_eq_true (by first | (with_reducible assumption) | assumption)
             have q408 : x8_2 < (l0.length : Int) := of_decide_eq_true (by first | (with_reducible assumption) | assumption)
             obtain ⟨ad408, e408, hx408_0⟩ := Kd.at_int HR0.out x8_2 p408 q408
             cases e408
             replace hx408_0 := bc HB.out hx408_0
             replace p408 := eq_true p408
             replace q408 := eq_true q408
             have p409 : 0 ≤ (x8_2 : Int) := of_decide_eq_true (by first | (with_reducible assumption) | assumption)
             have q409 : x8_2 < (l0.length : Int) := of_decide_eq_true (by first | (with_reducible assumption) | assumption)
             obtain ⟨ad409, e409, hx409_0⟩ := Kd.at_int HR0.out x8_2 p409 q409
             obtain rfl : ad408 = ad409 := (by injection e409)
             replace hx409_0 := bc HB.out hx409_0
             replace p409 := eq_true p409
             replace q409 := eq_true q409
             go_wp2_with (first | ((with_reducible refine gate_callee (f := 33) rfl ?_); refine goesL_ (some 46) rfl rfl Try.func33 (by kernel_rfl) rfl #[.int .u64 (IntKind.u64.wrap ((IntKind.u64.wrap (x7_2 * 128)) + (IntKind.u64.wrap (Int.tmod (rd l0 x8_2) 128))))] rfl mpq ?_; (with_reducible refine (runnelref01_Bytes.calls kj5 (IntKind.u64.wrap ((IntKind.u64.wrap (x7_2 * 128)) + (IntKind.u64.wrap (Int.tmod (rd l0 x8_2) 128)))) t410 _ A12.out).mono ?_); rintro e w20 ⟨v411, rfl, ho0, hb⟩; refine ⟨_, rfl, ?_⟩; have n0_ := Aside0.mk (Kd.R_lower ho0 (below_size bl)); have n1_ := Aside0.mk (below_step bl hb); clear HB; have HO412 := n0_; have HB := n1_; clear n0_ n1_; (try clear hb); (try clear hb2); (try clear hk); (try clear hi); (try clear ho0); obtain ⟨Ao21, co21, eo21⟩ := Kd.R_slice HO412.out; subst eo21) | ((with_reducible refine gate_callee (f := 66) rfl ?_); refine goesL_ (some 50) rfl rfl Try.func66 (by kernel_rfl) rfl #[.slice (some ad408) l0.length c0, .int .i64 a1, .slice Ao21 t410.length co21] rfl mpq ?_; (with_reducible refine (runnelref01_same.calls _ _ l0 a1 _ _ t410 false _ ?side1 ?side2 ?side3 ?side4 A13.out).mono ?_); (case side1 => repeat (first | exact (Kd.C_below HR0.out HB.out) | (with_reducible refine Kd.C_alloc ?_ _) | (with_reducible refine Kd.C_drewN ?_ _) | (with_reducible refine Kd.C_drew ?_))); (case side2 => exact HC0.out); (case side3 => repeat (first | exact (Kd.R_reads' HO412.out).2.2 | (with_reducible refine Kd.C_alloc ?_ _) | (with_reducible refine Kd.C_drewN ?_ _) | (with_reducible refine Kd.C_drew ?_))); (case side4 => exact (Kd.R_reads' HO412.out).2.1); rintro e w' ⟨rfl, ⟨nd, rfl⟩⟩; refine ⟨_, rfl, ?_⟩))
             go_ret3
             exact ⟨erq, by repeat (first | (with_reducible first | exact HB.out | apply below_alloc | apply pw_below_drewN | apply below_drew1) | exact HB.out)⟩
          ·
           rw [if_neg c10] at H
           exact absurd H (by simp)
         ·
          rw [if_neg c9] at H
          exact absurd H (by simp)
        ·
         replace c8 := Bool.eq_false_iff.mpr c8
         subst c8
         have H1 : (some (0, 0, 6)) = some (r1, r2, r3) := by rw [if_neg (show ¬ (false = true) by decide)] at H; exact H
         clear H
         have H := H1
         clear H1
         simp only [Option.some.injEq, Prod.mk.injEq] at H
         obtain ⟨rfl, rfl, rfl⟩ := H
         go_wp2
         go_ret3
         exact ⟨erq, by repeat (first | (with_reducible first | exact HB.out | apply below_alloc | apply pw_below_drewN | apply below_drew1) | exact HB.out)⟩

/-! ### runnelref01_GetInt: function 65 -/
def runnelref01_GetInt.f (k : Nat) (l0 : List Int) (a1 : Int) : Option (Int × Int × Int) := (runnelref01_Get.f k l0 a1).bind fun bt414 => (if (Int.tmod bt414.1 2) = 1 then (some (wrap64 ((wrap64 (-(wrap64 (IntKind.u64.wrap (Int.tdiv bt414.1 2))))) - 1), bt414.2.1, bt414.2.2)) else (some (wrap64 (IntKind.u64.wrap (Int.tdiv bt414.1 2)), bt414.2.1, bt414.2.2)))
theorem runnelref01_GetInt.mono : ∀ a0 a1 k, LeO (runnelref01_GetInt.f k a0 a1) (runnelref01_GetInt.f (k + 1) a0 a1) := by
 intro a0 a1 k
 unfold runnelref01_GetInt.f
 repeat' first
   | (with_reducible exact runnelref01_Get.mono _ _ _)
   | (with_reducible exact LeO.refl _)
   | (with_reducible exact LeO.none _)
   | (with_reducible refine LeO.ite ?_ ?_)
   | (with_reducible refine LeO.bind ?_ (fun _ => ?_))
   | exact runnelref01_Get.mono _ _ _
   | exact LeO.none _
   | refine LeO.ite ?_ ?_
   | refine LeO.bind ?_ (fun _ => ?_)
set_option maxHeartbeats 8000000 in
set_option maxRecDepth 100000 in
theorem runnelref01_GetInt.calls (k : Nat) (A0 : Option Addr) (c0 : Nat) (l0 : List Int) (a1 : Int) (r1 : Int) (r2 : Int) (r3 : Int) (w : World) (hr0 : Kd.C (Kd.int .u8) w A0 l0.length l0) (hc0 : l0.length ≤ c0) (h : runnelref01_GetInt.f k l0 a1 = some (r1, r2, r3)) :
  Calls Try.prog 65 #[.slice A0 l0.length c0, .int .i64 a1] w fun e w' => e = .returned (.tuple #[.int .i64 r1, .int .i64 r2, .int .i64 r3]) ∧ Below w.heap.size w w' := by
 have HR0 := Aside0.mk hr0
 have HC0 := Aside0.mk hc0
 clear hr0 hc0
 have HB := Aside0.mk (Below.refl w.heap.size w)
 have H : ((runnelref01_Get.f k l0 a1).bind fun bt414 => (if (Int.tmod bt414.1 2) = 1 then (some (wrap64 ((wrap64 (-(wrap64 (IntKind.u64.wrap (Int.tdiv bt414.1 2))))) - 1), bt414.2.1, bt414.2.2)) else (some (wrap64 (IntKind.u64.wrap (Int.tdiv bt414.1 2)), bt414.2.1, bt414.2.2)))) = some (r1, r2, r3) := h
 clear h
 replace H := Option.bind_eq_some_iff.mp H
 obtain ⟨⟨t414, t415, t416⟩, A30, H⟩ := H
 replace H : (if (Int.tmod t414 2) = 1 then (some (wrap64 ((wrap64 (-(wrap64 (IntKind.u64.wrap (Int.tdiv t414 2))))) - 1), t415, t416)) else (some (wrap64 (IntKind.u64.wrap (Int.tdiv t414 2)), t415, t416))) = some (r1, r2, r3) := H
 have A3 := Aside0.mk A30
 clear A30
 by_cases c4 : (Int.tmod t414 2) = 1
 ·
  rw [if_pos c4] at H
  have c4b0 : ((Int.tmod t414 2) == 1) = true := beq_iff_eq.mpr c4
  have c4b1 : ((Int.tmod t414 2) != 1) = false := bne_eq_false_iff_eq.mpr c4
  clear c4
  simp only [Option.some.injEq, Prod.mk.injEq] at H
  obtain ⟨rfl, rfl, rfl⟩ := H
  go_enter Try.func65, Try.ntmps65
  go_wp2_with (first | ((with_reducible refine gate_callee (f := 44) rfl ?_); refine goesL_ (some 13) rfl rfl Try.func44 (by kernel_rfl) rfl #[.slice A0 l0.length c0, .int .i64 a1] rfl mpq ?_; (with_reducible refine (runnelref01_Get.calls k _ _ l0 a1 t414 t415 t416 _ ?side1 ?side2 A3.out).mono ?_); (case side1 => repeat (first | exact HR0.out | (with_reducible refine Kd.C_alloc ?_ _) | (with_reducible refine Kd.C_drewN ?_ _) | (with_reducible refine Kd.C_drew ?_))); (case side2 => exact HC0.out); rintro e w5 ⟨rfl, hb⟩; refine ⟨_, rfl, ?_⟩; have n0_ := Aside0.mk (below_step bl hb); clear HB; have HB := n0_; clear n0_; (try clear hb); (try clear hb2); (try clear hk); (try clear hi)))
  go_ret3
  exact ⟨erq, by repeat (first | (with_reducible first | exact HB.out | apply below_alloc | apply pw_below_drewN | apply below_drew1) | exact HB.out)⟩
 ·
  rw [if_neg c4] at H
  have c4b0 : ((Int.tmod t414 2) == 1) = false := beq_eq_false_iff_ne.mpr c4
  have c4b1 : ((Int.tmod t414 2) != 1) = true := bne_iff_ne.mpr c4
  simp only [Option.some.injEq, Prod.mk.injEq] at H
  obtain ⟨rfl, rfl, rfl⟩ := H
  go_enter Try.func65, Try.ntmps65
  go_wp2_with (first | ((with_reducible refine gate_callee (f := 44) rfl ?_); refine goesL_ (some 13) rfl rfl Try.func44 (by kernel_rfl) rfl #[.slice A0 l0.length c0, .int .i64 a1] rfl mpq ?_; (with_reducible refine (runnelref01_Get.calls k _ _ l0 a1 t414 t415 t416 _ ?side1 ?side2 A3.out).mono ?_); (case side1 => repeat (first | exact HR0.out | (with_reducible refine Kd.C_alloc ?_ _) | (with_reducible refine Kd.C_drewN ?_ _) | (with_reducible refine Kd.C_drew ?_))); (case side2 => exact HC0.out); rintro e w6 ⟨rfl, hb⟩; refine ⟨_, rfl, ?_⟩; have n0_ := Aside0.mk (below_step bl hb); clear HB; have HB := n0_; clear n0_; (try clear hb); (try clear hb2); (try clear hk); (try clear hi)))
  go_ret3
  exact ⟨erq, by repeat (first | (with_reducible first | exact HB.out | apply below_alloc | apply pw_below_drewN | apply below_drew1) | exact HB.out)⟩

end Go.Proofs.Ytpplklickfioiaa.PWireDecodes
