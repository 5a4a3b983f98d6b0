/- One piece of the machine's side of the law, written by a program over the translation; Lean checks it. -/
import Derived.Test.YtpplklickfioiaaOWireListsx0
import Derived.Test.YtpplklickfioiaaOWireListsx2
import Derived.Test.YtpplklickfioiaaOWireListsx5
import Derived.Test.YtpplklickfioiaaOWireListsx9
import Derived.Test.YtpplklickfioiaaOWireListsx10
import Derived.Test.YtpplklickfioiaaOWireListsx15
import Derived.Test.YtpplklickfioiaaOWireListsx17
import Derived.Test.YtpplklickfioiaaShort
namespace Go.Proofs.Ytpplklickfioiaa.PWireLists
open Go.RowKit Go.Proofs.YtpplklickfioiaaW.PrintWords Go.Proofs.YtpplklickfioiaaW.PrintLast Go.Proofs.YtpplklickfioiaaW.PrintMore
attribute [local go_sem] max2_int min2_int max_two min_two max_three min_three max_four min_four   -- for this text's walks alone
set_option linter.unusedVariables false
set_option linter.unusedSimpArgs false

/-! ### wire_Decode: function 27 -/
mutual
def wire_Decode.j0 : Nat → List Int → List (S40) → Int → Int → Bool → Option ((List (S40)) × Int × Int)
 | 0, _, _, _, _, _ => none
 | k + 1, x0, x2, x4, x5, x20 => if x20 = true then (some (([] : List (S40)), 6, 0)) else (wire_Decode.l0 k x0 x2 x4 x5 0)
def wire_Decode.l0 : Nat → List Int → List (S40) → Int → Int → Int → Option ((List (S40)) × Int × Int)
 | 0, _, _, _, _, _ => none
 | k + 1, x0, x2, x4, x21, x22 => if x22 < x21 then ((wire_Get.f k x0 x4).bind fun bt549 => (if bt549.2.2.2.2.2.2.2.2.2.2 = 0 then (if x2.length < 1172812402961 then (wire_Decode.l0 k x0 (x2 ++ [(⟨bt549.1, bt549.2.1, (⟨bt549.2.2.1, (⟨bt549.2.2.2.1, bt549.2.2.2.2.1⟩ : S36), bt549.2.2.2.2.2.1⟩ : S38), bt549.2.2.2.2.2.2.1, bt549.2.2.2.2.2.2.2.1, bt549.2.2.2.2.2.2.2.2.1⟩ : S40)]) bt549.2.2.2.2.2.2.2.2.2.1 x21 (IntKind.u64.wrap (x22 + 1))) else (none)) else (some (([] : List (S40)), 6, x4)))) else (if x4 = (x0.length : Int) then (some (x2, 0, x4)) else (some (([] : List (S40)), 6, x4)))
end
def wire_Decode.f (k : Nat) (l0 : List Int) : Option ((List (S40)) × Int × Int) := (num_Get.f k l0 0).bind fun bt546 => (if bt546.2.2 = 0 then (wire_Decode.j0 k l0 ([] : List (S40)) bt546.2.1 bt546.1 (decide (bt546.1 > 4096))) else (wire_Decode.j0 k l0 ([] : List (S40)) bt546.2.1 bt546.1 true))
set_option maxHeartbeats 8000000 in
set_option maxRecDepth 100000 in
theorem wire_Decode.calls (k : Nat) (A0 : Option Addr) (c0 : Nat) (l0 : List Int) (r1 : List (S40)) (r2 : Int) (r3 : Int) (w : World) (hr0 : Kd.C (Kd.int .u8) w A0 l0.length l0) (hc0 : l0.length ≤ c0) (h : wire_Decode.f k l0 = some (r1, r2, r3)) :
  Calls Try.prog 27 #[.slice A0 l0.length c0] w fun e w' => ∃ v0_ : Value, e = .returned (.tuple #[v0_, .int .i64 r2, .int .i64 r3]) ∧ Kd.N k40 40 w' w.heap.size (fun k_ => (w.heap.size ≤ k_)) v0_ r1 ∧ Below w.heap.size w w' := by
 have hu40 := Try.underlying40
 have HR0 := Aside0.mk hr0
 have HC0 := Aside0.mk hc0
 clear hr0 hc0
 have HB := Aside0.mk (Below.refl w.heap.size w)
 have H : ((num_Get.f k l0 0).bind fun bt546 => (if bt546.2.2 = 0 then (wire_Decode.j0 k l0 ([] : List (S40)) bt546.2.1 bt546.1 (decide (bt546.1 > 4096))) else (wire_Decode.j0 k l0 ([] : List (S40)) bt546.2.1 bt546.1 true))) = some (r1, r2, r3) := h
 clear h
 replace H := Option.bind_eq_some_iff.mp H
 obtain ⟨⟨t546, t547, t548⟩, A20, H⟩ := H
 replace H : (if t548 = 0 then (wire_Decode.j0 k l0 ([] : List (S40)) t547 t546 (decide (t546 > 4096))) else (wire_Decode.j0 k l0 ([] : List (S40)) t547 t546 true)) = some (r1, r2, r3) := H
 have A2 := Aside0.mk A20
 clear A20
 have HC3 := Aside0.mk H
 clear H
 go_enter Try.func27, Try.ntmps27
 go_upto_region 2 with (first | ((with_reducible refine gate_callee (f := 31) rfl ?_); refine goesL_ (some 11) rfl rfl Try.func31 (by kernel_rfl) rfl #[.slice A0 l0.length c0, .int .i64 0] rfl mpq ?_; (with_reducible refine (num_Get.calls k _ _ l0 0 t546 t547 t548 _ ?side1 ?side2 A2.out).mono ?_); (case side1 => repeat (first | exact HR0.out | (with_reducible refine Kd.C_alloc ?_ _) | (with_reducible refine Kd.C_drewN ?_ _) | (with_reducible refine Kd.C_drew ?_))); (case side2 => exact HC0.out); rintro e w' ⟨rfl, ⟨nd, rfl⟩⟩; refine ⟨_, rfl, ?_⟩))
 (try simp only [Act.put, List.setIfInBounds_toArray, List.set_cons_zero, List.set_cons_succ])
 go_cut [20] (fun v20 wc => ∃ (kq : Nat) (x20_2 : Bool), v20 = .bool x20_2 ∧ Aside0 (wire_Decode.j0 kq l0 ([] : List (S40)) t547 t546 x20_2 = some (r1, r2, r3)) ∧ Aside0 (kq ≤ k) ∧ Aside0 (Kd.N k40 40 wc w.heap.size (fun k_ => (w.heap.size ≤ k_)) (.slice none 0 0) ([] : List (S40))) ∧ Aside0 (Below w.heap.size w wc))
 case first =>
  have H := HC3.out
  clear HC3
  by_cases c4 : t548 = 0
  ·
   rw [if_pos c4] at H
   have c4b0 : (t548 == 0) = true := beq_iff_eq.mpr c4
   have c4b1 : (t548 != 0) = false := bne_eq_false_iff_eq.mpr c4
   clear c4
   (first | rw [c4b0] | (simp only [i64_w, i32_w]; rw [c4b0]) | skip)
   have H' := Aside0.mk H
   clear H
   go_wp2
   go_meet
   case rel => exact ⟨_, (decide (t546 > 4096)), (by first | rfl | (simp; done) | (simp [*]; done)), H', ⟨by first | omega | exact Nat.le_refl _⟩, ⟨by first | exact Kd.S_nil _ _ _ _ _ | exact Kd.N_nil _ _ _ _ _ | exact Kd.V_nil _ _ _ _ _ | exact Kd.Q_nil _ _ _ _ _ | exact Kd.R_nil _ _ _ _ _⟩, ⟨bl⟩⟩
  ·
   rw [if_neg c4] at H
   have c4b0 : (t548 == 0) = false := beq_eq_false_iff_ne.mpr c4
   have c4b1 : (t548 != 0) = true := bne_iff_ne.mpr c4
   (first | rw [c4b0] | (simp only [i64_w, i32_w]; rw [c4b0]) | skip)
   have H' := Aside0.mk H
   clear H
   go_wp2
   go_meet
   case rel => exact ⟨_, (true), (by first | rfl | (simp; done) | (simp [*]; done)), H', ⟨by first | omega | exact Nat.le_refl _⟩, ⟨by first | exact Kd.S_nil _ _ _ _ _ | exact Kd.N_nil _ _ _ _ _ | exact Kd.V_nil _ _ _ _ _ | exact Kd.Q_nil _ _ _ _ _ | exact Kd.R_nil _ _ _ _ _⟩, ⟨bl⟩⟩
 case rest =>
  clear HC3
  obtain ⟨kq, x20_2, rfl, HA, HJ2, HO_2, HB⟩ := hcut
  cases kq with
  | zero => exact absurd HA.out (by simp [wire_Decode.j0])
  | succ kj2 =>
   have H := HA.out
   clear HA
   simp only [wire_Decode.j0] at H
   by_cases c5 : x20_2 = true
   ·
    subst c5
    have H1 : (some (([] : List (S40)), 6, 0)) = some (r1, r2, r3) := by rw [if_pos rfl] at H; exact H
    clear H
    have H := H1
    clear H1
    simp only [Option.some.injEq, Prod.mk.injEq] at H
    obtain ⟨rfl, rfl, rfl⟩ := H
    go_wp2
    go_ret3
    exact ⟨_, erq, by first | exact Kd.S_nil _ _ _ _ _ | exact Kd.N_nil _ _ _ _ _ | exact Kd.V_nil _ _ _ _ _ | exact Kd.Q_nil _ _ _ _ _ | exact Kd.R_nil _ _ _ _ _, by repeat (first | (with_reducible first | exact HB.out | apply below_alloc | apply pw_below_drewN | apply below_drew1) | exact HB.out)⟩
   ·
    replace c5 := Bool.eq_false_iff.mpr c5
    subst c5
    have H1 : (wire_Decode.l0 kj2 l0 ([] : List (S40)) t547 t546 0) = some (r1, r2, r3) := by rw [if_neg (show ¬ (false = true) by decide)] at H; exact H
    clear H
    have H := H1
    clear H1
    have H' := Aside0.mk H
    clear H
    go_wp2
    go_loopg [2, 4, 22] kj2 (fun kq v2 v4 v22 w' => ∃ (x2_2 : List (S40)) (x4_2 : Int) (x22_2 : Int), v4 = .int .i64 x4_2 ∧ v22 = .int .u64 x22_2 ∧ Aside0 (wire_Decode.l0 kq l0 x2_2 x4_2 t546 x22_2 = some (r1, r2, r3)) ∧ Aside0 (kq ≤ kj2) ∧ Aside0 (Kd.N k40 40 w' w.heap.size (fun k_ => (w.heap.size ≤ k_)) v2 x2_2) ∧ Aside0 (Below w.heap.size w w'))
    case atStart => exact ⟨(([] : List (S40))), (t547), (0), (by first | rfl | (simp; done) | (simp [*]; done)), (by first | rfl | (simp; done) | (simp [*]; done)), H', ⟨Nat.le_refl _⟩, ⟨by (with_reducible repeat (first | apply Kd.N_alloc | apply Kd.N_drewN | apply Kd.N_drew)); exact HO_2.out⟩, ⟨bl⟩⟩
    case round =>
     clear H'
     try clear c5
     obtain ⟨x2_2, x4_2, x22_2, rfl, rfl, HA, HK2, HO_2, HB⟩ := hrel
     cases gk with
     | zero => exact absurd HA.out (by simp [wire_Decode.l0])
     | succ k2 =>
      have H := HA.out
      clear HA
      simp only [wire_Decode.l0] at H
      by_cases c6 : x22_2 < t546
      ·
       rw [if_pos c6] at H
       have c6b0 : decide (x22_2 < t546) = true := decide_eq_true c6
       clear c6
       replace H := Option.bind_eq_some_iff.mp H
       obtain ⟨⟨t549, t550, t551, t554, t555, t556, t557, t560, t561, t564, t565⟩, A70, H⟩ := H
       replace H : (if t565 = 0 then (if x2_2.length < 1172812402961 then (wire_Decode.l0 k2 l0 (x2_2 ++ [(⟨t549, t550, (⟨t551, (⟨t554, t555⟩ : S36), t556⟩ : S38), t557, t560, t561⟩ : S40)]) t564 t546 (IntKind.u64.wrap (x22_2 + 1))) else (none)) else (some (([] : List (S40)), 6, x4_2))) = some (r1, r2, r3) := H
       have A7 := Aside0.mk A70
       clear A70
       by_cases c8 : t565 = 0
       ·
        rw [if_pos c8] at H
        have c8b0 : (t565 == 0) = true := beq_iff_eq.mpr c8
        have c8b1 : (t565 != 0) = false := bne_eq_false_iff_eq.mpr c8
        clear c8
        by_cases c9 : x2_2.length < 1172812402961
        ·
         rw [if_pos c9] at H
         have LMc9 := Aside0.mk c9
         clear c9
         obtain ⟨y567, hy567⟩ : ∃ y_ : List (S40), y_ = (x2_2 ++ [(⟨t549, t550, (⟨t551, (⟨t554, t555⟩ : S36), t556⟩ : S38), t557, t560, t561⟩ : S40)]) := ⟨_, rfl⟩
         replace H : (wire_Decode.l0 k2 l0 y567 t564 t546 (IntKind.u64.wrap (x22_2 + 1))) = some (r1, r2, r3) := by first | (rw [hy567]; with_reducible exact H) | (have H2_ := (Option.bind_some _ _).symm.trans H; rw [hy567]; with_reducible exact H2_) | (have H2_ := (Option.bind_some _ _).symm.trans H; with_reducible exact H2_) | with_reducible exact H | (rw [hy567]; exact H) | exact H
         have Ny567 := Aside0.mk hy567
         clear hy567
         have H' := Aside0.mk H
         clear H
         go_wp2_with (first | ((with_reducible refine gate_callee (f := 14) rfl ?_); refine goesL_ (some 27) rfl rfl Try.func14 (by kernel_rfl) rfl #[.slice A0 l0.length c0, .int .i64 x4_2] rfl mpq ?_; (with_reducible refine (wire_Get.calls k2 _ _ l0 x4_2 t549 t550 t551 t554 t555 t556 t557 t560 t561 t564 t565 _ ?side1 ?side2 A7.out).mono ?_); (case side1 => repeat (first | exact (Kd.C_below HR0.out HB.out) | (with_reducible refine Kd.C_alloc ?_ _) | (with_reducible refine Kd.C_drewN ?_ _) | (with_reducible refine Kd.C_drew ?_))); (case side2 => exact HC0.out); rintro e w10 ⟨v552, v558, v562, rfl, ho0, ho1, ho2, hb⟩; refine ⟨_, rfl, ?_⟩; have n0_ := Aside0.mk (Kd.N_mono (Kd.N_told (Kd.N_told (Kd.N_old (by (with_reducible repeat (first | apply Kd.N_alloc | apply Kd.N_drewN | apply Kd.N_drew)); exact HO_2.out) hb) (Kd.R_base ho0)) (Kd.R_base ho1)) (fun _ h_ => h_.1)); have n1_ := Aside0.mk (Kd.R_lower (Kd.R_newM (M := fun k_ => (w.heap.size ≤ k_)) (Kd.R_mono (ok' := fun k_ => True) ho0 (fun _ hk_ => trivial)) (below_size bl) (fun k_ h_ => h_)) (below_size bl)); have n2_ := Aside0.mk (Kd.R_lower (Kd.R_newM (M := fun k_ => (w.heap.size ≤ k_)) (Kd.R_mono (ok' := fun k_ => True) ho1 (fun _ hk_ => trivial)) (below_size bl) (fun k_ h_ => h_)) (below_size bl)); have n3_ := Aside0.mk (Kd.V_lower (Kd.V_mono (ok' := fun k_ => (w.heap.size ≤ k_) ∧ some k_ ≠ (v552 : Value).ownBlock ∧ some k_ ≠ (v558 : Value).ownBlock ∧ some k_ ≠ (u2 : Value).ownBlock) ho2 (fun k_ hk_ => ⟨(Nat.le_trans (below_size bl) hk_.1), hk_.2.1, hk_.2.2, (Kd.fresh' (Kd.N_lt (by (with_reducible repeat (first | apply Kd.N_alloc | apply Kd.N_drewN | apply Kd.N_drew)); exact HO_2.out)) k_ hk_.1)⟩)) (below_size bl)); have n4_ := Aside0.mk (below_step bl hb); clear HO_2; clear HB; have HO_2 := n0_; have HO553 := n1_; have HO559 := n2_; have HO563 := n3_; have HB := n4_; clear n0_ n1_ n2_ n3_ n4_; (try clear hb); (try clear hb2); (try clear hk); (try clear hi); (try clear ho0); (try clear ho1); (try clear ho2)) | ((with_reducible refine gate_dst (N := 6) rfl ?_); refine box_event ?hg (N := 6) ?hd (cs := #[.int .i64 0, .int .i64 0, .slice none 0 0, .int .i64 0, .int .i64 0, .int .i64 0, .slice none 0 0, .int .i64 0, .slice none 0 0]) (t := 40) ?hr ?_; (case hd => rfl); (case hg => rfl); (case hr => first | (go_simp; done) | (go_simp; rfl)); intro gb566 hg w11 hbox hb; have n0_ := Aside0.mk (Kd.N_below (Kd.N_elderB (by (with_reducible repeat (first | apply Kd.N_alloc | apply Kd.N_drewN | apply Kd.N_drew)); exact HO_2.out) gb566 (Nat.le_of_eq hg.symm)) hb); have n1_ := Aside0.mk (Kd.R_below (rp HO553.out) hb); have n2_ := Aside0.mk (Kd.R_below (rp HO559.out) hb); have n3_ := Aside0.mk (Kd.V_below (Kd.V_elderB (by (with_reducible repeat (first | apply Kd.V_alloc | apply Kd.V_drewN | apply Kd.V_drew)); exact HO563.out) gb566 (Nat.le_of_eq hg.symm)) hb); have n4_ := Aside0.mk (below_step bl hb); have n5_ := Aside0.mk (hbox); have n6_ := Aside0.mk ((by rw [hg]; exact (below_size bl) : w.heap.size ≤ gb566)); have n7_ := Aside0.mk ((by rw [hg]; exact (below_size bl) : w.heap.size ≤ gb566)); clear HO_2; clear HO553; clear HO559; clear HO563; clear HB; have HO_2 := n0_; have HO553 := n1_; have HO559 := n2_; have HO563 := n3_; have HB := n4_; have BK566 := n5_; have GW566 := n6_; have GE566 := n7_; clear n0_ n1_ n2_ n3_ n4_ n5_ n6_ n7_; clear hb hbox hg; obtain ⟨hcz12_0, hcz12_1, hcz12_2, hcz12_3, hcz12_4, hcz12_5, hcz12_6, hcz12_7, hcz12_8⟩ := cells9 BK566.out; obtain ⟨hfz12_0, hfz12_1, hfz12_2, hfz12_3, hfz12_4, hfz12_5, hfz12_6, hfz12_7, hfz12_8⟩ := frz9 BK566.out; obtain ⟨Ao13, co13, eo13⟩ := Kd.R_slice HO553.out; subst eo13; obtain ⟨Ao14, co14, eo14⟩ := Kd.R_slice HO559.out; subst eo14; obtain ⟨Ao15, co15, eo15⟩ := Kd.V_slice HO563.out; subst eo15) | ((with_reducible refine gate_store (t := 40) (p := 6) rfl ?_); refine store_event (t := 40) (p := 6) (v := ?vo_w16) (w1 := (((((((((w11.setCell ⟨gb566, 0, none⟩ (.int .i64 t549)).setCell ⟨gb566, 1, none⟩ (.int .i64 t550)).setCell ⟨gb566, 2, none⟩ (.slice Ao13 t551.length co13)).setCell ⟨gb566, 3, none⟩ (.int .i64 t554)).setCell ⟨gb566, 4, none⟩ (.int .i64 t555)).setCell ⟨gb566, 5, none⟩ (.int .i64 t556)).setCell ⟨gb566, 6, none⟩ (.slice Ao14 t557.length co14)).setCell ⟨gb566, 7, none⟩ (.int .i64 t560)).setCell ⟨gb566, 8, none⟩ (.slice Ao15 t561.length co15))) ?hg ?ho ?hn ?hr ?_; (case ho => rfl); (case hg => rfl); (case hn => rfl); (case hr => first | (go_simp; done) | (go_simp; rfl)); intro w16 hw; have n0_ : Aside0 (Kd.N k40 40 w16 w.heap.size (fun k_ => (w.heap.size ≤ k_) ∧ some k_ ≠ (.slice Ao13 t551.length co13 : Value).ownBlock ∧ some k_ ≠ (.slice Ao14 t557.length co14 : Value).ownBlock ∧ k_ ≠ gb566) u2 x2_2) := ⟨(by rw [hw]; exact (by (with_reducible repeat (first | apply Kd.N_alloc | apply Kd.N_drewN | apply Kd.N_drew)); exact Kd.N_mono (Kd.N_far (p := ⟨gb566, 8, none⟩) (Kd.N_far (p := ⟨gb566, 7, none⟩) (Kd.N_far (p := ⟨gb566, 6, none⟩) (Kd.N_far (p := ⟨gb566, 5, none⟩) (Kd.N_far (p := ⟨gb566, 4, none⟩) (Kd.N_far (p := ⟨gb566, 3, none⟩) (Kd.N_far (p := ⟨gb566, 2, none⟩) (Kd.N_far (p := ⟨gb566, 1, none⟩) (Kd.N_far (p := ⟨gb566, 0, none⟩) (Kd.N_mono HO_2.out (fun k_ hk => (⟨hk, hk.2⟩ : _ ∧ k_ ≠ gb566))) (fun _ hk => hk.2) (.int .i64 t549)) (fun _ hk => hk.2) (.int .i64 t550)) (fun _ hk => hk.2) (.slice Ao13 t551.length co13)) (fun _ hk => hk.2) (.int .i64 t554)) (fun _ hk => hk.2) (.int .i64 t555)) (fun _ hk => hk.2) (.int .i64 t556)) (fun _ hk => hk.2) (.slice Ao14 t557.length co14)) (fun _ hk => hk.2) (.int .i64 t560)) (fun _ hk => hk.2) (.slice Ao15 t561.length co15)) (fun _ hk => ⟨hk.1.1.1.1, ⟨hk.1.1.1.2, ⟨hk.1.1.2, hk.1.2⟩⟩⟩)))⟩; have n1_ : Aside0 (Kd.R k103 103 w16 w.heap.size (fun k_ => (w.heap.size ≤ k_)) (.slice Ao13 t551.length co13) t551) := ⟨(by rw [hw]; exact (rp (Kd.R_mono (Kd.R_far (p := ⟨gb566, 8, none⟩) (Kd.R_far (p := ⟨gb566, 7, none⟩) (Kd.R_far (p := ⟨gb566, 6, none⟩) (Kd.R_far (p := ⟨gb566, 5, none⟩) (Kd.R_far (p := ⟨gb566, 4, none⟩) (Kd.R_far (p := ⟨gb566, 3, none⟩) (Kd.R_far (p := ⟨gb566, 2, none⟩) (Kd.R_far (p := ⟨gb566, 1, none⟩) (Kd.R_far (p := ⟨gb566, 0, none⟩) (Kd.R_types HO553.out BK566.out (by decide)) (fun _ hk => hk.2) (.int .i64 t549)) (fun _ hk => hk.2) (.int .i64 t550)) (fun _ hk => hk.2) (.slice Ao13 t551.length co13)) (fun _ hk => hk.2) (.int .i64 t554)) (fun _ hk => hk.2) (.int .i64 t555)) (fun _ hk => hk.2) (.int .i64 t556)) (fun _ hk => hk.2) (.slice Ao14 t557.length co14)) (fun _ hk => hk.2) (.int .i64 t560)) (fun _ hk => hk.2) (.slice Ao15 t561.length co15)) (fun _ hk => hk.1.1))))⟩; have n2_ : Aside0 (Kd.R k36 36 w16 w.heap.size (fun k_ => (w.heap.size ≤ k_)) (.slice Ao14 t557.length co14) t557) := ⟨(by rw [hw]; exact (rp (Kd.R_mono (Kd.R_far (p := ⟨gb566, 8, none⟩) (Kd.R_far (p := ⟨gb566, 7, none⟩) (Kd.R_far (p := ⟨gb566, 6, none⟩) (Kd.R_far (p := ⟨gb566, 5, none⟩) (Kd.R_far (p := ⟨gb566, 4, none⟩) (Kd.R_far (p := ⟨gb566, 3, none⟩) (Kd.R_far (p := ⟨gb566, 2, none⟩) (Kd.R_far (p := ⟨gb566, 1, none⟩) (Kd.R_far (p := ⟨gb566, 0, none⟩) (Kd.R_types HO559.out BK566.out (by decide)) (fun _ hk => hk.2) (.int .i64 t549)) (fun _ hk => hk.2) (.int .i64 t550)) (fun _ hk => hk.2) (.slice Ao13 t551.length co13)) (fun _ hk => hk.2) (.int .i64 t554)) (fun _ hk => hk.2) (.int .i64 t555)) (fun _ hk => hk.2) (.int .i64 t556)) (fun _ hk => hk.2) (.slice Ao14 t557.length co14)) (fun _ hk => hk.2) (.int .i64 t560)) (fun _ hk => hk.2) (.slice Ao15 t561.length co15)) (fun _ hk => hk.1.1))))⟩; have n3_ : Aside0 (Kd.V (Kd.int .u8) 5 w16 w.heap.size (fun k_ => (w.heap.size ≤ k_) ∧ some k_ ≠ (u2 : Value).ownBlock ∧ some k_ ≠ (.slice Ao13 t551.length co13 : Value).ownBlock ∧ some k_ ≠ (.slice Ao14 t557.length co14 : Value).ownBlock ∧ k_ ≠ gb566) (.slice Ao15 t561.length co15) t561) := ⟨(by rw [hw]; exact (by (with_reducible repeat (first | apply Kd.V_alloc | apply Kd.V_drewN | apply Kd.V_drew)); exact Kd.V_mono (Kd.V_far (p := ⟨gb566, 8, none⟩) (Kd.V_far (p := ⟨gb566, 7, none⟩) (Kd.V_far (p := ⟨gb566, 6, none⟩) (Kd.V_far (p := ⟨gb566, 5, none⟩) (Kd.V_far (p := ⟨gb566, 4, none⟩) (Kd.V_far (p := ⟨gb566, 3, none⟩) (Kd.V_far (p := ⟨gb566, 2, none⟩) (Kd.V_far (p := ⟨gb566, 1, none⟩) (Kd.V_far (p := ⟨gb566, 0, none⟩) (Kd.V_mono HO563.out (fun k_ hk => (⟨hk, hk.2⟩ : _ ∧ k_ ≠ gb566))) (fun _ hk => hk.2) (.int .i64 t549)) (fun _ hk => hk.2) (.int .i64 t550)) (fun _ hk => hk.2) (.slice Ao13 t551.length co13)) (fun _ hk => hk.2) (.int .i64 t554)) (fun _ hk => hk.2) (.int .i64 t555)) (fun _ hk => hk.2) (.int .i64 t556)) (fun _ hk => hk.2) (.slice Ao14 t557.length co14)) (fun _ hk => hk.2) (.int .i64 t560)) (fun _ hk => hk.2) (.slice Ao15 t561.length co15)) (fun _ hk => ⟨hk.1.1.1, ⟨hk.1.1.2.2.2, ⟨hk.1.1.2.1, ⟨hk.1.1.2.2.1, hk.1.2⟩⟩⟩⟩)))⟩; have n4_ : Aside0 (w16.heap[gb566]? = some (.cells #[.int .i64 t549, .int .i64 t550, .slice Ao13 t551.length co13, .int .i64 t554, .int .i64 t555, .int .i64 t556, .slice Ao14 t557.length co14, .int .i64 t560, .slice Ao15 t561.length co15] 40 (0, 0))) := ⟨(by rw [hw]; exact bk)⟩; have n5_ : Aside0 (Below w.heap.size w w16) := ⟨(by rw [hw]; exact bl)⟩; clear hw; clear HO_2; clear HO553; clear HO559; clear HO563; clear BK566; clear HB; have HO_2 := n0_; have HO553 := n1_; have HO559 := n2_; have HO563 := n3_; have BK566 := n4_; have HB := n5_; clear n0_ n1_ n2_ n3_ n4_ n5_; obtain ⟨hcz17_0, hcz17_1, hcz17_2, hcz17_3, hcz17_4, hcz17_5, hcz17_6, hcz17_7, hcz17_8⟩ := cells9 BK566.out; have hfz17_0 := blk_frozen BK566.out 0; have hfz17_1 := blk_frozen BK566.out 1; have hfz17_2 := blk_frozen BK566.out 2; have hfz17_3 := blk_frozen BK566.out 3; have hfz17_4 := blk_frozen BK566.out 4; have hfz17_5 := blk_frozen BK566.out 5; have hfz17_6 := blk_frozen BK566.out 6; have hfz17_7 := blk_frozen BK566.out 7; have hfz17_8 := blk_frozen BK566.out 8) | ((with_reducible refine gate_builtin (b := .append) (xs := #[.tmp 34, .tmp 36]) rfl ?_); at_builtin; refine Kd.N_append k40 (w0 := w) w.heap.size rfl (.tmp 34) (.tmp 36) 48 40 (.agg #[(.int .i64 0), (.int .i64 0), (.slice none 0 0), (.int .i64 0), (.int .i64 0), (.int .i64 0), (.slice none 0 0), (.int .i64 0), (.slice none 0 0)]) 120 rfl Try.underlying48 info40 rfl (by decide) (by omega) u2 x2_2 (⟨t549, t550, (⟨t551, (⟨t554, t555⟩ : S36), t556⟩ : S38), t557, t560, t561⟩ : S40) [.int .i64 t549, .int .i64 t550, .slice Ao13 t551.length co13, .int .i64 t554, .int .i64 t555, .int .i64 t556, .slice Ao14 t557.length co14, .int .i64 t560, .slice Ao15 t561.length co15] (fun k_ => (w.heap.size ≤ k_) ∧ k_ ≠ gb566) (fun k_ => ((fun k_ => (w.heap.size ≤ k_) ∧ k_ ≠ gb566)) k_ ∧ some k_ ≠ (u2 : Value).ownBlock) rfl rfl ?aP (fun _ hk => hk) ?aF ?aO ?aB ?aS ?aL ?_; (case aP => exact (k40_mkF _ _ (⟨t549, t550, (⟨t551, (⟨t554, t555⟩ : S36), t556⟩ : S38), t557, t560, t561⟩ : S40) (Kd.R_reads' (Kd.R_mono (ok' := (fun k_ => ((fun k_ => (w.heap.size ≤ k_) ∧ k_ ≠ gb566)) k_ ∧ some k_ ≠ (u2 : Value).ownBlock)) (Kd.R_types (Kd.R_apart' (HO553.out) (Kd.N_typed HO_2.out) (by decide)) BK566.out (by decide)) (fun k_ hk => ⟨⟨hk.1.1, hk.2⟩, hk.1.2⟩))).2.1 (Kd.R_F (Kd.R_mono (ok' := (fun k_ => ((fun k_ => (w.heap.size ≤ k_) ∧ k_ ≠ gb566)) k_ ∧ some k_ ≠ (u2 : Value).ownBlock)) (Kd.R_types (Kd.R_apart' (HO553.out) (Kd.N_typed HO_2.out) (by decide)) BK566.out (by decide)) (fun k_ hk => ⟨⟨hk.1.1, hk.2⟩, hk.1.2⟩))) (Kd.R_reads' (Kd.R_mono (ok' := (fun k_ => ((fun k_ => (w.heap.size ≤ k_) ∧ k_ ≠ gb566)) k_ ∧ some k_ ≠ (u2 : Value).ownBlock)) (Kd.R_types (Kd.R_apart' (HO559.out) (Kd.N_typed HO_2.out) (by decide)) BK566.out (by decide)) (fun k_ hk => ⟨⟨hk.1.1, hk.2⟩, hk.1.2⟩))).2.1 (Kd.R_F (Kd.R_mono (ok' := (fun k_ => ((fun k_ => (w.heap.size ≤ k_) ∧ k_ ≠ gb566)) k_ ∧ some k_ ≠ (u2 : Value).ownBlock)) (Kd.R_types (Kd.R_apart' (HO559.out) (Kd.N_typed HO_2.out) (by decide)) BK566.out (by decide)) (fun k_ hk => ⟨⟨hk.1.1, hk.2⟩, hk.1.2⟩))) (Kd.V_reads' (Kd.V_mono (ok' := (fun k_ => ((fun k_ => (w.heap.size ≤ k_) ∧ k_ ≠ gb566)) k_ ∧ some k_ ≠ (u2 : Value).ownBlock)) (HO563.out) (fun k_ hk => ⟨⟨hk.1, hk.2.2.2.2⟩, hk.2.1⟩))).2.1 (Kd.V_F (Kd.V_mono (ok' := (fun k_ => ((fun k_ => (w.heap.size ≤ k_) ∧ k_ ≠ gb566)) k_ ∧ some k_ ≠ (u2 : Value).ownBlock)) (HO563.out) (fun k_ hk => ⟨⟨hk.1, hk.2.2.2.2⟩, hk.2.1⟩))))); (case aB => exact bl); (case aF => exact (fun k_ hk => ⟨(Nat.le_trans (below_size bl) hk), Kd.freshB (g := gb566) (o := .cells #[.int .i64 t549, .int .i64 t550, .slice Ao13 t551.length co13, .int .i64 t554, .int .i64 t555, .int .i64 t556, .slice Ao14 t557.length co14, .int .i64 t560, .slice Ao15 t561.length co15] 40 (0, 0)) bk k_ hk⟩)); (case aO => exact (by (with_reducible repeat (first | apply Kd.N_alloc | apply Kd.N_drewN | apply Kd.N_drew)); exact Kd.N_mono HO_2.out (fun _ hk => ⟨hk.1, hk.2.2.2⟩))); (case aS => exact (below_size bl)); (case aL => have := LMc9.out; omega); intro v568 w18 ho hb hg hat; rw [← Ny567.out] at ho; have n0_ := Aside0.mk (Kd.V_afterv (ok := (fun k_ => (w.heap.size ≤ k_) ∧ some k_ ≠ (.slice Ao13 t551.length co13 : Value).ownBlock ∧ some k_ ≠ (.slice Ao14 t557.length co14 : Value).ownBlock ∧ k_ ≠ gb566)) (by (with_reducible repeat (first | apply Kd.V_alloc | apply Kd.V_drewN | apply Kd.V_drew)); exact Kd.V_mono HO563.out (fun _ hk => ⟨⟨hk.1, ⟨hk.2.2.1, ⟨hk.2.2.2.1, hk.2.2.2.2⟩⟩⟩, hk.2.1⟩)) hg hat); have n1_ := Aside0.mk (blk_grown (g := gb566) (o := .cells #[.int .i64 t549, .int .i64 t550, .slice Ao13 t551.length co13, .int .i64 t554, .int .i64 t555, .int .i64 t556, .slice Ao14 t557.length co14, .int .i64 t560, .slice Ao15 t561.length co15] 40 (0, 0)) bk hg (Kd.N_away HO_2.out (fun _ hk => hk.2.2.2))); have n2_ := Aside0.mk (hb); have n3_ := Aside0.mk (ho); clear HO563; clear BK566; clear HB; clear HO_2; clear HO553; clear HO559; have HO563 := n0_; have BK566 := n1_; have HB := n2_; have HO569 := n3_; clear n0_ n1_ n2_ n3_; clear ho hb hg hat))
         go_roundg k2
         case measure => have := HJ2.out; have := HK2.out; omega
         case rel => exact ⟨(y567), (t564), (IntKind.u64.wrap (x22_2 + 1)), (by first | rfl | (simp; done) | (simp [*]; done)), (by first | rfl | (simp; done) | (simp [*]; done)), H', ⟨by have := HJ2.out; have := HK2.out; omega⟩, ⟨by (with_reducible repeat (first | apply Kd.N_alloc | apply Kd.N_drewN | apply Kd.N_drew)); exact Kd.N_mono HO569.out (fun _ hk => hk.1)⟩, ⟨bl⟩⟩
        ·
         rw [if_neg c9] at H
         exact absurd H (by simp)
       ·
        rw [if_neg c8] at H
        have c8b0 : (t565 == 0) = false := beq_eq_false_iff_ne.mpr c8
        have c8b1 : (t565 != 0) = true := bne_iff_ne.mpr c8
        simp only [Option.some.injEq, Prod.mk.injEq] at H
        obtain ⟨rfl, rfl, rfl⟩ := H
        go_wp2_with (first | ((with_reducible refine gate_callee (f := 14) rfl ?_); refine goesL_ (some 27) rfl rfl Try.func14 (by kernel_rfl) rfl #[.slice A0 l0.length c0, .int .i64 x4_2] rfl mpq ?_; (with_reducible refine (wire_Get.calls k2 _ _ l0 x4_2 t549 t550 t551 t554 t555 t556 t557 t560 t561 t564 t565 _ ?side1 ?side2 A7.out).mono ?_); (case side1 => repeat (first | exact (Kd.C_below HR0.out HB.out) | (with_reducible refine Kd.C_alloc ?_ _) | (with_reducible refine Kd.C_drewN ?_ _) | (with_reducible refine Kd.C_drew ?_))); (case side2 => exact HC0.out); rintro e w19 ⟨v552, v558, v562, rfl, ho0, ho1, ho2, hb⟩; refine ⟨_, rfl, ?_⟩; have n0_ := Aside0.mk (Kd.N_mono (Kd.N_told (Kd.N_told (Kd.N_old (by (with_reducible repeat (first | apply Kd.N_alloc | apply Kd.N_drewN | apply Kd.N_drew)); exact HO_2.out) hb) (Kd.R_base ho0)) (Kd.R_base ho1)) (fun _ h_ => h_.1)); have n1_ := Aside0.mk (Kd.R_lower (Kd.R_newM (M := fun k_ => (w.heap.size ≤ k_)) (Kd.R_mono (ok' := fun k_ => True) ho0 (fun _ hk_ => trivial)) (below_size bl) (fun k_ h_ => h_)) (below_size bl)); have n2_ := Aside0.mk (Kd.R_lower (Kd.R_newM (M := fun k_ => (w.heap.size ≤ k_)) (Kd.R_mono (ok' := fun k_ => True) ho1 (fun _ hk_ => trivial)) (below_size bl) (fun k_ h_ => h_)) (below_size bl)); have n3_ := Aside0.mk (Kd.V_lower (Kd.V_mono (ok' := fun k_ => (w.heap.size ≤ k_) ∧ some k_ ≠ (v552 : Value).ownBlock ∧ some k_ ≠ (v558 : Value).ownBlock ∧ some k_ ≠ (u2 : Value).ownBlock) ho2 (fun k_ hk_ => ⟨(Nat.le_trans (below_size bl) hk_.1), hk_.2.1, hk_.2.2, (Kd.fresh' (Kd.N_lt (by (with_reducible repeat (first | apply Kd.N_alloc | apply Kd.N_drewN | apply Kd.N_drew)); exact HO_2.out)) k_ hk_.1)⟩)) (below_size bl)); have n4_ := Aside0.mk (below_step bl hb); clear HO_2; clear HB; have HO_2 := n0_; have HO553 := n1_; have HO559 := n2_; have HO563 := n3_; have HB := n4_; clear n0_ n1_ n2_ n3_ n4_; (try clear hb); (try clear hb2); (try clear hk); (try clear hi); (try clear ho0); (try clear ho1); (try clear ho2)) | ((with_reducible refine gate_dst (N := 6) rfl ?_); refine box_event ?hg (N := 6) ?hd (cs := #[.int .i64 0, .int .i64 0, .slice none 0 0, .int .i64 0, .int .i64 0, .int .i64 0, .slice none 0 0, .int .i64 0, .slice none 0 0]) (t := 40) ?hr ?_; (case hd => rfl); (case hg => rfl); (case hr => first | (go_simp; done) | (go_simp; rfl)); intro gb566 hg w20 hbox hb; have n0_ := Aside0.mk (Kd.N_below (Kd.N_elderB (by (with_reducible repeat (first | apply Kd.N_alloc | apply Kd.N_drewN | apply Kd.N_drew)); exact HO_2.out) gb566 (Nat.le_of_eq hg.symm)) hb); have n1_ := Aside0.mk (Kd.R_below (rp HO553.out) hb); have n2_ := Aside0.mk (Kd.R_below (rp HO559.out) hb); have n3_ := Aside0.mk (Kd.V_below (Kd.V_elderB (by (with_reducible repeat (first | apply Kd.V_alloc | apply Kd.V_drewN | apply Kd.V_drew)); exact HO563.out) gb566 (Nat.le_of_eq hg.symm)) hb); have n4_ := Aside0.mk (below_step bl hb); have n5_ := Aside0.mk (hbox); have n6_ := Aside0.mk ((by rw [hg]; exact (below_size bl) : w.heap.size ≤ gb566)); have n7_ := Aside0.mk ((by rw [hg]; exact (below_size bl) : w.heap.size ≤ gb566)); clear HO_2; clear HO553; clear HO559; clear HO563; clear HB; have HO_2 := n0_; have HO553 := n1_; have HO559 := n2_; have HO563 := n3_; have HB := n4_; have BK566 := n5_; have GW566 := n6_; have GE566 := n7_; clear n0_ n1_ n2_ n3_ n4_ n5_ n6_ n7_; clear hb hbox hg; obtain ⟨hcz21_0, hcz21_1, hcz21_2, hcz21_3, hcz21_4, hcz21_5, hcz21_6, hcz21_7, hcz21_8⟩ := cells9 BK566.out; obtain ⟨hfz21_0, hfz21_1, hfz21_2, hfz21_3, hfz21_4, hfz21_5, hfz21_6, hfz21_7, hfz21_8⟩ := frz9 BK566.out; obtain ⟨Ao22, co22, eo22⟩ := Kd.R_slice HO553.out; subst eo22; obtain ⟨Ao23, co23, eo23⟩ := Kd.R_slice HO559.out; subst eo23; obtain ⟨Ao24, co24, eo24⟩ := Kd.V_slice HO563.out; subst eo24))
        go_ret3
        exact ⟨_, erq, by first | exact Kd.S_nil _ _ _ _ _ | exact Kd.N_nil _ _ _ _ _ | exact Kd.V_nil _ _ _ _ _ | exact Kd.Q_nil _ _ _ _ _ | exact Kd.R_nil _ _ _ _ _, by repeat (first | (with_reducible first | exact HB.out | apply below_alloc | apply pw_below_drewN | apply below_drew1 | refine below_set ?_ GE566.out) | exact HB.out)⟩
      ·
       rw [if_neg c6] at H
       have c6b0 : decide (x22_2 < t546) = false := decide_eq_false c6
       clear c6
       by_cases c25 : x4_2 = (l0.length : Int)
       ·
        rw [if_pos c25] at H
        have c25b0 : (x4_2 == (l0.length : Int)) = true := beq_iff_eq.mpr c25
        have c25b1 : (x4_2 != (l0.length : Int)) = false := bne_eq_false_iff_eq.mpr c25
        clear c25
        simp only [Option.some.injEq, Prod.mk.injEq] at H
        obtain ⟨rfl, rfl, rfl⟩ := H
        go_wp2
        go_ret3
        exact ⟨_, erq, by (with_reducible repeat (first | apply Kd.N_alloc | apply Kd.N_drewN | apply Kd.N_drew)); exact HO_2.out, by repeat (first | (with_reducible first | exact HB.out | apply below_alloc | apply pw_below_drewN | apply below_drew1) | exact HB.out)⟩
       ·
        rw [if_neg c25] at H
        have c25b0 : (x4_2 == (l0.length : Int)) = false := beq_eq_false_iff_ne.mpr c25
        have c25b1 : (x4_2 != (l0.length : Int)) = true := bne_iff_ne.mpr c25
        simp only [Option.some.injEq, Prod.mk.injEq] at H
        obtain ⟨rfl, rfl, rfl⟩ := H
        go_wp2
        go_ret3
        exact ⟨_, erq, by first | exact Kd.S_nil _ _ _ _ _ | exact Kd.N_nil _ _ _ _ _ | exact Kd.V_nil _ _ _ _ _ | exact Kd.Q_nil _ _ _ _ _ | exact Kd.R_nil _ _ _ _ _, by repeat (first | (with_reducible first | exact HB.out | apply below_alloc | apply pw_below_drewN | apply below_drew1) | exact HB.out)⟩

/-! ### runnellaw26_WireLists: function 6 -/
def runnellaw26_WireLists.j0 : Nat → List (S40) → List Int → Int → Bool → Option (Bool)
 | 0, _, _, _, _ => none
 | k + 1, x0, x3, x6, x33 => if x33 = true then (some false) else (if x6 = 0 then ((wire_Decode.f k x3).bind fun bt582 => ((runnellaw26_code.f bt582.2.1).bind fun t587 => (if t587 = 0 then (if bt582.2.2 = (x3.length : Int) then ((runnelref26_Same.f k bt582.1 x0 true).bind fun t588 => (if t588 = true then ((runnellaw26_live.f k).bind fun t589 => (some t589)) else (some false))) else (some false)) else (some false)))) else ((runnellaw26_live.f k).bind fun t581 => (some t581)))
def runnellaw26_WireLists.f (k : Nat) (l0 : List (S40)) : Option (Bool) := (runnelref26_Much.f k l0).bind fun t570 => (if t570 = true then ((runnellaw26_live.f k).bind fun t571 => (some t571)) else ((wire_Encode.f k l0).bind fun bt572 => ((runnelref26_Encode.f k l0).bind fun bt576 => (if (strOfNums bt572.1).toList = (strOfNums bt576.1).toList then ((runnellaw26_code.f bt572.2).bind fun t580 => (runnellaw26_WireLists.j0 k l0 bt572.1 bt576.2 (t580 != bt576.2))) else (runnellaw26_WireLists.j0 k l0 bt572.1 bt576.2 true)))))
set_option maxHeartbeats 8000000 in
set_option maxRecDepth 100000 in
theorem runnellaw26_WireLists.calls (k : Nat) (A0 : Option Addr) (c0 : Nat) (l0 : List (S40)) (r : Bool) (w : World) (hr0 : Kd.C k40 w A0 l0.length l0) (hc0 : l0.length ≤ c0) (hrt : r = true) (h : runnellaw26_WireLists.f k l0 = some r) :
  Calls Try.prog 6 #[.slice A0 l0.length c0] w fun e w' => e = .returned (.bool r) ∧ Below w.heap.size w w' := by
 have HR0 := Aside0.mk hr0
 have HC0 := Aside0.mk hc0
 clear hr0 hc0
 have HB := Aside0.mk (Below.refl w.heap.size w)
 have H : ((runnelref26_Much.f k l0).bind fun t570 => (if t570 = true then ((runnellaw26_live.f k).bind fun t571 => (some t571)) else ((wire_Encode.f k l0).bind fun bt572 => ((runnelref26_Encode.f k l0).bind fun bt576 => (if (strOfNums bt572.1).toList = (strOfNums bt576.1).toList then ((runnellaw26_code.f bt572.2).bind fun t580 => (runnellaw26_WireLists.j0 k l0 bt572.1 bt576.2 (t580 != bt576.2))) else (runnellaw26_WireLists.j0 k l0 bt572.1 bt576.2 true)))))) = some r := h
 clear h
 replace H := Option.bind_eq_some_iff.mp H
 obtain ⟨t570, A20, H⟩ := H
 replace H : (if t570 = true then ((runnellaw26_live.f k).bind fun t571 => (some t571)) else ((wire_Encode.f k l0).bind fun bt572 => ((runnelref26_Encode.f k l0).bind fun bt576 => (if (strOfNums bt572.1).toList = (strOfNums bt576.1).toList then ((runnellaw26_code.f bt572.2).bind fun t580 => (runnellaw26_WireLists.j0 k l0 bt572.1 bt576.2 (t580 != bt576.2))) else (runnellaw26_WireLists.j0 k l0 bt572.1 bt576.2 true))))) = some r := H
 have A2 := Aside0.mk A20
 clear A20
 by_cases c3 : t570 = true
 ·
  subst c3
  have H1 : ((runnellaw26_live.f k).bind fun t571 => (some t571)) = some r := by rw [if_pos rfl] at H; exact H
  clear H
  have H := H1
  clear H1
  replace H := Option.bind_eq_some_iff.mp H
  obtain ⟨t571, A40, H⟩ := H
  replace H : (some t571) = some r := H
  have A4 := Aside0.mk A40
  clear A40
  obtain rfl := Option.some.inj H
  go_enter Try.func6, Try.ntmps6
  go_wp2_with (first | ((with_reducible refine gate_callee (f := 18) rfl ?_); refine goesL_ (some 11) rfl rfl Try.func18 (by kernel_rfl) rfl #[.slice A0 l0.length c0] rfl mpq ?_; (with_reducible refine (runnelref26_Much.calls k _ _ l0 true _ ?side1 ?side2 A2.out).mono ?_); (case side1 => repeat (first | exact HR0.out | (with_reducible refine Kd.C_alloc ?_ _) | (with_reducible refine Kd.C_drewN ?_ _) | (with_reducible refine Kd.C_drew ?_))); (case side2 => exact HC0.out); rintro e w' ⟨rfl, ⟨nd, rfl⟩⟩; refine ⟨_, rfl, ?_⟩) | ((with_reducible refine gate_callee (f := 8) rfl ?_); refine goesL_ (some 12) rfl rfl Try.func8 (by kernel_rfl) rfl #[] rfl mpq ?_; (with_reducible refine (runnellaw26_live.calls k  t571 _ A4.out).mono ?_); rintro e w5 ⟨rfl, hb⟩; refine ⟨_, rfl, ?_⟩; have n0_ := Aside0.mk (below_step bl hb); clear HB; have HB := n0_; clear n0_; (try clear hb); (try clear hb2); (try clear hk); (try clear hi)))
  go_ret
  exact ⟨erq, by repeat (first | (with_reducible first | exact HB.out | apply below_alloc | apply pw_below_drewN | apply below_drew1) | exact HB.out)⟩
 ·
  replace c3 := Bool.eq_false_iff.mpr c3
  subst c3
  have H1 : ((wire_Encode.f k l0).bind fun bt572 => ((runnelref26_Encode.f k l0).bind fun bt576 => (if (strOfNums bt572.1).toList = (strOfNums bt576.1).toList then ((runnellaw26_code.f bt572.2).bind fun t580 => (runnellaw26_WireLists.j0 k l0 bt572.1 bt576.2 (t580 != bt576.2))) else (runnellaw26_WireLists.j0 k l0 bt572.1 bt576.2 true)))) = some r := by rw [if_neg (show ¬ (false = true) by decide)] at H; exact H
  clear H
  have H := H1
  clear H1
  replace H := Option.bind_eq_some_iff.mp H
  obtain ⟨⟨t572, t573⟩, A60, H⟩ := H
  replace H : ((runnelref26_Encode.f k l0).bind fun bt576 => (if (strOfNums t572).toList = (strOfNums bt576.1).toList then ((runnellaw26_code.f t573).bind fun t580 => (runnellaw26_WireLists.j0 k l0 t572 bt576.2 (t580 != bt576.2))) else (runnellaw26_WireLists.j0 k l0 t572 bt576.2 true))) = some r := H
  have A6 := Aside0.mk A60
  clear A60
  replace H := Option.bind_eq_some_iff.mp H
  obtain ⟨⟨t576, t577⟩, A70, H⟩ := H
  replace H : (if (strOfNums t572).toList = (strOfNums t576).toList then ((runnellaw26_code.f t573).bind fun t580 => (runnellaw26_WireLists.j0 k l0 t572 t577 (t580 != t577))) else (runnellaw26_WireLists.j0 k l0 t572 t577 true)) = some r := H
  have A7 := Aside0.mk A70
  clear A70
  have HC8 := Aside0.mk H
  clear H
  go_enter Try.func6, Try.ntmps6
  go_upto_region 5 with (first | ((with_reducible refine gate_callee (f := 18) rfl ?_); refine goesL_ (some 11) rfl rfl Try.func18 (by kernel_rfl) rfl #[.slice A0 l0.length c0] rfl mpq ?_; (with_reducible refine (runnelref26_Much.calls k _ _ l0 false _ ?side1 ?side2 A2.out).mono ?_); (case side1 => repeat (first | exact HR0.out | (with_reducible refine Kd.C_alloc ?_ _) | (with_reducible refine Kd.C_drewN ?_ _) | (with_reducible refine Kd.C_drew ?_))); (case side2 => exact HC0.out); rintro e w' ⟨rfl, ⟨nd, rfl⟩⟩; refine ⟨_, rfl, ?_⟩) | ((with_reducible refine gate_callee (f := 25) rfl ?_); refine goesL_ (some 15) rfl rfl Try.func25 (by kernel_rfl) rfl #[.slice A0 l0.length c0] rfl mpq ?_; (with_reducible refine (wire_Encode.calls k _ _ l0 t572 t573 _ ?side1 ?side2 A6.out).mono ?_); (case side1 => repeat (first | exact HR0.out | (with_reducible refine Kd.C_alloc ?_ _) | (with_reducible refine Kd.C_drewN ?_ _) | (with_reducible refine Kd.C_drew ?_))); (case side2 => exact HC0.out); rintro e w9 ⟨v574, rfl, ho0, hb⟩; refine ⟨_, rfl, ?_⟩; have n0_ := Aside0.mk (Kd.R_lower ho0 (below_size bl)); have n1_ := Aside0.mk (below_step bl hb); clear HB; have HO575 := n0_; have HB := n1_; clear n0_ n1_; (try clear hb); (try clear hb2); (try clear hk); (try clear hi); (try clear ho0)) | ((with_reducible refine gate_callee (f := 26) rfl ?_); refine goesL_ (some 20) rfl rfl Try.func26 (by kernel_rfl) rfl #[.slice A0 l0.length c0] rfl mpq ?_; (with_reducible refine (runnelref26_Encode.calls k _ _ l0 t576 t577 _ ?side1 ?side2 A7.out).mono ?_); (case side1 => repeat (first | exact (Kd.C_below HR0.out HB.out) | (with_reducible refine Kd.C_alloc ?_ _) | (with_reducible refine Kd.C_drewN ?_ _) | (with_reducible refine Kd.C_drew ?_))); (case side2 => exact HC0.out); rintro e w10 ⟨v578, rfl, ho0, hb⟩; refine ⟨_, rfl, ?_⟩; have n0_ := Aside0.mk (Kd.R_elder' (rp HO575.out) (Kd.R_base ho0) hb); have n1_ := Aside0.mk (Kd.R_lower (Kd.R_new' ho0 (Kd.R_lt (rp HO575.out))) (below_size bl)); have n2_ := Aside0.mk (below_step bl hb); clear HO575; clear HB; have HO575 := n0_; have HO579 := n1_; have HB := n2_; clear n0_ n1_ n2_; (try clear hb); (try clear hb2); (try clear hk); (try clear hi); (try clear ho0)))
  (try simp only [Act.put, List.setIfInBounds_toArray, List.set_cons_zero, List.set_cons_succ])
  go_cut [33] (fun v33 wc => ∃ (kq : Nat) (x33_7 : Bool), v33 = .bool x33_7 ∧ Aside0 (runnellaw26_WireLists.j0 kq l0 t572 t577 x33_7 = some r) ∧ Aside0 (kq ≤ k) ∧ Aside0 (Kd.R (Kd.int .u8) 5 wc w.heap.size (fun _ => True) v574 t572) ∧ Aside0 (Below w.heap.size w wc))
  case first =>
   have H := HC8.out
   clear HC8
   by_cases c11 : (strOfNums t572).toList = (strOfNums t576).toList
   ·
    rw [if_pos c11] at H
    have c11b0 : ((strOfNums t572).toList == (strOfNums t576).toList) = true := beq_iff_eq.mpr c11
    have c11b1 : ((strOfNums t572).toList != (strOfNums t576).toList) = false := bne_eq_false_iff_eq.mpr c11
    clear c11
    (first | rw [c11b0] | (simp only [i64_w, i32_w]; rw [c11b0]) | skip)
    replace H := Option.bind_eq_some_iff.mp H
    obtain ⟨t580, A120, H⟩ := H
    replace H : (runnellaw26_WireLists.j0 k l0 t572 t577 (t580 != t577)) = some r := H
    have A12 := Aside0.mk A120
    clear A120
    have H' := Aside0.mk H
    clear H
    have hcv13 := own_string (P := Try.prog) Try.underlying22 Try.underlying5 Try.underlying9 (Kd.own_of_R HO575.out)
    have hcv13d := fun n_ : Nat => own_string (P := Try.prog) Try.underlying22 Try.underlying5 Try.underlying9 (Kd.own_of_R (Kd.R_drewN HO575.out n_))
    have hcv14 := own_string (P := Try.prog) Try.underlying22 Try.underlying5 Try.underlying9 (Kd.own_of_R HO579.out)
    have hcv14d := fun n_ : Nat => own_string (P := Try.prog) Try.underlying22 Try.underlying5 Try.underlying9 (Kd.own_of_R (Kd.R_drewN HO579.out n_))
    go_wp2_with (first | (go_at_call 12; (with_reducible refine (runnellaw26_code.calls t573 t580 _ A12.out).mono ?_); rintro e w' ⟨rfl, ⟨nd, rfl⟩⟩))
    go_meet
    case rel => exact ⟨_, ((t580 != t577)), (by first | rfl | (simp; done) | (simp [*]; done)), H', ⟨by first | omega | exact Nat.le_refl _⟩, ⟨by (with_reducible repeat (first | apply Kd.R_alloc | apply Kd.R_drewN | apply Kd.R_drew)); exact Kd.R_mono HO575.out (fun _ hk => trivial)⟩, ⟨bl⟩⟩
   ·
    rw [if_neg c11] at H
    have c11b0 : ((strOfNums t572).toList == (strOfNums t576).toList) = false := beq_eq_false_iff_ne.mpr c11
    have c11b1 : ((strOfNums t572).toList != (strOfNums t576).toList) = true := bne_iff_ne.mpr c11
    (first | rw [c11b0] | (simp only [i64_w, i32_w]; rw [c11b0]) | skip)
    have H' := Aside0.mk H
    clear H
    have hcv15 := own_string (P := Try.prog) Try.underlying22 Try.underlying5 Try.underlying9 (Kd.own_of_R HO575.out)
    have hcv15d := fun n_ : Nat => own_string (P := Try.prog) Try.underlying22 Try.underlying5 Try.underlying9 (Kd.own_of_R (Kd.R_drewN HO575.out n_))
    have hcv16 := own_string (P := Try.prog) Try.underlying22 Try.underlying5 Try.underlying9 (Kd.own_of_R HO579.out)
    have hcv16d := fun n_ : Nat => own_string (P := Try.prog) Try.underlying22 Try.underlying5 Try.underlying9 (Kd.own_of_R (Kd.R_drewN HO579.out n_))
    go_wp2
    go_meet
    case rel => exact ⟨_, (true), (by first | rfl | (simp; done) | (simp [*]; done)), H', ⟨by first | omega | exact Nat.le_refl _⟩, ⟨by (with_reducible repeat (first | apply Kd.R_alloc | apply Kd.R_drewN | apply Kd.R_drew)); exact Kd.R_mono HO575.out (fun _ hk => trivial)⟩, ⟨bl⟩⟩
  case rest =>
   clear HC8
   try clear c3
   obtain ⟨kq, x33_7, rfl, HA, HJ7, HO_3, HB⟩ := hcut
   cases kq with
   | zero => exact absurd HA.out (by simp [runnellaw26_WireLists.j0])
   | succ kj7 =>
    have H := HA.out
    clear HA
    simp only [runnellaw26_WireLists.j0] at H
    by_cases c17 : x33_7 = true
    ·
     subst c17
     have H1 : (some false) = some r := by rw [if_pos rfl] at H; exact H
     clear H
     have H := H1
     clear H1
     exact absurd ((Option.some.inj H).trans hrt) Bool.false_ne_true
    ·
     replace c17 := Bool.eq_false_iff.mpr c17
     subst c17
     have H1 : (if t577 = 0 then ((wire_Decode.f kj7 t572).bind fun bt582 => ((runnellaw26_code.f bt582.2.1).bind fun t587 => (if t587 = 0 then (if bt582.2.2 = (t572.length : Int) then ((runnelref26_Same.f kj7 bt582.1 l0 true).bind fun t588 => (if t588 = true then ((runnellaw26_live.f kj7).bind fun t589 => (some t589)) else (some false))) else (some false)) else (some false)))) else ((runnellaw26_live.f kj7).bind fun t581 => (some t581))) = some r := by rw [if_neg (show ¬ (false = true) by decide)] at H; exact H
     clear H
     have H := H1
     clear H1
     by_cases c18 : t577 = 0
     ·
      rw [if_pos c18] at H
      have c18b0 : (t577 == 0) = true := beq_iff_eq.mpr c18
      have c18b1 : (t577 != 0) = false := bne_eq_false_iff_eq.mpr c18
      clear c18
      replace H := Option.bind_eq_some_iff.mp H
      obtain ⟨⟨t582, t585, t586⟩, A190, H⟩ := H
      replace H : ((runnellaw26_code.f t585).bind fun t587 => (if t587 = 0 then (if t586 = (t572.length : Int) then ((runnelref26_Same.f kj7 t582 l0 true).bind fun t588 => (if t588 = true then ((runnellaw26_live.f kj7).bind fun t589 => (some t589)) else (some false))) else (some false)) else (some false))) = some r := H
      have A19 := Aside0.mk A190
      clear A190
      replace H := Option.bind_eq_some_iff.mp H
      obtain ⟨t587, A200, H⟩ := H
      replace H : (if t587 = 0 then (if t586 = (t572.length : Int) then ((runnelref26_Same.f kj7 t582 l0 true).bind fun t588 => (if t588 = true then ((runnellaw26_live.f kj7).bind fun t589 => (some t589)) else (some false))) else (some false)) else (some false)) = some r := H
      have A20 := Aside0.mk A200
      clear A200
      by_cases c21 : t587 = 0
      ·
       rw [if_pos c21] at H
       have c21b0 : (t587 == 0) = true := beq_iff_eq.mpr c21
       have c21b1 : (t587 != 0) = false := bne_eq_false_iff_eq.mpr c21
       clear c21
       by_cases c22 : t586 = (t572.length : Int)
       ·
        rw [if_pos c22] at H
        have c22b0 : (t586 == (t572.length : Int)) = true := beq_iff_eq.mpr c22
        have c22b1 : (t586 != (t572.length : Int)) = false := bne_eq_false_iff_eq.mpr c22
        clear c22
        replace H := Option.bind_eq_some_iff.mp H
        obtain ⟨t588, A230, H⟩ := H
        replace H : (if t588 = true then ((runnellaw26_live.f kj7).bind fun t589 => (some t589)) else (some false)) = some r := H
        have A23 := Aside0.mk A230
        clear A230
        by_cases c24 : t588 = true
        ·
         subst c24
         have H1 : ((runnellaw26_live.f kj7).bind fun t589 => (some t589)) = some r := by rw [if_pos rfl] at H; exact H
         clear H
         have H := H1
         clear H1
         replace H := Option.bind_eq_some_iff.mp H
         obtain ⟨t589, A250, H⟩ := H
         replace H : (some t589) = some r := H
         have A25 := Aside0.mk A250
         clear A250
         obtain rfl := Option.some.inj H
         obtain ⟨Ao26, co26, eo26⟩ := Kd.R_slice HO_3.out
         subst eo26
         go_wp2_with (first | ((with_reducible refine gate_callee (f := 27) rfl ?_); refine goesL_ (some 39) rfl rfl Try.func27 (by kernel_rfl) rfl #[.slice Ao26 t572.length co26] rfl mpq ?_; (with_reducible refine (wire_Decode.calls kj7 _ _ t572 t582 t585 t586 _ ?side1 ?side2 A19.out).mono ?_); (case side1 => repeat (first | exact (Kd.R_reads' HO_3.out).2.2 | (with_reducible refine Kd.C_alloc ?_ _) | (with_reducible refine Kd.C_drewN ?_ _) | (with_reducible refine Kd.C_drew ?_))); (case side2 => exact (Kd.R_reads' HO_3.out).2.1); rintro e w27 ⟨v583, rfl, ho0, hb⟩; refine ⟨_, rfl, ?_⟩; have n0_ := Aside0.mk (Kd.R_below (rp HO_3.out) hb); have n1_ := Aside0.mk (Kd.N_lower (Kd.N_mono (ok' := fun k_ => some k_ ≠ (.slice Ao26 t572.length co26 : Value).ownBlock) ho0 (fun k_ hk_ => (Kd.fresh' (Kd.R_lt (rp HO_3.out)) k_ hk_))) (below_size bl)); have n2_ := Aside0.mk (below_step bl hb); clear HO_3; clear HB; have HO_3 := n0_; have HO584 := n1_; have HB := n2_; clear n0_ n1_ n2_; (try clear hb); (try clear hb2); (try clear hk); (try clear hi); (try clear ho0)) | ((with_reducible refine gate_callee (f := 12) rfl ?_); refine goesL_ (some 44) rfl rfl Try.func12 (by kernel_rfl) rfl #[.int .i64 t585] rfl mpq ?_; (with_reducible refine (runnellaw26_code.calls t585 t587 _ A20.out).mono ?_); rintro e w' ⟨rfl, ⟨nd, rfl⟩⟩; refine ⟨_, rfl, ?_⟩; obtain ⟨Ao28, co28, eo28⟩ := Kd.N_slice HO584.out; subst eo28) | (go_at_call 17; (with_reducible refine (runnelref26_Same.calls kj7 _ _ t582 _ _ l0 true true _ ?side1 ?side2 ?side3 ?side4 A23.out).mono ?_); (case side1 => repeat (first | exact (Kd.N_reads' HO584.out).2.2 | (with_reducible refine Kd.C_alloc ?_ _) | (with_reducible refine Kd.C_drewN ?_ _) | (with_reducible refine Kd.C_drew ?_))); (case side2 => exact (Kd.N_reads' HO584.out).2.1); (case side3 => repeat (first | exact (Kd.C_below HR0.out bl) | (with_reducible refine Kd.C_alloc ?_ _) | (with_reducible refine Kd.C_drewN ?_ _) | (with_reducible refine Kd.C_drew ?_))); (case side4 => exact HC0.out); rintro e w29 ⟨rfl, hb⟩; have n0_ := Aside0.mk (Kd.R_below (rp HO_3.out) hb); have n1_ := Aside0.mk (Kd.N_below (by (with_reducible repeat (first | apply Kd.N_alloc | apply Kd.N_drewN | apply Kd.N_drew)); exact HO584.out) hb); have n2_ := Aside0.mk (below_step bl hb); clear HO_3; clear HO584; clear HB; have HO_3 := n0_; have HO584 := n1_; have HB := n2_; clear n0_ n1_ n2_; (try clear hb); (try clear hb2); (try clear hk); (try clear hi)) | (go_at_call 8; (with_reducible refine (runnellaw26_live.calls kj7  t589 _ A25.out).mono ?_); rintro e w30 ⟨rfl, hb⟩; have n0_ := Aside0.mk (Kd.R_below (rp HO_3.out) hb); have n1_ := Aside0.mk (Kd.N_below (by (with_reducible repeat (first | apply Kd.N_alloc | apply Kd.N_drewN | apply Kd.N_drew)); exact HO584.out) hb); have n2_ := Aside0.mk (below_step bl hb); clear HO_3; clear HO584; clear HB; have HO_3 := n0_; have HO584 := n1_; have HB := n2_; clear n0_ n1_ n2_; (try clear hb); (try clear hb2); (try clear hk); (try clear hi)))
         go_ret
         exact ⟨erq, by repeat (first | (with_reducible first | exact HB.out | apply below_alloc | apply pw_below_drewN | apply below_drew1) | exact HB.out)⟩
        ·
         replace c24 := Bool.eq_false_iff.mpr c24
         subst c24
         have H1 : (some false) = some r := by rw [if_neg (show ¬ (false = true) by decide)] at H; exact H
         clear H
         have H := H1
         clear H1
         exact absurd ((Option.some.inj H).trans hrt) Bool.false_ne_true
       ·
        rw [if_neg c22] at H
        have c22b0 : (t586 == (t572.length : Int)) = false := beq_eq_false_iff_ne.mpr c22
        have c22b1 : (t586 != (t572.length : Int)) = true := bne_iff_ne.mpr c22
        exact absurd ((Option.some.inj H).trans hrt) Bool.false_ne_true
      ·
       rw [if_neg c21] at H
       have c21b0 : (t587 == 0) = false := beq_eq_false_iff_ne.mpr c21
       have c21b1 : (t587 != 0) = true := bne_iff_ne.mpr c21
       exact absurd ((Option.some.inj H).trans hrt) Bool.false_ne_true
     ·
      rw [if_neg c18] at H
      have c18b0 : (t577 == 0) = false := beq_eq_false_iff_ne.mpr c18
      have c18b1 : (t577 != 0) = true := bne_iff_ne.mpr c18
      replace H := Option.bind_eq_some_iff.mp H
      obtain ⟨t581, A390, H⟩ := H
      replace H : (some t581) = some r := H
      have A39 := Aside0.mk A390
      clear A390
      obtain rfl := Option.some.inj H
      go_wp2_with (first | ((with_reducible refine gate_callee (f := 8) rfl ?_); refine goesL_ (some 36) rfl rfl Try.func8 (by kernel_rfl) rfl #[] rfl mpq ?_; (with_reducible refine (runnellaw26_live.calls kj7  t581 _ A39.out).mono ?_); rintro e w40 ⟨rfl, hb⟩; refine ⟨_, rfl, ?_⟩; have n0_ := Aside0.mk (Kd.R_below (rp HO_3.out) hb); have n1_ := Aside0.mk (below_step bl hb); clear HO_3; clear HB; have HO_3 := n0_; have HB := n1_; clear n0_ n1_; (try clear hb); (try clear hb2); (try clear hk); (try clear hi)))
      go_ret
      exact ⟨erq, by repeat (first | (with_reducible first | exact HB.out | apply below_alloc | apply pw_below_drewN | apply below_drew1) | exact HB.out)⟩

end Go.Proofs.Ytpplklickfioiaa.PWireLists
