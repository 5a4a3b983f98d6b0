/- One piece of the machine's side of the law, written by a program over the translation; Lean checks it. -/
import Derived.Test.YtpplklickfioiaaOWireDecodesx0
import Derived.Test.YtpplklickfioiaaOWireDecodesx2
import Derived.Test.YtpplklickfioiaaOWireDecodesx5
import Derived.Test.YtpplklickfioiaaOWireDecodesx7
import Derived.Test.YtpplklickfioiaaOWireDecodesx8
import Derived.Test.YtpplklickfioiaaOWireDecodesx11
import Derived.Test.YtpplklickfioiaaOWireDecodesx14
import Derived.Test.YtpplklickfioiaaShort
namespace Go.Proofs.Ytpplklickfioiaa.PWireDecodes
open Go.RowKit Go.Proofs.YtpplklickfioiaaW.PrintWords Go.Proofs.YtpplklickfioiaaW.PrintLast Go.Proofs.YtpplklickfioiaaW.PrintMore
attribute [local go_sem] max2_int min2_int max_two min_two max_three min_three max_four min_four   -- for this text's walks alone
set_option linter.unusedVariables false
set_option linter.unusedSimpArgs false

/-! ### runnelref26_Decode: function 28 -/
mutual
def runnelref26_Decode.j0 : Nat → List Int → Int → Int → Bool → Option ((List (S40)) × Int × Int)
 | 0, _, _, _, _ => none
 | k + 1, x0, x5, x6, x24 => if x24 = true then (some (([] : List (S40)), 6, 0)) else (runnelref26_Decode.l0 k x0 x5 x6 ([] : List (S40)) 0)
def runnelref26_Decode.l0 : Nat → List Int → Int → Int → List (S40) → Int → Option ((List (S40)) × Int × Int)
 | 0, _, _, _, _, _ => none
 | k + 1, x0, x5, x6, x8, x9 => if x9 < (wrap64 (x5)) then ((runnelref26_Get.f k x0 x6).bind fun bt508 => (if bt508.2.2.2.2.2.2.2.2.2.2 = 0 then (if x8.length < 1172812402961 then (runnelref26_Decode.l0 k x0 x5 bt508.2.2.2.2.2.2.2.2.2.1 (x8 ++ [(⟨bt508.1, bt508.2.1, (⟨bt508.2.2.1, (⟨bt508.2.2.2.1, bt508.2.2.2.2.1⟩ : S36), bt508.2.2.2.2.2.1⟩ : S38), bt508.2.2.2.2.2.2.1, bt508.2.2.2.2.2.2.2.1, bt508.2.2.2.2.2.2.2.2.1⟩ : S40)]) (wrap64 (x9 + 1))) else (none)) else (some (([] : List (S40)), 6, x6)))) else (if x6 = (x0.length : Int) then (some (x8, 0, x6)) else (some (([] : List (S40)), 6, x6)))
end
def runnelref26_Decode.f (k : Nat) (l0 : List Int) : Option ((List (S40)) × Int × Int) := (runnelref01_Get.f k l0 0).bind fun bt505 => (if bt505.2.2 = 0 then (runnelref26_Decode.j0 k l0 bt505.1 bt505.2.1 (decide (bt505.1 > 4096))) else (runnelref26_Decode.j0 k l0 bt505.1 bt505.2.1 true))
set_option maxHeartbeats 8000000 in
set_option maxRecDepth 100000 in
theorem runnelref26_Decode.calls (k : Nat) (A0 : Option Addr) (c0 : Nat) (l0 : List Int) (r1 : List (S40)) (r2 : Int) (r3 : Int) (w : World) (hr0 : Kd.C (Kd.int .u8) w A0 l0.length l0) (hc0 : l0.length ≤ c0) (h : runnelref26_Decode.f k l0 = some (r1, r2, r3)) :
  Calls Try.prog 28 #[.slice A0 l0.length c0] w fun e w' => ∃ v0_ : Value, e = .returned (.tuple #[v0_, .int .i64 r2, .int .i64 r3]) ∧ Kd.N k40 40 w' w.heap.size (fun k_ => (w.heap.size ≤ k_)) v0_ r1 ∧ Below w.heap.size w w' := by
 have hu40 := Try.underlying40
 have HR0 := Aside0.mk hr0
 have HC0 := Aside0.mk hc0
 clear hr0 hc0
 have HB := Aside0.mk (Below.refl w.heap.size w)
 have H : ((runnelref01_Get.f k l0 0).bind fun bt505 => (if bt505.2.2 = 0 then (runnelref26_Decode.j0 k l0 bt505.1 bt505.2.1 (decide (bt505.1 > 4096))) else (runnelref26_Decode.j0 k l0 bt505.1 bt505.2.1 true))) = some (r1, r2, r3) := h
 clear h
 replace H := Option.bind_eq_some_iff.mp H
 obtain ⟨⟨t505, t506, t507⟩, A20, H⟩ := H
 replace H : (if t507 = 0 then (runnelref26_Decode.j0 k l0 t505 t506 (decide (t505 > 4096))) else (runnelref26_Decode.j0 k l0 t505 t506 true)) = some (r1, r2, r3) := H
 have A2 := Aside0.mk A20
 clear A20
 have HC3 := Aside0.mk H
 clear H
 go_enter Try.func28, Try.ntmps28
 go_upto_region 2 with (first | ((with_reducible refine gate_callee (f := 44) rfl ?_); refine goesL_ (some 15) rfl rfl Try.func44 (by kernel_rfl) rfl #[.slice A0 l0.length c0, .int .i64 0] rfl mpq ?_; (with_reducible refine (runnelref01_Get.calls k _ _ l0 0 t505 t506 t507 _ ?side1 ?side2 A2.out).mono ?_); (case side1 => repeat (first | exact HR0.out | (with_reducible refine Kd.C_alloc ?_ _) | (with_reducible refine Kd.C_drewN ?_ _) | (with_reducible refine Kd.C_drew ?_))); (case side2 => exact HC0.out); rintro e w4 ⟨rfl, hb⟩; refine ⟨_, rfl, ?_⟩; have n0_ := Aside0.mk (below_step bl hb); clear HB; have HB := n0_; clear n0_; (try clear hb); (try clear hb2); (try clear hk); (try clear hi)))
 (try simp only [Act.put, List.setIfInBounds_toArray, List.set_cons_zero, List.set_cons_succ])
 go_cut [24] (fun v24 wc => ∃ (kq : Nat) (x24_2 : Bool), v24 = .bool x24_2 ∧ Aside0 (runnelref26_Decode.j0 kq l0 t505 t506 x24_2 = some (r1, r2, r3)) ∧ Aside0 (kq ≤ k) ∧ Aside0 (Below w.heap.size w wc))
 case first =>
  have H := HC3.out
  clear HC3
  by_cases c5 : t507 = 0
  ·
   rw [if_pos c5] at H
   have c5b0 : (t507 == 0) = true := beq_iff_eq.mpr c5
   have c5b1 : (t507 != 0) = false := bne_eq_false_iff_eq.mpr c5
   clear c5
   (first | rw [c5b0] | (simp only [i64_w, i32_w]; rw [c5b0]) | skip)
   have H' := Aside0.mk H
   clear H
   go_wp2
   go_meet
   case rel => exact ⟨_, (decide (t505 > 4096)), (by first | rfl | (simp; done) | (simp [*]; done)), H', ⟨by first | omega | exact Nat.le_refl _⟩, ⟨bl⟩⟩
  ·
   rw [if_neg c5] at H
   have c5b0 : (t507 == 0) = false := beq_eq_false_iff_ne.mpr c5
   have c5b1 : (t507 != 0) = true := bne_iff_ne.mpr c5
   (first | rw [c5b0] | (simp only [i64_w, i32_w]; rw [c5b0]) | skip)
   have H' := Aside0.mk H
   clear H
   go_wp2
   go_meet
   case rel => exact ⟨_, (true), (by first | rfl | (simp; done) | (simp [*]; done)), H', ⟨by first | omega | exact Nat.le_refl _⟩, ⟨bl⟩⟩
 case rest =>
  clear HC3
  obtain ⟨kq, x24_2, rfl, HA, HJ2, HB⟩ := hcut
  cases kq with
  | zero => exact absurd HA.out (by simp [runnelref26_Decode.j0])
  | succ kj2 =>
   have H := HA.out
   clear HA
   simp only [runnelref26_Decode.j0] at H
   by_cases c6 : x24_2 = true
   ·
    subst c6
    have H1 : (some (([] : List (S40)), 6, 0)) = some (r1, r2, r3) := by rw [if_pos rfl] at H; exact H
    clear H
    have H := H1
    clear H1
    simp only [Option.some.injEq, Prod.mk.injEq] at H
    obtain ⟨rfl, rfl, rfl⟩ := H
    go_wp2
    go_ret3
    exact ⟨_, erq, by first | exact Kd.S_nil _ _ _ _ _ | exact Kd.N_nil _ _ _ _ _ | exact Kd.V_nil _ _ _ _ _ | exact Kd.Q_nil _ _ _ _ _ | exact Kd.R_nil _ _ _ _ _, by repeat (first | (with_reducible first | exact HB.out | apply below_alloc | apply pw_below_drewN | apply below_drew1) | exact HB.out)⟩
   ·
    replace c6 := Bool.eq_false_iff.mpr c6
    subst c6
    have H1 : (runnelref26_Decode.l0 kj2 l0 t505 t506 ([] : List (S40)) 0) = some (r1, r2, r3) := by rw [if_neg (show ¬ (false = true) by decide)] at H; exact H
    clear H
    have H := H1
    clear H1
    have H' := Aside0.mk H
    clear H
    go_wp2
    go_loopg [6, 8, 9] kj2 (fun kq v6 v8 v9 w' => ∃ (x6_2 : Int) (x8_2 : List (S40)) (x9_2 : Int), v6 = .int .i64 x6_2 ∧ v9 = .int .i64 x9_2 ∧ Aside0 (runnelref26_Decode.l0 kq l0 t505 x6_2 x8_2 x9_2 = some (r1, r2, r3)) ∧ Aside0 (kq ≤ kj2) ∧ Aside0 (Kd.N k40 40 w' w.heap.size (fun k_ => (w.heap.size ≤ k_)) v8 x8_2) ∧ Aside0 (Below w.heap.size w w'))
    case atStart => exact ⟨(t506), (([] : List (S40))), (0), (by first | rfl | (simp; done) | (simp [*]; done)), (by first | rfl | (simp; done) | (simp [*]; done)), H', ⟨Nat.le_refl _⟩, ⟨by first | exact Kd.S_nil _ _ _ _ _ | exact Kd.N_nil _ _ _ _ _ | exact Kd.V_nil _ _ _ _ _ | exact Kd.Q_nil _ _ _ _ _ | exact Kd.R_nil _ _ _ _ _⟩, ⟨bl⟩⟩
    case round =>
     clear H'
     try clear c6
     obtain ⟨x6_2, x8_2, x9_2, rfl, rfl, HA, HK2, HO_8, HB⟩ := hrel
     cases gk with
     | zero => exact absurd HA.out (by simp [runnelref26_Decode.l0])
     | succ k2 =>
      have H := HA.out
      clear HA
      simp only [runnelref26_Decode.l0] at H
      by_cases c7 : x9_2 < (wrap64 (t505))
      ·
       rw [if_pos c7] at H
       have c7b0 : decide (x9_2 < (wrap64 (t505))) = true := decide_eq_true c7
       clear c7
       replace H := Option.bind_eq_some_iff.mp H
       obtain ⟨⟨t508, t509, t510, t513, t514, t515, t516, t519, t520, t523, t524⟩, A80, H⟩ := H
       replace H : (if t524 = 0 then (if x8_2.length < 1172812402961 then (runnelref26_Decode.l0 k2 l0 t505 t523 (x8_2 ++ [(⟨t508, t509, (⟨t510, (⟨t513, t514⟩ : S36), t515⟩ : S38), t516, t519, t520⟩ : S40)]) (wrap64 (x9_2 + 1))) else (none)) else (some (([] : List (S40)), 6, x6_2))) = some (r1, r2, r3) := H
       have A8 := Aside0.mk A80
       clear A80
       by_cases c9 : t524 = 0
       ·
        rw [if_pos c9] at H
        have c9b0 : (t524 == 0) = true := beq_iff_eq.mpr c9
        have c9b1 : (t524 != 0) = false := bne_eq_false_iff_eq.mpr c9
        clear c9
        by_cases c10 : x8_2.length < 1172812402961
        ·
         rw [if_pos c10] at H
         have LMc10 := Aside0.mk c10
         clear c10
         obtain ⟨y526, hy526⟩ : ∃ y_ : List (S40), y_ = (x8_2 ++ [(⟨t508, t509, (⟨t510, (⟨t513, t514⟩ : S36), t515⟩ : S38), t516, t519, t520⟩ : S40)]) := ⟨_, rfl⟩
         replace H : (runnelref26_Decode.l0 k2 l0 t505 t523 y526 (wrap64 (x9_2 + 1))) = some (r1, r2, r3) := by first | (rw [hy526]; with_reducible exact H) | (have H2_ := (Option.bind_some _ _).symm.trans H; rw [hy526]; with_reducible exact H2_) | (have H2_ := (Option.bind_some _ _).symm.trans H; with_reducible exact H2_) | with_reducible exact H | (rw [hy526]; exact H) | exact H
         have Ny526 := Aside0.mk hy526
         clear hy526
         have H' := Aside0.mk H
         clear H
         go_wp2_with (first | ((with_reducible refine gate_callee (f := 15) rfl ?_); refine goesL_ (some 34) rfl rfl Try.func15 (by kernel_rfl) rfl #[.slice A0 l0.length c0, .int .i64 x6_2] rfl mpq ?_; (with_reducible refine (runnelref26_Get.calls k2 _ _ l0 x6_2 t508 t509 t510 t513 t514 t515 t516 t519 t520 t523 t524 _ ?side1 ?side2 A8.out).mono ?_); (case side1 => repeat (first | exact (Kd.C_below HR0.out HB.out) | (with_reducible refine Kd.C_alloc ?_ _) | (with_reducible refine Kd.C_drewN ?_ _) | (with_reducible refine Kd.C_drew ?_))); (case side2 => exact HC0.out); rintro e w11 ⟨v511, v517, v521, rfl, ho0, ho1, ho2, hb⟩; refine ⟨_, rfl, ?_⟩; have n0_ := Aside0.mk (Kd.N_mono (Kd.N_told (Kd.N_told (Kd.N_old (by (with_reducible repeat (first | apply Kd.N_alloc | apply Kd.N_drewN | apply Kd.N_drew)); exact HO_8.out) hb) (Kd.R_base ho0)) (Kd.R_base ho1)) (fun _ h_ => h_.1)); have n1_ := Aside0.mk (Kd.R_lower (Kd.R_newM (M := fun k_ => (w.heap.size ≤ k_)) (Kd.R_mono (ok' := fun k_ => True) ho0 (fun _ hk_ => trivial)) (below_size bl) (fun k_ h_ => h_)) (below_size bl)); have n2_ := Aside0.mk (Kd.R_lower (Kd.R_newM (M := fun k_ => (w.heap.size ≤ k_)) (Kd.R_mono (ok' := fun k_ => True) ho1 (fun _ hk_ => trivial)) (below_size bl) (fun k_ h_ => h_)) (below_size bl)); have n3_ := Aside0.mk (Kd.V_lower (Kd.V_mono (ok' := fun k_ => (w.heap.size ≤ k_) ∧ some k_ ≠ (v511 : Value).ownBlock ∧ some k_ ≠ (v517 : Value).ownBlock ∧ some k_ ≠ (u8 : Value).ownBlock) ho2 (fun k_ hk_ => ⟨(Nat.le_trans (below_size bl) hk_.1), hk_.2.1, hk_.2.2, (Kd.fresh' (Kd.N_lt (by (with_reducible repeat (first | apply Kd.N_alloc | apply Kd.N_drewN | apply Kd.N_drew)); exact HO_8.out)) k_ hk_.1)⟩)) (below_size bl)); have n4_ := Aside0.mk (below_step bl hb); clear HO_8; clear HB; have HO_8 := n0_; have HO512 := n1_; have HO518 := n2_; have HO522 := n3_; have HB := n4_; clear n0_ n1_ n2_ n3_ n4_; (try clear hb); (try clear hb2); (try clear hk); (try clear hi); (try clear ho0); (try clear ho1); (try clear ho2)) | ((with_reducible refine gate_dst (N := 10) rfl ?_); refine box_event ?hg (N := 10) ?hd (cs := #[.int .i64 0, .int .i64 0, .slice none 0 0, .int .i64 0, .int .i64 0, .int .i64 0, .slice none 0 0, .int .i64 0, .slice none 0 0]) (t := 40) ?hr ?_; (case hd => rfl); (case hg => rfl); (case hr => first | (go_simp; done) | (go_simp; rfl)); intro gb525 hg w12 hbox hb; have n0_ := Aside0.mk (Kd.N_below (Kd.N_elderB (by (with_reducible repeat (first | apply Kd.N_alloc | apply Kd.N_drewN | apply Kd.N_drew)); exact HO_8.out) gb525 (Nat.le_of_eq hg.symm)) hb); have n1_ := Aside0.mk (Kd.R_below (rp HO512.out) hb); have n2_ := Aside0.mk (Kd.R_below (rp HO518.out) hb); have n3_ := Aside0.mk (Kd.V_below (Kd.V_elderB (by (with_reducible repeat (first | apply Kd.V_alloc | apply Kd.V_drewN | apply Kd.V_drew)); exact HO522.out) gb525 (Nat.le_of_eq hg.symm)) hb); have n4_ := Aside0.mk (below_step bl hb); have n5_ := Aside0.mk (hbox); have n6_ := Aside0.mk ((by rw [hg]; exact (below_size bl) : w.heap.size ≤ gb525)); have n7_ := Aside0.mk ((by rw [hg]; exact (below_size bl) : w.heap.size ≤ gb525)); clear HO_8; clear HO512; clear HO518; clear HO522; clear HB; have HO_8 := n0_; have HO512 := n1_; have HO518 := n2_; have HO522 := n3_; have HB := n4_; have BK525 := n5_; have GW525 := n6_; have GE525 := n7_; clear n0_ n1_ n2_ n3_ n4_ n5_ n6_ n7_; clear hb hbox hg; obtain ⟨hcz13_0, hcz13_1, hcz13_2, hcz13_3, hcz13_4, hcz13_5, hcz13_6, hcz13_7, hcz13_8⟩ := cells9 BK525.out; obtain ⟨hfz13_0, hfz13_1, hfz13_2, hfz13_3, hfz13_4, hfz13_5, hfz13_6, hfz13_7, hfz13_8⟩ := frz9 BK525.out; obtain ⟨Ao14, co14, eo14⟩ := Kd.R_slice HO512.out; subst eo14; obtain ⟨Ao15, co15, eo15⟩ := Kd.R_slice HO518.out; subst eo15; obtain ⟨Ao16, co16, eo16⟩ := Kd.V_slice HO522.out; subst eo16) | ((with_reducible refine gate_store (t := 40) (p := 10) rfl ?_); refine store_event (t := 40) (p := 10) (v := ?vo_w17) (w1 := (((((((((w12.setCell ⟨gb525, 0, none⟩ (.int .i64 t508)).setCell ⟨gb525, 1, none⟩ (.int .i64 t509)).setCell ⟨gb525, 2, none⟩ (.slice Ao14 t510.length co14)).setCell ⟨gb525, 3, none⟩ (.int .i64 t513)).setCell ⟨gb525, 4, none⟩ (.int .i64 t514)).setCell ⟨gb525, 5, none⟩ (.int .i64 t515)).setCell ⟨gb525, 6, none⟩ (.slice Ao15 t516.length co15)).setCell ⟨gb525, 7, none⟩ (.int .i64 t519)).setCell ⟨gb525, 8, none⟩ (.slice Ao16 t520.length co16))) ?hg ?ho ?hn ?hr ?_; (case ho => rfl); (case hg => rfl); (case hn => rfl); (case hr => first | (go_simp; done) | (go_simp; rfl)); intro w17 hw; have n0_ : Aside0 (Kd.N k40 40 w17 w.heap.size (fun k_ => (w.heap.size ≤ k_) ∧ some k_ ≠ (.slice Ao14 t510.length co14 : Value).ownBlock ∧ some k_ ≠ (.slice Ao15 t516.length co15 : Value).ownBlock ∧ k_ ≠ gb525) u8 x8_2) := ⟨(by rw [hw]; exact (by (with_reducible repeat (first | apply Kd.N_alloc | apply Kd.N_drewN | apply Kd.N_drew)); exact Kd.N_mono (Kd.N_far (p := ⟨gb525, 8, none⟩) (Kd.N_far (p := ⟨gb525, 7, none⟩) (Kd.N_far (p := ⟨gb525, 6, none⟩) (Kd.N_far (p := ⟨gb525, 5, none⟩) (Kd.N_far (p := ⟨gb525, 4, none⟩) (Kd.N_far (p := ⟨gb525, 3, none⟩) (Kd.N_far (p := ⟨gb525, 2, none⟩) (Kd.N_far (p := ⟨gb525, 1, none⟩) (Kd.N_far (p := ⟨gb525, 0, none⟩) (Kd.N_mono HO_8.out (fun k_ hk => (⟨hk, hk.2⟩ : _ ∧ k_ ≠ gb525))) (fun _ hk => hk.2) (.int .i64 t508)) (fun _ hk => hk.2) (.int .i64 t509)) (fun _ hk => hk.2) (.slice Ao14 t510.length co14)) (fun _ hk => hk.2) (.int .i64 t513)) (fun _ hk => hk.2) (.int .i64 t514)) (fun _ hk => hk.2) (.int .i64 t515)) (fun _ hk => hk.2) (.slice Ao15 t516.length co15)) (fun _ hk => hk.2) (.int .i64 t519)) (fun _ hk => hk.2) (.slice Ao16 t520.length co16)) (fun _ hk => ⟨hk.1.1.1.1, ⟨hk.1.1.1.2, ⟨hk.1.1.2, hk.1.2⟩⟩⟩)))⟩; have n1_ : Aside0 (Kd.R k103 103 w17 w.heap.size (fun k_ => (w.heap.size ≤ k_)) (.slice Ao14 t510.length co14) t510) := ⟨(by rw [hw]; exact (rp (Kd.R_mono (Kd.R_far (p := ⟨gb525, 8, none⟩) (Kd.R_far (p := ⟨gb525, 7, none⟩) (Kd.R_far (p := ⟨gb525, 6, none⟩) (Kd.R_far (p := ⟨gb525, 5, none⟩) (Kd.R_far (p := ⟨gb525, 4, none⟩) (Kd.R_far (p := ⟨gb525, 3, none⟩) (Kd.R_far (p := ⟨gb525, 2, none⟩) (Kd.R_far (p := ⟨gb525, 1, none⟩) (Kd.R_far (p := ⟨gb525, 0, none⟩) (Kd.R_types HO512.out BK525.out (by decide)) (fun _ hk => hk.2) (.int .i64 t508)) (fun _ hk => hk.2) (.int .i64 t509)) (fun _ hk => hk.2) (.slice Ao14 t510.length co14)) (fun _ hk => hk.2) (.int .i64 t513)) (fun _ hk => hk.2) (.int .i64 t514)) (fun _ hk => hk.2) (.int .i64 t515)) (fun _ hk => hk.2) (.slice Ao15 t516.length co15)) (fun _ hk => hk.2) (.int .i64 t519)) (fun _ hk => hk.2) (.slice Ao16 t520.length co16)) (fun _ hk => hk.1.1))))⟩; have n2_ : Aside0 (Kd.R k36 36 w17 w.heap.size (fun k_ => (w.heap.size ≤ k_)) (.slice Ao15 t516.length co15) t516) := ⟨(by rw [hw]; exact (rp (Kd.R_mono (Kd.R_far (p := ⟨gb525, 8, none⟩) (Kd.R_far (p := ⟨gb525, 7, none⟩) (Kd.R_far (p := ⟨gb525, 6, none⟩) (Kd.R_far (p := ⟨gb525, 5, none⟩) (Kd.R_far (p := ⟨gb525, 4, none⟩) (Kd.R_far (p := ⟨gb525, 3, none⟩) (Kd.R_far (p := ⟨gb525, 2, none⟩) (Kd.R_far (p := ⟨gb525, 1, none⟩) (Kd.R_far (p := ⟨gb525, 0, none⟩) (Kd.R_types HO518.out BK525.out (by decide)) (fun _ hk => hk.2) (.int .i64 t508)) (fun _ hk => hk.2) (.int .i64 t509)) (fun _ hk => hk.2) (.slice Ao14 t510.length co14)) (fun _ hk => hk.2) (.int .i64 t513)) (fun _ hk => hk.2) (.int .i64 t514)) (fun _ hk => hk.2) (.int .i64 t515)) (fun _ hk => hk.2) (.slice Ao15 t516.length co15)) (fun _ hk => hk.2) (.int .i64 t519)) (fun _ hk => hk.2) (.slice Ao16 t520.length co16)) (fun _ hk => hk.1.1))))⟩; have n3_ : Aside0 (Kd.V (Kd.int .u8) 5 w17 w.heap.size (fun k_ => (w.heap.size ≤ k_) ∧ some k_ ≠ (u8 : Value).ownBlock ∧ some k_ ≠ (.slice Ao14 t510.length co14 : Value).ownBlock ∧ some k_ ≠ (.slice Ao15 t516.length co15 : Value).ownBlock ∧ k_ ≠ gb525) (.slice Ao16 t520.length co16) t520) := ⟨(by rw [hw]; exact (by (with_reducible repeat (first | apply Kd.V_alloc | apply Kd.V_drewN | apply Kd.V_drew)); exact Kd.V_mono (Kd.V_far (p := ⟨gb525, 8, none⟩) (Kd.V_far (p := ⟨gb525, 7, none⟩) (Kd.V_far (p := ⟨gb525, 6, none⟩) (Kd.V_far (p := ⟨gb525, 5, none⟩) (Kd.V_far (p := ⟨gb525, 4, none⟩) (Kd.V_far (p := ⟨gb525, 3, none⟩) (Kd.V_far (p := ⟨gb525, 2, none⟩) (Kd.V_far (p := ⟨gb525, 1, none⟩) (Kd.V_far (p := ⟨gb525, 0, none⟩) (Kd.V_mono HO522.out (fun k_ hk => (⟨hk, hk.2⟩ : _ ∧ k_ ≠ gb525))) (fun _ hk => hk.2) (.int .i64 t508)) (fun _ hk => hk.2) (.int .i64 t509)) (fun _ hk => hk.2) (.slice Ao14 t510.length co14)) (fun _ hk => hk.2) (.int .i64 t513)) (fun _ hk => hk.2) (.int .i64 t514)) (fun _ hk => hk.2) (.int .i64 t515)) (fun _ hk => hk.2) (.slice Ao15 t516.length co15)) (fun _ hk => hk.2) (.int .i64 t519)) (fun _ hk => hk.2) (.slice Ao16 t520.length co16)) (fun _ hk => ⟨hk.1.1.1, ⟨hk.1.1.2.2.2, ⟨hk.1.1.2.1, ⟨hk.1.1.2.2.1, hk.1.2⟩⟩⟩⟩)))⟩; have n4_ : Aside0 (w17.heap[gb525]? = some (.cells #[.int .i64 t508, .int .i64 t509, .slice Ao14 t510.length co14, .int .i64 t513, .int .i64 t514, .int .i64 t515, .slice Ao15 t516.length co15, .int .i64 t519, .slice Ao16 t520.length co16] 40 (0, 0))) := ⟨(by rw [hw]; exact bk)⟩; have n5_ : Aside0 (Below w.heap.size w w17) := ⟨(by rw [hw]; exact bl)⟩; clear hw; clear HO_8; clear HO512; clear HO518; clear HO522; clear BK525; clear HB; have HO_8 := n0_; have HO512 := n1_; have HO518 := n2_; have HO522 := n3_; have BK525 := n4_; have HB := n5_; clear n0_ n1_ n2_ n3_ n4_ n5_; obtain ⟨hcz18_0, hcz18_1, hcz18_2, hcz18_3, hcz18_4, hcz18_5, hcz18_6, hcz18_7, hcz18_8⟩ := cells9 BK525.out; have hfz18_0 := blk_frozen BK525.out 0; have hfz18_1 := blk_frozen BK525.out 1; have hfz18_2 := blk_frozen BK525.out 2; have hfz18_3 := blk_frozen BK525.out 3; have hfz18_4 := blk_frozen BK525.out 4; have hfz18_5 := blk_frozen BK525.out 5; have hfz18_6 := blk_frozen BK525.out 6; have hfz18_7 := blk_frozen BK525.out 7; have hfz18_8 := blk_frozen BK525.out 8) | ((with_reducible refine gate_builtin (b := .append) (xs := #[.tmp 41, .tmp 43]) rfl ?_); at_builtin; refine Kd.N_append k40 (w0 := w) w.heap.size rfl (.tmp 41) (.tmp 43) 48 40 (.agg #[(.int .i64 0), (.int .i64 0), (.slice none 0 0), (.int .i64 0), (.int .i64 0), (.int .i64 0), (.slice none 0 0), (.int .i64 0), (.slice none 0 0)]) 120 rfl Try.underlying48 info40 rfl (by decide) (by omega) u8 x8_2 (⟨t508, t509, (⟨t510, (⟨t513, t514⟩ : S36), t515⟩ : S38), t516, t519, t520⟩ : S40) [.int .i64 t508, .int .i64 t509, .slice Ao14 t510.length co14, .int .i64 t513, .int .i64 t514, .int .i64 t515, .slice Ao15 t516.length co15, .int .i64 t519, .slice Ao16 t520.length co16] (fun k_ => (w.heap.size ≤ k_) ∧ k_ ≠ gb525) (fun k_ => ((fun k_ => (w.heap.size ≤ k_) ∧ k_ ≠ gb525)) k_ ∧ some k_ ≠ (u8 : Value).ownBlock) rfl rfl ?aP (fun _ hk => hk) ?aF ?aO ?aB ?aS ?aL ?_; (case aP => exact (k40_mkF _ _ (⟨t508, t509, (⟨t510, (⟨t513, t514⟩ : S36), t515⟩ : S38), t516, t519, t520⟩ : S40) (Kd.R_reads' (Kd.R_mono (ok' := (fun k_ => ((fun k_ => (w.heap.size ≤ k_) ∧ k_ ≠ gb525)) k_ ∧ some k_ ≠ (u8 : Value).ownBlock)) (Kd.R_types (Kd.R_apart' (HO512.out) (Kd.N_typed HO_8.out) (by decide)) BK525.out (by decide)) (fun k_ hk => ⟨⟨hk.1.1, hk.2⟩, hk.1.2⟩))).2.1 (Kd.R_F (Kd.R_mono (ok' := (fun k_ => ((fun k_ => (w.heap.size ≤ k_) ∧ k_ ≠ gb525)) k_ ∧ some k_ ≠ (u8 : Value).ownBlock)) (Kd.R_types (Kd.R_apart' (HO512.out) (Kd.N_typed HO_8.out) (by decide)) BK525.out (by decide)) (fun k_ hk => ⟨⟨hk.1.1, hk.2⟩, hk.1.2⟩))) (Kd.R_reads' (Kd.R_mono (ok' := (fun k_ => ((fun k_ => (w.heap.size ≤ k_) ∧ k_ ≠ gb525)) k_ ∧ some k_ ≠ (u8 : Value).ownBlock)) (Kd.R_types (Kd.R_apart' (HO518.out) (Kd.N_typed HO_8.out) (by decide)) BK525.out (by decide)) (fun k_ hk => ⟨⟨hk.1.1, hk.2⟩, hk.1.2⟩))).2.1 (Kd.R_F (Kd.R_mono (ok' := (fun k_ => ((fun k_ => (w.heap.size ≤ k_) ∧ k_ ≠ gb525)) k_ ∧ some k_ ≠ (u8 : Value).ownBlock)) (Kd.R_types (Kd.R_apart' (HO518.out) (Kd.N_typed HO_8.out) (by decide)) BK525.out (by decide)) (fun k_ hk => ⟨⟨hk.1.1, hk.2⟩, hk.1.2⟩))) (Kd.V_reads' (Kd.V_mono (ok' := (fun k_ => ((fun k_ => (w.heap.size ≤ k_) ∧ k_ ≠ gb525)) k_ ∧ some k_ ≠ (u8 : Value).ownBlock)) (HO522.out) (fun k_ hk => ⟨⟨hk.1, hk.2.2.2.2⟩, hk.2.1⟩))).2.1 (Kd.V_F (Kd.V_mono (ok' := (fun k_ => ((fun k_ => (w.heap.size ≤ k_) ∧ k_ ≠ gb525)) k_ ∧ some k_ ≠ (u8 : Value).ownBlock)) (HO522.out) (fun k_ hk => ⟨⟨hk.1, hk.2.2.2.2⟩, hk.2.1⟩))))); (case aB => exact bl); (case aF => exact (fun k_ hk => ⟨(Nat.le_trans (below_size bl) hk), Kd.freshB (g := gb525) (o := .cells #[.int .i64 t508, .int .i64 t509, .slice Ao14 t510.length co14, .int .i64 t513, .int .i64 t514, .int .i64 t515, .slice Ao15 t516.length co15, .int .i64 t519, .slice Ao16 t520.length co16] 40 (0, 0)) bk k_ hk⟩)); (case aO => exact (by (with_reducible repeat (first | apply Kd.N_alloc | apply Kd.N_drewN | apply Kd.N_drew)); exact Kd.N_mono HO_8.out (fun _ hk => ⟨hk.1, hk.2.2.2⟩))); (case aS => exact (below_size bl)); (case aL => have := LMc10.out; omega); intro v527 w19 ho hb hg hat; rw [← Ny526.out] at ho; have n0_ := Aside0.mk (Kd.V_afterv (ok := (fun k_ => (w.heap.size ≤ k_) ∧ some k_ ≠ (.slice Ao14 t510.length co14 : Value).ownBlock ∧ some k_ ≠ (.slice Ao15 t516.length co15 : Value).ownBlock ∧ k_ ≠ gb525)) (by (with_reducible repeat (first | apply Kd.V_alloc | apply Kd.V_drewN | apply Kd.V_drew)); exact Kd.V_mono HO522.out (fun _ hk => ⟨⟨hk.1, ⟨hk.2.2.1, ⟨hk.2.2.2.1, hk.2.2.2.2⟩⟩⟩, hk.2.1⟩)) hg hat); have n1_ := Aside0.mk (blk_grown (g := gb525) (o := .cells #[.int .i64 t508, .int .i64 t509, .slice Ao14 t510.length co14, .int .i64 t513, .int .i64 t514, .int .i64 t515, .slice Ao15 t516.length co15, .int .i64 t519, .slice Ao16 t520.length co16] 40 (0, 0)) bk hg (Kd.N_away HO_8.out (fun _ hk => hk.2.2.2))); have n2_ := Aside0.mk (hb); have n3_ := Aside0.mk (ho); clear HO522; clear BK525; clear HB; clear HO_8; clear HO512; clear HO518; have HO522 := n0_; have BK525 := n1_; have HB := n2_; have HO528 := n3_; clear n0_ n1_ n2_ n3_; clear ho hb hg hat))
         go_roundg k2
         case measure => have := HJ2.out; have := HK2.out; omega
         case rel => exact ⟨(t523), (y526), (wrap64 (x9_2 + 1)), (by first | rfl | (simp; done) | (simp [*]; done)), (by first | rfl | (simp; done) | (simp [*]; done)), H', ⟨by have := HJ2.out; have := HK2.out; omega⟩, ⟨by (with_reducible repeat (first | apply Kd.N_alloc | apply Kd.N_drewN | apply Kd.N_drew)); exact Kd.N_mono HO528.out (fun _ hk => hk.1)⟩, ⟨bl⟩⟩
        ·
         rw [if_neg c10] at H
         exact absurd H (by simp)
       ·
        rw [if_neg c9] at H
        have c9b0 : (t524 == 0) = false := beq_eq_false_iff_ne.mpr c9
        have c9b1 : (t524 != 0) = true := bne_iff_ne.mpr c9
        simp only [Option.some.injEq, Prod.mk.injEq] at H
        obtain ⟨rfl, rfl, rfl⟩ := H
        go_wp2_with (first | ((with_reducible refine gate_callee (f := 15) rfl ?_); refine goesL_ (some 34) rfl rfl Try.func15 (by kernel_rfl) rfl #[.slice A0 l0.length c0, .int .i64 x6_2] rfl mpq ?_; (with_reducible refine (runnelref26_Get.calls k2 _ _ l0 x6_2 t508 t509 t510 t513 t514 t515 t516 t519 t520 t523 t524 _ ?side1 ?side2 A8.out).mono ?_); (case side1 => repeat (first | exact (Kd.C_below HR0.out HB.out) | (with_reducible refine Kd.C_alloc ?_ _) | (with_reducible refine Kd.C_drewN ?_ _) | (with_reducible refine Kd.C_drew ?_))); (case side2 => exact HC0.out); rintro e w20 ⟨v511, v517, v521, rfl, ho0, ho1, ho2, hb⟩; refine ⟨_, rfl, ?_⟩; have n0_ := Aside0.mk (Kd.N_mono (Kd.N_told (Kd.N_told (Kd.N_old (by (with_reducible repeat (first | apply Kd.N_alloc | apply Kd.N_drewN | apply Kd.N_drew)); exact HO_8.out) hb) (Kd.R_base ho0)) (Kd.R_base ho1)) (fun _ h_ => h_.1)); have n1_ := Aside0.mk (Kd.R_lower (Kd.R_newM (M := fun k_ => (w.heap.size ≤ k_)) (Kd.R_mono (ok' := fun k_ => True) ho0 (fun _ hk_ => trivial)) (below_size bl) (fun k_ h_ => h_)) (below_size bl)); have n2_ := Aside0.mk (Kd.R_lower (Kd.R_newM (M := fun k_ => (w.heap.size ≤ k_)) (Kd.R_mono (ok' := fun k_ => True) ho1 (fun _ hk_ => trivial)) (below_size bl) (fun k_ h_ => h_)) (below_size bl)); have n3_ := Aside0.mk (Kd.V_lower (Kd.V_mono (ok' := fun k_ => (w.heap.size ≤ k_) ∧ some k_ ≠ (v511 : Value).ownBlock ∧ some k_ ≠ (v517 : Value).ownBlock ∧ some k_ ≠ (u8 : Value).ownBlock) ho2 (fun k_ hk_ => ⟨(Nat.le_trans (below_size bl) hk_.1), hk_.2.1, hk_.2.2, (Kd.fresh' (Kd.N_lt (by (with_reducible repeat (first | apply Kd.N_alloc | apply Kd.N_drewN | apply Kd.N_drew)); exact HO_8.out)) k_ hk_.1)⟩)) (below_size bl)); have n4_ := Aside0.mk (below_step bl hb); clear HO_8; clear HB; have HO_8 := n0_; have HO512 := n1_; have HO518 := n2_; have HO522 := n3_; have HB := n4_; clear n0_ n1_ n2_ n3_ n4_; (try clear hb); (try clear hb2); (try clear hk); (try clear hi); (try clear ho0); (try clear ho1); (try clear ho2)) | ((with_reducible refine gate_dst (N := 10) rfl ?_); refine box_event ?hg (N := 10) ?hd (cs := #[.int .i64 0, .int .i64 0, .slice none 0 0, .int .i64 0, .int .i64 0, .int .i64 0, .slice none 0 0, .int .i64 0, .slice none 0 0]) (t := 40) ?hr ?_; (case hd => rfl); (case hg => rfl); (case hr => first | (go_simp; done) | (go_simp; rfl)); intro gb525 hg w21 hbox hb; have n0_ := Aside0.mk (Kd.N_below (Kd.N_elderB (by (with_reducible repeat (first | apply Kd.N_alloc | apply Kd.N_drewN | apply Kd.N_drew)); exact HO_8.out) gb525 (Nat.le_of_eq hg.symm)) hb); have n1_ := Aside0.mk (Kd.R_below (rp HO512.out) hb); have n2_ := Aside0.mk (Kd.R_below (rp HO518.out) hb); have n3_ := Aside0.mk (Kd.V_below (Kd.V_elderB (by (with_reducible repeat (first | apply Kd.V_alloc | apply Kd.V_drewN | apply Kd.V_drew)); exact HO522.out) gb525 (Nat.le_of_eq hg.symm)) hb); have n4_ := Aside0.mk (below_step bl hb); have n5_ := Aside0.mk (hbox); have n6_ := Aside0.mk ((by rw [hg]; exact (below_size bl) : w.heap.size ≤ gb525)); have n7_ := Aside0.mk ((by rw [hg]; exact (below_size bl) : w.heap.size ≤ gb525)); clear HO_8; clear HO512; clear HO518; clear HO522; clear HB; have HO_8 := n0_; have HO512 := n1_; have HO518 := n2_; have HO522 := n3_; have HB := n4_; have BK525 := n5_; have GW525 := n6_; have GE525 := n7_; clear n0_ n1_ n2_ n3_ n4_ n5_ n6_ n7_; clear hb hbox hg; obtain ⟨hcz22_0, hcz22_1, hcz22_2, hcz22_3, hcz22_4, hcz22_5, hcz22_6, hcz22_7, hcz22_8⟩ := cells9 BK525.out; obtain ⟨hfz22_0, hfz22_1, hfz22_2, hfz22_3, hfz22_4, hfz22_5, hfz22_6, hfz22_7, hfz22_8⟩ := frz9 BK525.out; obtain ⟨Ao23, co23, eo23⟩ := Kd.R_slice HO512.out; subst eo23; obtain ⟨Ao24, co24, eo24⟩ := Kd.R_slice HO518.out; subst eo24; obtain ⟨Ao25, co25, eo25⟩ := Kd.V_slice HO522.out; subst eo25))
        go_ret3
        exact ⟨_, erq, by first | exact Kd.S_nil _ _ _ _ _ | exact Kd.N_nil _ _ _ _ _ | exact Kd.V_nil _ _ _ _ _ | exact Kd.Q_nil _ _ _ _ _ | exact Kd.R_nil _ _ _ _ _, by repeat (first | (with_reducible first | exact HB.out | apply below_alloc | apply pw_below_drewN | apply below_drew1 | refine below_set ?_ GE525.out) | exact HB.out)⟩
      ·
       rw [if_neg c7] at H
       have c7b0 : decide (x9_2 < (wrap64 (t505))) = false := decide_eq_false c7
       clear c7
       by_cases c26 : x6_2 = (l0.length : Int)
       ·
        rw [if_pos c26] at H
        have c26b0 : (x6_2 == (l0.length : Int)) = true := beq_iff_eq.mpr c26
        have c26b1 : (x6_2 != (l0.length : Int)) = false := bne_eq_false_iff_eq.mpr c26
        clear c26
        simp only [Option.some.injEq, Prod.mk.injEq] at H
        obtain ⟨rfl, rfl, rfl⟩ := H
        go_wp2
        go_ret3
        exact ⟨_, erq, by (with_reducible repeat (first | apply Kd.N_alloc | apply Kd.N_drewN | apply Kd.N_drew)); exact HO_8.out, by repeat (first | (with_reducible first | exact HB.out | apply below_alloc | apply pw_below_drewN | apply below_drew1) | exact HB.out)⟩
       ·
        rw [if_neg c26] at H
        have c26b0 : (x6_2 == (l0.length : Int)) = false := beq_eq_false_iff_ne.mpr c26
        have c26b1 : (x6_2 != (l0.length : Int)) = true := bne_iff_ne.mpr c26
        simp only [Option.some.injEq, Prod.mk.injEq] at H
        obtain ⟨rfl, rfl, rfl⟩ := H
        go_wp2
        go_ret3
        exact ⟨_, erq, by first | exact Kd.S_nil _ _ _ _ _ | exact Kd.N_nil _ _ _ _ _ | exact Kd.V_nil _ _ _ _ _ | exact Kd.Q_nil _ _ _ _ _ | exact Kd.R_nil _ _ _ _ _, by repeat (first | (with_reducible first | exact HB.out | apply below_alloc | apply pw_below_drewN | apply below_drew1) | exact HB.out)⟩

/-! ### runnellaw26_WireDecodes: function 7 -/
def runnellaw26_WireDecodes.j0 : Nat → List Int → List (S40) → Int → Bool → Option (Bool)
 | 0, _, _, _, _ => none
 | k + 1, x0, x4, x8, x52 => if x52 = true then (some false) else (if x8 = 0 then ((wire_Encode.f k x4).bind fun bt548 => ((runnellaw26_code.f bt548.2).bind fun t552 => (if t552 = 0 then (if (strOfNums bt548.1).toList = (strOfNums x0).toList then ((runnellaw26_live.f k).bind fun t553 => (some t553)) else (some false)) else (some false)))) else ((runnellaw26_live.f k).bind fun t554 => (some t554)))
def runnellaw26_WireDecodes.f (k : Nat) (l0 : List Int) : Option (Bool) := if (l0.length : Int) > 3000 then ((runnellaw26_live.f k).bind fun t529 => (some t529)) else ((some (([] : List Int) : List Int)).bind fun y530 => (if y530.length + l0.length < 140737488355328 then ((some (y530 ++ l0 : List Int)).bind fun y533 => ((wire_Decode.f k y533).bind fun bt536 => ((runnelref26_Decode.f k l0).bind fun bt541 => ((runnelref26_Same.f k bt536.1 bt541.1 false).bind fun t546 => (if t546 = true then ((runnellaw26_code.f bt536.2.1).bind fun t547 => (if t547 = bt541.2.1 then (if bt536.2.2 = bt541.2.2 then (runnellaw26_WireDecodes.j0 k l0 bt536.1 bt541.2.1 ((strOfNums y533).toList != (strOfNums l0).toList)) else (runnellaw26_WireDecodes.j0 k l0 bt536.1 bt541.2.1 true)) else (runnellaw26_WireDecodes.j0 k l0 bt536.1 bt541.2.1 true))) else (runnellaw26_WireDecodes.j0 k l0 bt536.1 bt541.2.1 true)))))) else (none)))
set_option maxHeartbeats 8000000 in
set_option maxRecDepth 100000 in
theorem runnellaw26_WireDecodes.calls (k : Nat) (A0 : Option Addr) (c0 : Nat) (l0 : List Int) (r : Bool) (w : World) (hr0 : Kd.C (Kd.int .u8) w A0 l0.length l0) (hc0 : l0.length ≤ c0) (hrt : r = true) (h : runnellaw26_WireDecodes.f k l0 = some r) :
  Calls Try.prog 7 #[.slice A0 l0.length c0] w fun e w' => e = .returned (.bool r) ∧ Below w.heap.size w w' := by
 have HR0 := Aside0.mk hr0
 have HC0 := Aside0.mk hc0
 clear hr0 hc0
 have HB := Aside0.mk (Below.refl w.heap.size w)
 have H : (if (l0.length : Int) > 3000 then ((runnellaw26_live.f k).bind fun t529 => (some t529)) else ((some (([] : List Int) : List Int)).bind fun y530 => (if y530.length + l0.length < 140737488355328 then ((some (y530 ++ l0 : List Int)).bind fun y533 => ((wire_Decode.f k y533).bind fun bt536 => ((runnelref26_Decode.f k l0).bind fun bt541 => ((runnelref26_Same.f k bt536.1 bt541.1 false).bind fun t546 => (if t546 = true then ((runnellaw26_code.f bt536.2.1).bind fun t547 => (if t547 = bt541.2.1 then (if bt536.2.2 = bt541.2.2 then (runnellaw26_WireDecodes.j0 k l0 bt536.1 bt541.2.1 ((strOfNums y533).toList != (strOfNums l0).toList)) else (runnellaw26_WireDecodes.j0 k l0 bt536.1 bt541.2.1 true)) else (runnellaw26_WireDecodes.j0 k l0 bt536.1 bt541.2.1 true))) else (runnellaw26_WireDecodes.j0 k l0 bt536.1 bt541.2.1 true)))))) else (none)))) = some r := h
 clear h
 by_cases c2 : (l0.length : Int) > 3000
 ·
  rw [if_pos c2] at H
  have c2b0 : decide (3000 < (l0.length : Int)) = true := decide_eq_true c2
  have c2b1 : decide (3000 < l0.length) = true := decide_eq_true (by omega)
  clear c2
  replace H := Option.bind_eq_some_iff.mp H
  obtain ⟨t529, A30, H⟩ := H
  replace H : (some t529) = some r := H
  have A3 := Aside0.mk A30
  clear A30
  obtain rfl := Option.some.inj H
  go_enter Try.func7, Try.ntmps7
  go_wp2_with (first | ((with_reducible refine gate_callee (f := 8) rfl ?_); refine goesL_ (some 15) rfl rfl Try.func8 (by kernel_rfl) rfl #[] rfl mpq ?_; (with_reducible refine (runnellaw26_live.calls k  t529 _ A3.out).mono ?_); rintro e w4 ⟨rfl, hb⟩; refine ⟨_, rfl, ?_⟩; have n0_ := Aside0.mk (below_step bl hb); clear HB; have HB := n0_; clear n0_; (try clear hb); (try clear hb2); (try clear hk); (try clear hi)))
  go_ret
  exact ⟨erq, by repeat (first | (with_reducible first | exact HB.out | apply below_alloc | apply pw_below_drewN | apply below_drew1) | exact HB.out)⟩
 ·
  rw [if_neg c2] at H
  have c2b0 : decide (3000 < (l0.length : Int)) = false := decide_eq_false c2
  have c2b1 : decide (3000 < l0.length) = false := decide_eq_false (by omega)
  clear c2
  obtain ⟨y530, hy530⟩ : ∃ y_ : List Int, y_ = (([] : List Int)) := ⟨_, rfl⟩
  replace H : (if y530.length + l0.length < 140737488355328 then ((some (y530 ++ l0 : List Int)).bind fun y533 => ((wire_Decode.f k y533).bind fun bt536 => ((runnelref26_Decode.f k l0).bind fun bt541 => ((runnelref26_Same.f k bt536.1 bt541.1 false).bind fun t546 => (if t546 = true then ((runnellaw26_code.f bt536.2.1).bind fun t547 => (if t547 = bt541.2.1 then (if bt536.2.2 = bt541.2.2 then (runnellaw26_WireDecodes.j0 k l0 bt536.1 bt541.2.1 ((strOfNums y533).toList != (strOfNums l0).toList)) else (runnellaw26_WireDecodes.j0 k l0 bt536.1 bt541.2.1 true)) else (runnellaw26_WireDecodes.j0 k l0 bt536.1 bt541.2.1 true))) else (runnellaw26_WireDecodes.j0 k l0 bt536.1 bt541.2.1 true)))))) else (none)) = some r := by first | (rw [hy530]; with_reducible exact H) | (have H2_ := (Option.bind_some _ _).symm.trans H; rw [hy530]; with_reducible exact H2_) | (have H2_ := (Option.bind_some _ _).symm.trans H; with_reducible exact H2_) | with_reducible exact H | (rw [hy530]; exact H) | exact H
  have Ny530 := Aside0.mk hy530
  clear hy530
  by_cases c5 : y530.length + l0.length < 140737488355328
  ·
   rw [if_pos c5] at H
   have LMc5 := Aside0.mk c5
   clear c5
   obtain ⟨y533, hy533⟩ : ∃ y_ : List Int, y_ = (y530 ++ l0) := ⟨_, rfl⟩
   replace H : ((wire_Decode.f k y533).bind fun bt536 => ((runnelref26_Decode.f k l0).bind fun bt541 => ((runnelref26_Same.f k bt536.1 bt541.1 false).bind fun t546 => (if t546 = true then ((runnellaw26_code.f bt536.2.1).bind fun t547 => (if t547 = bt541.2.1 then (if bt536.2.2 = bt541.2.2 then (runnellaw26_WireDecodes.j0 k l0 bt536.1 bt541.2.1 ((strOfNums y533).toList != (strOfNums l0).toList)) else (runnellaw26_WireDecodes.j0 k l0 bt536.1 bt541.2.1 true)) else (runnellaw26_WireDecodes.j0 k l0 bt536.1 bt541.2.1 true))) else (runnellaw26_WireDecodes.j0 k l0 bt536.1 bt541.2.1 true))))) = some r := by first | (rw [hy533]; with_reducible exact H) | (have H2_ := (Option.bind_some _ _).symm.trans H; rw [hy533]; with_reducible exact H2_) | (have H2_ := (Option.bind_some _ _).symm.trans H; with_reducible exact H2_) | with_reducible exact H | (rw [hy533]; exact H) | exact H
   have Ny533 := Aside0.mk hy533
   clear hy533
   replace H := Option.bind_eq_some_iff.mp H
   obtain ⟨⟨t536, t539, t540⟩, A60, H⟩ := H
   replace H : ((runnelref26_Decode.f k l0).bind fun bt541 => ((runnelref26_Same.f k t536 bt541.1 false).bind fun t546 => (if t546 = true then ((runnellaw26_code.f t539).bind fun t547 => (if t547 = bt541.2.1 then (if t540 = bt541.2.2 then (runnellaw26_WireDecodes.j0 k l0 t536 bt541.2.1 ((strOfNums y533).toList != (strOfNums l0).toList)) else (runnellaw26_WireDecodes.j0 k l0 t536 bt541.2.1 true)) else (runnellaw26_WireDecodes.j0 k l0 t536 bt541.2.1 true))) else (runnellaw26_WireDecodes.j0 k l0 t536 bt541.2.1 true)))) = some r := H
   have A6 := Aside0.mk A60
   clear A60
   replace H := Option.bind_eq_some_iff.mp H
   obtain ⟨⟨t541, t544, t545⟩, A70, H⟩ := H
   replace H : ((runnelref26_Same.f k t536 t541 false).bind fun t546 => (if t546 = true then ((runnellaw26_code.f t539).bind fun t547 => (if t547 = t544 then (if t540 = t545 then (runnellaw26_WireDecodes.j0 k l0 t536 t544 ((strOfNums y533).toList != (strOfNums l0).toList)) else (runnellaw26_WireDecodes.j0 k l0 t536 t544 true)) else (runnellaw26_WireDecodes.j0 k l0 t536 t544 true))) else (runnellaw26_WireDecodes.j0 k l0 t536 t544 true))) = some r := H
   have A7 := Aside0.mk A70
   clear A70
   have HC8 := Aside0.mk H
   clear H
   go_enter Try.func7, Try.ntmps7
   go_upto_region 6 with (first | ((with_reducible refine gate_dst (N := 16) rfl ?_); refine Kd.R_lit (Kd.int .u8) _ 5 ?hg (N := 16) ?hd (xs := ([] : List Int)) (inner := []) (ok := fun _ => True) (okp := fun _ => True) ?hr ?hp (fun _ hk => hk) trivial (Below.refl _ _) (Nat.le_refl _) (by simp) ?_; (case hd => rfl); (case hg => rfl); (case hr => first | (go_simp; done) | (go_simp; rfl)); (case hp => exact (Reps.none _ _)); intro v531 w9 ho10 hb hg_ hnew_; clear hg_ hnew_; (first | rw [← Ny530.out] at ho10 | (simp only [Int.reduceToNat] at ho10; rw [← Ny530.out] at ho10)); have n0_ := Aside0.mk (Kd.R_lower ho10 (below_size bl)); have n1_ := Aside0.mk (below_step bl hb); clear HB; have HO532 := n0_; have HB := n1_; clear n0_ n1_; clear hb ho10) | ((with_reducible refine gate_builtin (b := .append) (xs := #[.tmp 16, .tmp 17]) rfl ?_); at_builtin; refine Kd.R_append_rows (Kd.int .u8) (w0 := w) w.heap.size rfl (.tmp 16) (.tmp 17) 22 5 (.int .u8 0) 1 rfl Try.underlying22 info5 rfl (by decide) (by omega) v531 y530 l0 _ _ _ (fun _ => True) (fun _ => False) rfl rfl ?aO ?aR (fun _ _ h => h) (fun _ h => h.elim) ?aF ?aB ?aS ?aL ?_; (case aR => repeat (first | exact (Kd.C_below HR0.out HB.out) | (with_reducible refine Kd.C_alloc ?_ _) | (with_reducible refine Kd.C_drewN ?_ _) | (with_reducible refine Kd.C_drew ?_))); (case aB => exact bl); (case aF => exact (fun _ _ => trivial)); (case aO => exact (rp HO532.out)); (case aS => exact (below_size bl)); (case aL => have := LMc5.out; omega); intro v534 w11 ho hb hg hat; rw [← Ny533.out] at ho; have n0_ := Aside0.mk (hb); have n1_ := Aside0.mk (ho); clear HB; clear HO532; have HB := n0_; have HO535 := n1_; clear n0_ n1_; clear ho hb hg hat; obtain ⟨Ao12, co12, eo12⟩ := Kd.R_slice HO535.out; subst eo12) | ((with_reducible refine gate_callee (f := 27) rfl ?_); refine goesL_ (some 21) rfl rfl Try.func27 (by kernel_rfl) rfl #[.slice Ao12 y533.length co12] rfl mpq ?_; (with_reducible refine (wire_Decode.calls k _ _ y533 t536 t539 t540 _ ?side1 ?side2 A6.out).mono ?_); (case side1 => repeat (first | exact (Kd.R_reads' HO535.out).2.2 | (with_reducible refine Kd.C_alloc ?_ _) | (with_reducible refine Kd.C_drewN ?_ _) | (with_reducible refine Kd.C_drew ?_))); (case side2 => exact (Kd.R_reads' HO535.out).2.1); rintro e w13 ⟨v537, rfl, ho0, hb⟩; refine ⟨_, rfl, ?_⟩; have n0_ := Aside0.mk (Kd.R_below (rp HO535.out) hb); have n1_ := Aside0.mk (Kd.N_lower (Kd.N_mono (ok' := fun k_ => some k_ ≠ (.slice Ao12 y533.length co12 : Value).ownBlock) ho0 (fun k_ hk_ => (Kd.fresh' (Kd.R_lt (rp HO535.out)) k_ hk_))) (below_size bl)); have n2_ := Aside0.mk (below_step bl hb); clear HO535; clear HB; have HO535 := n0_; have HO538 := n1_; have HB := n2_; clear n0_ n1_ n2_; (try clear hb); (try clear hb2); (try clear hk); (try clear hi); (try clear ho0)) | ((with_reducible refine gate_callee (f := 28) rfl ?_); refine goesL_ (some 27) rfl rfl Try.func28 (by kernel_rfl) rfl #[.slice A0 l0.length c0] rfl mpq ?_; (with_reducible refine (runnelref26_Decode.calls k _ _ l0 t541 t544 t545 _ ?side1 ?side2 A7.out).mono ?_); (case side1 => repeat (first | exact (Kd.C_below HR0.out HB.out) | (with_reducible refine Kd.C_alloc ?_ _) | (with_reducible refine Kd.C_drewN ?_ _) | (with_reducible refine Kd.C_drew ?_))); (case side2 => exact HC0.out); rintro e w14 ⟨v542, rfl, ho0, hb⟩; refine ⟨_, rfl, ?_⟩; have n0_ := Aside0.mk (Kd.R_below (rp HO535.out) hb); have n1_ := Aside0.mk (Kd.N_elder' (by (with_reducible repeat (first | apply Kd.N_alloc | apply Kd.N_drewN | apply Kd.N_drew)); exact HO538.out) (Kd.N_base ho0) hb); have n2_ := Aside0.mk (Kd.N_lower (Kd.N_mono (ok' := fun k_ => some k_ ≠ (.slice Ao12 y533.length co12 : Value).ownBlock ∧ some k_ ≠ (v537 : Value).ownBlock) ho0 (fun k_ hk_ => ⟨(Kd.fresh' (Kd.R_lt (rp HO535.out)) k_ hk_), (Kd.fresh' (Kd.N_lt (by (with_reducible repeat (first | apply Kd.N_alloc | apply Kd.N_drewN | apply Kd.N_drew)); exact HO538.out)) k_ hk_)⟩)) (below_size bl)); have n3_ := Aside0.mk (below_step bl hb); clear HO535; clear HO538; clear HB; have HO535 := n0_; have HO538 := n1_; have HO543 := n2_; have HB := n3_; clear n0_ n1_ n2_ n3_; (try clear hb); (try clear hb2); (try clear hk); (try clear hi); (try clear ho0)))
   (try simp only [Act.put, List.setIfInBounds_toArray, List.set_cons_zero, List.set_cons_succ])
   go_cut [52] (fun v52 wc => ∃ (kq : Nat) (x52_7 : Bool), v52 = .bool x52_7 ∧ Aside0 (runnellaw26_WireDecodes.j0 kq l0 t536 t544 x52_7 = some r) ∧ Aside0 (kq ≤ k) ∧ Aside0 (Kd.N k40 40 wc w.heap.size (fun _ => True) v537 t536) ∧ Aside0 (Below w.heap.size w wc))
   case first =>
    have H := HC8.out
    clear HC8
    replace H := Option.bind_eq_some_iff.mp H
    obtain ⟨t546, A150, H⟩ := H
    replace H : (if t546 = true then ((runnellaw26_code.f t539).bind fun t547 => (if t547 = t544 then (if t540 = t545 then (runnellaw26_WireDecodes.j0 k l0 t536 t544 ((strOfNums y533).toList != (strOfNums l0).toList)) else (runnellaw26_WireDecodes.j0 k l0 t536 t544 true)) else (runnellaw26_WireDecodes.j0 k l0 t536 t544 true))) else (runnellaw26_WireDecodes.j0 k l0 t536 t544 true)) = some r := H
    have A15 := Aside0.mk A150
    clear A150
    by_cases c16 : t546 = true
    ·
     subst c16
     have H1 : ((runnellaw26_code.f t539).bind fun t547 => (if t547 = t544 then (if t540 = t545 then (runnellaw26_WireDecodes.j0 k l0 t536 t544 ((strOfNums y533).toList != (strOfNums l0).toList)) else (runnellaw26_WireDecodes.j0 k l0 t536 t544 true)) else (runnellaw26_WireDecodes.j0 k l0 t536 t544 true))) = some r := by rw [if_pos rfl] at H; exact H
     clear H
     have H := H1
     clear H1
     replace H := Option.bind_eq_some_iff.mp H
     obtain ⟨t547, A170, H⟩ := H
     replace H : (if t547 = t544 then (if t540 = t545 then (runnellaw26_WireDecodes.j0 k l0 t536 t544 ((strOfNums y533).toList != (strOfNums l0).toList)) else (runnellaw26_WireDecodes.j0 k l0 t536 t544 true)) else (runnellaw26_WireDecodes.j0 k l0 t536 t544 true)) = some r := H
     have A17 := Aside0.mk A170
     clear A170
     by_cases c18 : t547 = t544
     ·
      rw [if_pos c18] at H
      have c18b0 : (t547 == t544) = true := beq_iff_eq.mpr c18
      have c18b1 : (t547 != t544) = false := bne_eq_false_iff_eq.mpr c18
      clear c18
      (first | rw [c18b0] | (simp only [i64_w, i32_w]; rw [c18b0]) | skip)
      by_cases c19 : t540 = t545
      ·
       rw [if_pos c19] at H
       have c19b0 : (t540 == t545) = true := beq_iff_eq.mpr c19
       have c19b1 : (t540 != t545) = false := bne_eq_false_iff_eq.mpr c19
       clear c19
       have H' := Aside0.mk H
       clear H
       obtain ⟨Ao20, co20, eo20⟩ := Kd.N_slice HO538.out
       subst eo20
       obtain ⟨Ao21, co21, eo21⟩ := Kd.N_slice HO543.out
       subst eo21
       go_wp2_with (first | ((with_reducible refine gate_callee (f := 17) rfl ?_); refine goesL_ (some 33) rfl rfl Try.func17 (by kernel_rfl) rfl #[.slice Ao20 t536.length co20, .slice Ao21 t541.length co21, .bool false] rfl mpq ?_; (with_reducible refine (runnelref26_Same.calls k _ _ t536 _ _ t541 false true _ ?side1 ?side2 ?side3 ?side4 A15.out).mono ?_); (case side1 => repeat (first | exact (Kd.N_reads' HO538.out).2.2 | (with_reducible refine Kd.C_alloc ?_ _) | (with_reducible refine Kd.C_drewN ?_ _) | (with_reducible refine Kd.C_drew ?_))); (case side2 => exact (Kd.N_reads' HO538.out).2.1); (case side3 => repeat (first | exact (Kd.N_reads' HO543.out).2.2 | (with_reducible refine Kd.C_alloc ?_ _) | (with_reducible refine Kd.C_drewN ?_ _) | (with_reducible refine Kd.C_drew ?_))); (case side4 => exact (Kd.N_reads' HO543.out).2.1); rintro e w22 ⟨rfl, hb⟩; refine ⟨_, rfl, ?_⟩; have n0_ := Aside0.mk (Kd.R_below (rp HO535.out) hb); have n1_ := Aside0.mk (Kd.N_below (by (with_reducible repeat (first | apply Kd.N_alloc | apply Kd.N_drewN | apply Kd.N_drew)); exact HO538.out) hb); have n2_ := Aside0.mk (Kd.N_below (by (with_reducible repeat (first | apply Kd.N_alloc | apply Kd.N_drewN | apply Kd.N_drew)); exact HO543.out) hb); have n3_ := Aside0.mk (below_step bl hb); clear HO535; clear HO538; clear HO543; clear HB; have HO535 := n0_; have HO538 := n1_; have HO543 := n2_; have HB := n3_; clear n0_ n1_ n2_ n3_; (try clear hb); (try clear hb2); (try clear hk); (try clear hi)) | (go_at_call 12; (with_reducible refine (runnellaw26_code.calls t539 t547 _ A17.out).mono ?_); rintro e w' ⟨rfl, ⟨nd, rfl⟩⟩; have hcv23 := own_string (P := Try.prog) Try.underlying22 Try.underlying5 Try.underlying9 (Kd.own_of_R HO535.out); have hcv23d := fun n_ : Nat => own_string (P := Try.prog) Try.underlying22 Try.underlying5 Try.underlying9 (Kd.own_of_R (Kd.R_drewN HO535.out n_)); have hcv24 := Kd.C_string (P := Try.prog) (A := A0) (c := c0) Try.underlying22 Try.underlying5 Try.underlying9 (Kd.C_below HR0.out HB.out); have hcv24d := fun n_ : Nat => Kd.C_string (P := Try.prog) (A := A0) (c := c0) Try.underlying22 Try.underlying5 Try.underlying9 (Kd.C_drewN ((Kd.C_below HR0.out HB.out)) n_)))
       go_meet
       case rel => exact ⟨_, (((strOfNums y533).toList != (strOfNums l0).toList)), (by first | rfl | (simp; done) | (simp [*]; done)), H', ⟨by first | omega | exact Nat.le_refl _⟩, ⟨by (with_reducible repeat (first | apply Kd.N_alloc | apply Kd.N_drewN | apply Kd.N_drew)); exact Kd.N_mono HO538.out (fun _ hk => trivial)⟩, ⟨bl⟩⟩
      ·
       rw [if_neg c19] at H
       have c19b0 : (t540 == t545) = false := beq_eq_false_iff_ne.mpr c19
       have c19b1 : (t540 != t545) = true := bne_iff_ne.mpr c19
       have H' := Aside0.mk H
       clear H
       obtain ⟨Ao25, co25, eo25⟩ := Kd.N_slice HO538.out
       subst eo25
       obtain ⟨Ao26, co26, eo26⟩ := Kd.N_slice HO543.out
       subst eo26
       go_wp2_with (first | ((with_reducible refine gate_callee (f := 17) rfl ?_); refine goesL_ (some 33) rfl rfl Try.func17 (by kernel_rfl) rfl #[.slice Ao25 t536.length co25, .slice Ao26 t541.length co26, .bool false] rfl mpq ?_; (with_reducible refine (runnelref26_Same.calls k _ _ t536 _ _ t541 false true _ ?side1 ?side2 ?side3 ?side4 A15.out).mono ?_); (case side1 => repeat (first | exact (Kd.N_reads' HO538.out).2.2 | (with_reducible refine Kd.C_alloc ?_ _) | (with_reducible refine Kd.C_drewN ?_ _) | (with_reducible refine Kd.C_drew ?_))); (case side2 => exact (Kd.N_reads' HO538.out).2.1); (case side3 => repeat (first | exact (Kd.N_reads' HO543.out).2.2 | (with_reducible refine Kd.C_alloc ?_ _) | (with_reducible refine Kd.C_drewN ?_ _) | (with_reducible refine Kd.C_drew ?_))); (case side4 => exact (Kd.N_reads' HO543.out).2.1); rintro e w27 ⟨rfl, hb⟩; refine ⟨_, rfl, ?_⟩; have n0_ := Aside0.mk (Kd.R_below (rp HO535.out) hb); have n1_ := Aside0.mk (Kd.N_below (by (with_reducible repeat (first | apply Kd.N_alloc | apply Kd.N_drewN | apply Kd.N_drew)); exact HO538.out) hb); have n2_ := Aside0.mk (Kd.N_below (by (with_reducible repeat (first | apply Kd.N_alloc | apply Kd.N_drewN | apply Kd.N_drew)); exact HO543.out) hb); have n3_ := Aside0.mk (below_step bl hb); clear HO535; clear HO538; clear HO543; clear HB; have HO535 := n0_; have HO538 := n1_; have HO543 := n2_; have HB := n3_; clear n0_ n1_ n2_ n3_; (try clear hb); (try clear hb2); (try clear hk); (try clear hi)) | (go_at_call 12; (with_reducible refine (runnellaw26_code.calls t539 t547 _ A17.out).mono ?_); rintro e w' ⟨rfl, ⟨nd, rfl⟩⟩))
       go_meet
       case rel => exact ⟨_, (true), (by first | rfl | (simp; done) | (simp [*]; done)), H', ⟨by first | omega | exact Nat.le_refl _⟩, ⟨by (with_reducible repeat (first | apply Kd.N_alloc | apply Kd.N_drewN | apply Kd.N_drew)); exact Kd.N_mono HO538.out (fun _ hk => trivial)⟩, ⟨bl⟩⟩
     ·
      rw [if_neg c18] at H
      have c18b0 : (t547 == t544) = false := beq_eq_false_iff_ne.mpr c18
      have c18b1 : (t547 != t544) = true := bne_iff_ne.mpr c18
      (first | rw [c18b0] | (simp only [i64_w, i32_w]; rw [c18b0]) | skip)
      have H' := Aside0.mk H
      clear H
      obtain ⟨Ao28, co28, eo28⟩ := Kd.N_slice HO538.out
      subst eo28
      obtain ⟨Ao29, co29, eo29⟩ := Kd.N_slice HO543.out
      subst eo29
      go_wp2_with (first | ((with_reducible refine gate_callee (f := 17) rfl ?_); refine goesL_ (some 33) rfl rfl Try.func17 (by kernel_rfl) rfl #[.slice Ao28 t536.length co28, .slice Ao29 t541.length co29, .bool false] rfl mpq ?_; (with_reducible refine (runnelref26_Same.calls k _ _ t536 _ _ t541 false true _ ?side1 ?side2 ?side3 ?side4 A15.out).mono ?_); (case side1 => repeat (first | exact (Kd.N_reads' HO538.out).2.2 | (with_reducible refine Kd.C_alloc ?_ _) | (with_reducible refine Kd.C_drewN ?_ _) | (with_reducible refine Kd.C_drew ?_))); (case side2 => exact (Kd.N_reads' HO538.out).2.1); (case side3 => repeat (first | exact (Kd.N_reads' HO543.out).2.2 | (with_reducible refine Kd.C_alloc ?_ _) | (with_reducible refine Kd.C_drewN ?_ _) | (with_reducible refine Kd.C_drew ?_))); (case side4 => exact (Kd.N_reads' HO543.out).2.1); rintro e w30 ⟨rfl, hb⟩; refine ⟨_, rfl, ?_⟩; have n0_ := Aside0.mk (Kd.R_below (rp HO535.out) hb); have n1_ := Aside0.mk (Kd.N_below (by (with_reducible repeat (first | apply Kd.N_alloc | apply Kd.N_drewN | apply Kd.N_drew)); exact HO538.out) hb); have n2_ := Aside0.mk (Kd.N_below (by (with_reducible repeat (first | apply Kd.N_alloc | apply Kd.N_drewN | apply Kd.N_drew)); exact HO543.out) hb); have n3_ := Aside0.mk (below_step bl hb); clear HO535; clear HO538; clear HO543; clear HB; have HO535 := n0_; have HO538 := n1_; have HO543 := n2_; have HB := n3_; clear n0_ n1_ n2_ n3_; (try clear hb); (try clear hb2); (try clear hk); (try clear hi)) | (go_at_call 12; (with_reducible refine (runnellaw26_code.calls t539 t547 _ A17.out).mono ?_); rintro e w' ⟨rfl, ⟨nd, rfl⟩⟩))
      go_meet
      case rel => exact ⟨_, (true), (by first | rfl | (simp; done) | (simp [*]; done)), H', ⟨by first | omega | exact Nat.le_refl _⟩, ⟨by (with_reducible repeat (first | apply Kd.N_alloc | apply Kd.N_drewN | apply Kd.N_drew)); exact Kd.N_mono HO538.out (fun _ hk => trivial)⟩, ⟨bl⟩⟩
    ·
     replace c16 := Bool.eq_false_iff.mpr c16
     subst c16
     have H1 : (runnellaw26_WireDecodes.j0 k l0 t536 t544 true) = some r := by rw [if_neg (show ¬ (false = true) by decide)] at H; exact H
     clear H
     have H := H1
     clear H1
     have H' := Aside0.mk H
     clear H
     obtain ⟨Ao31, co31, eo31⟩ := Kd.N_slice HO538.out
     subst eo31
     obtain ⟨Ao32, co32, eo32⟩ := Kd.N_slice HO543.out
     subst eo32
     go_wp2_with (first | ((with_reducible refine gate_callee (f := 17) rfl ?_); refine goesL_ (some 33) rfl rfl Try.func17 (by kernel_rfl) rfl #[.slice Ao31 t536.length co31, .slice Ao32 t541.length co32, .bool false] rfl mpq ?_; (with_reducible refine (runnelref26_Same.calls k _ _ t536 _ _ t541 false false _ ?side1 ?side2 ?side3 ?side4 A15.out).mono ?_); (case side1 => repeat (first | exact (Kd.N_reads' HO538.out).2.2 | (with_reducible refine Kd.C_alloc ?_ _) | (with_reducible refine Kd.C_drewN ?_ _) | (with_reducible refine Kd.C_drew ?_))); (case side2 => exact (Kd.N_reads' HO538.out).2.1); (case side3 => repeat (first | exact (Kd.N_reads' HO543.out).2.2 | (with_reducible refine Kd.C_alloc ?_ _) | (with_reducible refine Kd.C_drewN ?_ _) | (with_reducible refine Kd.C_drew ?_))); (case side4 => exact (Kd.N_reads' HO543.out).2.1); rintro e w33 ⟨rfl, hb⟩; refine ⟨_, rfl, ?_⟩; have n0_ := Aside0.mk (Kd.R_below (rp HO535.out) hb); have n1_ := Aside0.mk (Kd.N_below (by (with_reducible repeat (first | apply Kd.N_alloc | apply Kd.N_drewN | apply Kd.N_drew)); exact HO538.out) hb); have n2_ := Aside0.mk (Kd.N_below (by (with_reducible repeat (first | apply Kd.N_alloc | apply Kd.N_drewN | apply Kd.N_drew)); exact HO543.out) hb); have n3_ := Aside0.mk (below_step bl hb); clear HO535; clear HO538; clear HO543; clear HB; have HO535 := n0_; have HO538 := n1_; have HO543 := n2_; have HB := n3_; clear n0_ n1_ n2_ n3_; (try clear hb); (try clear hb2); (try clear hk); (try clear hi)))
     go_meet
     case rel => exact ⟨_, (true), (by first | rfl | (simp; done) | (simp [*]; done)), H', ⟨by first | omega | exact Nat.le_refl _⟩, ⟨by (with_reducible repeat (first | apply Kd.N_alloc | apply Kd.N_drewN | apply Kd.N_drew)); exact Kd.N_mono HO538.out (fun _ hk => trivial)⟩, ⟨bl⟩⟩
   case rest =>
    clear HC8
    (try clear c2); (try clear c2b0); (try clear c2b1); (try clear c5)
    obtain ⟨kq, x52_7, rfl, HA, HJ7, HO_4, HB⟩ := hcut
    cases kq with
    | zero => exact absurd HA.out (by simp [runnellaw26_WireDecodes.j0])
    | succ kj7 =>
     have H := HA.out
     clear HA
     simp only [runnellaw26_WireDecodes.j0] at H
     by_cases c34 : x52_7 = true
     ·
      subst c34
      have H1 : (some false) = some r := by rw [if_pos rfl] at H; exact H
      clear H
      have H := H1
      clear H1
      exact absurd ((Option.some.inj H).trans hrt) Bool.false_ne_true
     ·
      replace c34 := Bool.eq_false_iff.mpr c34
      subst c34
      have H1 : (if t544 = 0 then ((wire_Encode.f kj7 t536).bind fun bt548 => ((runnellaw26_code.f bt548.2).bind fun t552 => (if t552 = 0 then (if (strOfNums bt548.1).toList = (strOfNums l0).toList then ((runnellaw26_live.f kj7).bind fun t553 => (some t553)) else (some false)) else (some false)))) else ((runnellaw26_live.f kj7).bind fun t554 => (some t554))) = some r := by rw [if_neg (show ¬ (false = true) by decide)] at H; exact H
      clear H
      have H := H1
      clear H1
      by_cases c35 : t544 = 0
      ·
       rw [if_pos c35] at H
       have c35b0 : (t544 == 0) = true := beq_iff_eq.mpr c35
       have c35b1 : (t544 != 0) = false := bne_eq_false_iff_eq.mpr c35
       clear c35
       replace H := Option.bind_eq_some_iff.mp H
       obtain ⟨⟨t548, t549⟩, A360, H⟩ := H
       replace H : ((runnellaw26_code.f t549).bind fun t552 => (if t552 = 0 then (if (strOfNums t548).toList = (strOfNums l0).toList then ((runnellaw26_live.f kj7).bind fun t553 => (some t553)) else (some false)) else (some false))) = some r := H
       have A36 := Aside0.mk A360
       clear A360
       replace H := Option.bind_eq_some_iff.mp H
       obtain ⟨t552, A370, H⟩ := H
       replace H : (if t552 = 0 then (if (strOfNums t548).toList = (strOfNums l0).toList then ((runnellaw26_live.f kj7).bind fun t553 => (some t553)) else (some false)) else (some false)) = some r := H
       have A37 := Aside0.mk A370
       clear A370
       by_cases c38 : t552 = 0
       ·
        rw [if_pos c38] at H
        have c38b0 : (t552 == 0) = true := beq_iff_eq.mpr c38
        have c38b1 : (t552 != 0) = false := bne_eq_false_iff_eq.mpr c38
        clear c38
        by_cases c39 : (strOfNums t548).toList = (strOfNums l0).toList
        ·
         rw [if_pos c39] at H
         have c39b0 : ((strOfNums t548).toList == (strOfNums l0).toList) = true := beq_iff_eq.mpr c39
         have c39b1 : ((strOfNums t548).toList != (strOfNums l0).toList) = false := bne_eq_false_iff_eq.mpr c39
         clear c39
         replace H := Option.bind_eq_some_iff.mp H
         obtain ⟨t553, A400, H⟩ := H
         replace H : (some t553) = some r := H
         have A40 := Aside0.mk A400
         clear A400
         obtain rfl := Option.some.inj H
         obtain ⟨Ao41, co41, eo41⟩ := Kd.N_slice HO_4.out
         subst eo41
         go_wp2_with (first | ((with_reducible refine gate_callee (f := 25) rfl ?_); refine goesL_ (some 58) rfl rfl Try.func25 (by kernel_rfl) rfl #[.slice Ao41 t536.length co41] rfl mpq ?_; (with_reducible refine (wire_Encode.calls kj7 _ _ t536 t548 t549 _ ?side1 ?side2 A36.out).mono ?_); (case side1 => repeat (first | exact (Kd.N_reads' HO_4.out).2.2 | (with_reducible refine Kd.C_alloc ?_ _) | (with_reducible refine Kd.C_drewN ?_ _) | (with_reducible refine Kd.C_drew ?_))); (case side2 => exact (Kd.N_reads' HO_4.out).2.1); rintro e w42 ⟨v550, rfl, ho0, hb⟩; refine ⟨_, rfl, ?_⟩; have n0_ := Aside0.mk (Kd.N_elder' (by (with_reducible repeat (first | apply Kd.N_alloc | apply Kd.N_drewN | apply Kd.N_drew)); exact HO_4.out) (Kd.R_base ho0) hb); have n1_ := Aside0.mk (Kd.R_lower ho0 (below_size bl)); have n2_ := Aside0.mk (below_step bl hb); clear HO_4; clear HB; have HO_4 := n0_; have HO551 := n1_; have HB := n2_; clear n0_ n1_ n2_; (try clear hb); (try clear hb2); (try clear hk); (try clear hi); (try clear ho0)) | ((with_reducible refine gate_callee (f := 12) rfl ?_); refine goesL_ (some 62) rfl rfl Try.func12 (by kernel_rfl) rfl #[.int .i64 t549] rfl mpq ?_; (with_reducible refine (runnellaw26_code.calls t549 t552 _ A37.out).mono ?_); rintro e w' ⟨rfl, ⟨nd, rfl⟩⟩; refine ⟨_, rfl, ?_⟩; have hcv43 := own_string (P := Try.prog) Try.underlying22 Try.underlying5 Try.underlying9 (Kd.own_of_R HO551.out); have hcv43d := fun n_ : Nat => own_string (P := Try.prog) Try.underlying22 Try.underlying5 Try.underlying9 (Kd.own_of_R (Kd.R_drewN HO551.out n_)); have hcv44 := Kd.C_string (P := Try.prog) (A := A0) (c := c0) Try.underlying22 Try.underlying5 Try.underlying9 (Kd.C_below HR0.out HB.out); have hcv44d := fun n_ : Nat => Kd.C_string (P := Try.prog) (A := A0) (c := c0) Try.underlying22 Try.underlying5 Try.underlying9 (Kd.C_drewN ((Kd.C_below HR0.out HB.out)) n_)) | (go_at_call 8; (with_reducible refine (runnellaw26_live.calls kj7  t553 _ A40.out).mono ?_); rintro e w45 ⟨rfl, hb⟩; have n0_ := Aside0.mk (Kd.N_below (by (with_reducible repeat (first | apply Kd.N_alloc | apply Kd.N_drewN | apply Kd.N_drew)); exact HO_4.out) hb); have n1_ := Aside0.mk (Kd.R_below (rp HO551.out) hb); have n2_ := Aside0.mk (below_step bl hb); clear HO_4; clear HO551; clear HB; have HO_4 := n0_; have HO551 := n1_; have HB := n2_; clear n0_ n1_ n2_; (try clear hb); (try clear hb2); (try clear hk); (try clear hi)))
         go_ret
         exact ⟨erq, by repeat (first | (with_reducible first | exact HB.out | apply below_alloc | apply pw_below_drewN | apply below_drew1) | exact HB.out)⟩
        ·
         rw [if_neg c39] at H
         have c39b0 : ((strOfNums t548).toList == (strOfNums l0).toList) = false := beq_eq_false_iff_ne.mpr c39
         have c39b1 : ((strOfNums t548).toList != (strOfNums l0).toList) = true := bne_iff_ne.mpr c39
         exact absurd ((Option.some.inj H).trans hrt) Bool.false_ne_true
       ·
        rw [if_neg c38] at H
        have c38b0 : (t552 == 0) = false := beq_eq_false_iff_ne.mpr c38
        have c38b1 : (t552 != 0) = true := bne_iff_ne.mpr c38
        exact absurd ((Option.some.inj H).trans hrt) Bool.false_ne_true
      ·
       rw [if_neg c35] at H
       have c35b0 : (t544 == 0) = false := beq_eq_false_iff_ne.mpr c35
       have c35b1 : (t544 != 0) = true := bne_iff_ne.mpr c35
       replace H := Option.bind_eq_some_iff.mp H
       obtain ⟨t554, A520, H⟩ := H
       replace H : (some t554) = some r := H
       have A52 := Aside0.mk A520
       clear A520
       obtain rfl := Option.some.inj H
       go_wp2_with (first | ((with_reducible refine gate_callee (f := 8) rfl ?_); refine goesL_ (some 55) rfl rfl Try.func8 (by kernel_rfl) rfl #[] rfl mpq ?_; (with_reducible refine (runnellaw26_live.calls kj7  t554 _ A52.out).mono ?_); rintro e w53 ⟨rfl, hb⟩; refine ⟨_, rfl, ?_⟩; have n0_ := Aside0.mk (Kd.N_below (by (with_reducible repeat (first | apply Kd.N_alloc | apply Kd.N_drewN | apply Kd.N_drew)); exact HO_4.out) hb); have n1_ := Aside0.mk (below_step bl hb); clear HO_4; clear HB; have HO_4 := n0_; have HB := n1_; clear n0_ n1_; (try clear hb); (try clear hb2); (try clear hk); (try clear hi)))
       go_ret
       exact ⟨erq, by repeat (first | (with_reducible first | exact HB.out | apply below_alloc | apply pw_below_drewN | apply below_drew1) | exact HB.out)⟩
  ·
   rw [if_neg c5] at H
   exact absurd H (by simp)

/-- THE ONE PURE STATEMENT of runnellaw26_WireDecodes: yours. -/
def runnellaw26_WireDecodes.Pure : Prop := ∀ (l0 : List Int), l0.length ≤ maxLen → l0.length * 1 ≤ 140737488351232 → (∀ x ∈ l0, (Lit.int .u8 x).wf = true) → ∃ k, runnellaw26_WireDecodes.f k l0 = some true
theorem runnellaw26_WireDecodes.walk (P : runnellaw26_WireDecodes.Pure) (a0 : Option Addr) (len0 cap0 : Nat) (z0 : List Int) (w : World) (w0 : (a0 = none ∧ len0 = 0 ∧ cap0 = 0 ∧ z0 = []) ∨ ∃ x, a0 = some x ∧ len0 ≤ cap0 ∧ cap0 ≤ maxLen ∧ z0.length = cap0 ∧ (∀ i, i < z0.length → w.cell? (x.add i) = some (.int .u8 (z0.getD i 0))) ∧ ∀ n ∈ z0, (Lit.int .u8 n).wf = true) (y0 : len0 * 1 ≤ 140737488351232) :
  Calls Try.prog 7 #[.slice a0 len0 cap0] w fun e w' => e = .returned (.bool true) ∧ Below w.heap.size w w' := by
 obtain ⟨l0, rfl, hr0, hm0, hw0, hc0⟩ := ReadsInt.ofRowC w0
 obtain ⟨k, h⟩ := P l0 hm0 y0 hw0
 refine (runnellaw26_WireDecodes.calls k _ _ l0 true w (Kd.C_of_reads (d := (0 : Int)) (h1 := fun _ => rfl) hr0) hc0 rfl h).mono ?_
 rintro e w' ⟨rfl, hd⟩
 exact ⟨rfl, hd⟩

end Go.Proofs.Ytpplklickfioiaa.PWireDecodes
