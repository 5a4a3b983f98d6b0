import Derived.Test.YtbdpnecnnokkkaaOSheetDecodesx0
import Derived.Test.YtbdpnecnnokkkaaOSheetDecodesx1
import Derived.Test.YtbdpnecnnokkkaaOSheetDecodesx5
import Derived.Test.YtbdpnecnnokkkaaShort
import Derived.Test.YtbdpnecnnokkkaaOSheetDecodesx6p
namespace Go.Proofs.Ytbdpnecnnokkkaa.PSheetDecodes
open Go.RowKit Go.Proofs.YtbdpnecnnokkkaaW.PrintWords Go.Proofs.YtbdpnecnnokkkaaW.PrintLast Go.Proofs.YtbdpnecnnokkkaaW.PrintMore
attribute [local go_sem] max2_int min2_int max_two min_two max_three min_three max_four min_four   -- for this text's walks alone
set_option linter.unusedVariables false
set_option linter.unusedSimpArgs false
attribute [local go_sem high] eqA52
set_option maxHeartbeats 8000000 in
set_option maxRecDepth 100000 in
theorem runnelref17_Same.calls.leaf1 : runnelref17_Same.calls.pre.2.1 := by
 intro l0_0 l1_0 l0_1 l1_1 ad248 ad249 A0_1 A1_1 A248_1 A248_2 A248_3 A248_4 A249_1 A249_2 A249_3 A249_4 r a0_2 a1_2 x5_2 _ _ _ _ _ _ _ _ c0_0 HC0_0 c0_1 HC0_1 c1_0 HC1_0 c1_1 HC1_1 gb245 gb246 NB245_246 NB246_245 _ _ _ HJ2 _ HK2 HC22 c248_1 HC248_1 c248_2 HC248_2 c248_3 HC248_3 c248_4 HC248_4 c249_1 HC249_1 c249_2 HC249_2 c249_3 HC249_3 c249_4 HC249_4 gb250 NB245_250 NB250_245 NB246_250 NB250_246 _ _ _ _ _ _ _ _ _ _ _ _ _ _ _ _ _ _ _ _ _ _ _ _ _ _ _ _ _ _ _ _ _ _ _ _ gb251 NB251_250 NB250_251 NB245_251 NB251_245 NB246_251 NB251_246 _ _ _ _ _ _ _ _ _ _ _ _ _ _ _ _ _ _ _ _ _ _ _ _ _ _ _ _ _ _ _ _ _ _ _ _ _ _ _ _ _ _ _ _ _ _ _ _ _ _ _ _ _ _ _ _ _ _ _ _ _ _ _ _ _ _ _ _ _ _ _ _ w HR0_1 HR1_1 GW245 GE245 GW246 GE246 _ _ _ _ _ _ _ _ _ HR0_0 HR248_1 HR248_2 HR248_3 HR248_4 _ _ _ _ _ _ _ _ _ HR1_0 HR249_1 HR249_2 HR249_3 HR249_4 GW250 GE250 GW251 GE251 _ _ _ _ _ _ _ _ _ wr _ _ _ _ _ _ _ _ _ _ _ _ _ _ _ _ _ _ _ _ _ _ _ _ _ _ _ _ _ _ _ _ _ _ _ _ _ _ _ _ _ _ _ _ _ _ _ _ _ _ _ _ _ _ _ _ _ _ _ _ _ _ _ _ _ _ _ _ hHeld BK250 BK245 BK246 BK251 HB _ _ _ _ _ _ _ _ _ _ _ _ _ _ _ _ _ _ _ _ _ _ _ _ _ _ _ _ _ _ _ _ _ _ _ _ _ _ _ _ _ _ _ _ _ _ _ _ _ _ _ _ _ _ _ _ _ _ _ _ _ _ _ _ _ _ _ _ _ _ _ _ _ _ _ _ _ _ _ _ _ _ _ _ _ _ _ _ _ _ _ _ _ _ _ _ _ _ _ _ _ _ _ _ _ _ _ _ _ _ _ _ _ _ _ _ _ _ _ _ _ _ _ _ _ _ _ _ _ _ _ _ _ _ _ _ _ _ _ _ _ _ _ _ _ _ _ _ _ _ _ _ _ _ _ _ _ _ _ _ _ _ _ _ _ _ _ _ _ _ _ _ _ _ _ _ _ _ _ _ _ _ _ _ _ _ _ _ _ _ _ _ _ _ _ _ _ _ _ _ _ _ _ _ _ _ _ _ _ _ _ _ _ _ _ _ _ _ _ _ _ _ _ _ _ _ _ _ _ _ _ _ _ _ _ _ _ _ _ _ _ _ _ _ _ _ _ _ _ _ _ _ _ _ _ _ _ _ _ _ _ _ _ _ _ _ _ _ _ _ _ _ _ _ _ _ _ _ _ _ _ _ _ _ _ _ _ _ _ _ _ _ _ _ _ _ _ _ _ _ _ _ _ _ _ _ _ _ _ _ _ _ _ _ _ _ _ _ _ _ _ _ _ _ _ _ _ _ _ _ _ _ _ _ _ _ _ _ _ _ _ _ _ _ _ _ _ _ _ _ _ _ _ _ _ _ _ _ _ _ _ _ _ _ _ _ _ _ _ _ _ _ _ _ _ _ _ _ _ _ _ _ _ hcut _ _ _ _ _ _ _ _ _ _ _ _ _ _ _ _ _ _ _ _ _ _ _ _ _ _ _ _ _ _ _ _ _ _ _ _ _ _ _ _ _ _ _ _ _ _ _ _ _ _
 clear HC22
 obtain ⟨kq, x114_21, rfl, HA, HJ21, BK245, BK246, BK250, BK251, HB⟩ := hcut
 cases kq with
 | zero => exact absurd HA.out (by simp [runnelref17_Same.j2])
 | succ kj21 =>
  have H := HA.out
  clear HA
  simp only [runnelref17_Same.j2] at H
  by_cases c121 : x114_21 = true
  ·
   subst c121
   have H1 : (some false) = some r := by rw [if_pos rfl] at H; exact H
   clear H
   have H := H1
   clear H1
   obtain rfl := Option.some.inj H
   go_wp2
   go_ret
   exact ⟨erq, by repeat (first | (with_reducible first | exact HB.out | apply below_alloc | apply pw_below_drewN | apply below_drew1 | refine below_set ?_ GE245.out | refine below_set ?_ GE246.out | refine below_set ?_ GE250.out | refine below_set ?_ GE251.out) | exact HB.out)⟩
  ·
   replace c121 := Bool.eq_false_iff.mpr c121
   subst c121
   have H1 : (runnelref17_Same.l1 kj21 x5_2 0 l0_0 l0_1 a0_2 l1_0 l1_1 a1_2 ((rd_T44 l0_0 x5_2).f0) ((rd_T44 l0_0 x5_2).f1) ((rd_T44 l0_0 x5_2).f2) ((rd_T44 l0_0 x5_2).f3) ((rd_T44 l0_0 x5_2).f4) ((rd_T44 l0_0 x5_2).f5) ((rd_T44 l0_0 x5_2).f6) ((rd_T44 l0_0 x5_2).f7) ((rd_T44 l0_0 x5_2).f8) ((rd_T44 l1_0 x5_2).f0) ((rd_T44 l1_0 x5_2).f1) ((rd_T44 l1_0 x5_2).f2) ((rd_T44 l1_0 x5_2).f3) ((rd_T44 l1_0 x5_2).f4) ((rd_T44 l1_0 x5_2).f5) ((rd_T44 l1_0 x5_2).f6) ((rd_T44 l1_0 x5_2).f7) ((rd_T44 l1_0 x5_2).f8)) = some r := by rw [if_neg (show ¬ (false = true) by decide)] at H; exact H
   clear H
   have H := H1
   clear H1
   have H' := Aside0.mk H
   clear H
   go_wp2
   go_loopg [8] kj21 (fun kq v8 w' => ∃ (x8_4 : Int), v8 = .int .i64 x8_4 ∧ Aside0 (runnelref17_Same.l1 kq x5_2 x8_4 l0_0 l0_1 a0_2 l1_0 l1_1 a1_2 ((rd_T44 l0_0 x5_2).f0) ((rd_T44 l0_0 x5_2).f1) ((rd_T44 l0_0 x5_2).f2) ((rd_T44 l0_0 x5_2).f3) ((rd_T44 l0_0 x5_2).f4) ((rd_T44 l0_0 x5_2).f5) ((rd_T44 l0_0 x5_2).f6) ((rd_T44 l0_0 x5_2).f7) ((rd_T44 l0_0 x5_2).f8) ((rd_T44 l1_0 x5_2).f0) ((rd_T44 l1_0 x5_2).f1) ((rd_T44 l1_0 x5_2).f2) ((rd_T44 l1_0 x5_2).f3) ((rd_T44 l1_0 x5_2).f4) ((rd_T44 l1_0 x5_2).f5) ((rd_T44 l1_0 x5_2).f6) ((rd_T44 l1_0 x5_2).f7) ((rd_T44 l1_0 x5_2).f8) = some r) ∧ Aside0 (kq ≤ kj21) ∧ Aside0 (w'.heap[gb245]? = some (.cells #[(.slice (some ad248) l0_0.length c0_0), (.slice A0_1 l0_1.length c0_1), .int .i64 a0_2] 25 (0, 0))) ∧ Aside0 (w'.heap[gb246]? = some (.cells #[(.slice (some ad249) l1_0.length c1_0), (.slice A1_1 l1_1.length c1_1), .int .i64 a1_2] 25 (0, 0))) ∧ Aside0 (w'.heap[gb250]? = some (.cells #[.int .i64 ((rd_T44 l0_0 x5_2).f0), (.slice A248_1 ((rd_T44 l0_0 x5_2).f1).length c248_1), (.slice A248_2 ((rd_T44 l0_0 x5_2).f2).length c248_2), (.slice A248_3 ((rd_T44 l0_0 x5_2).f3).length c248_3), (.slice A248_4 ((rd_T44 l0_0 x5_2).f4).length c248_4), .int .i64 ((rd_T44 l0_0 x5_2).f5), .int .i64 ((rd_T44 l0_0 x5_2).f6), .int .i64 ((rd_T44 l0_0 x5_2).f7), .int .i64 ((rd_T44 l0_0 x5_2).f8)] 44 (0, 0))) ∧ Aside0 (w'.heap[gb251]? = some (.cells #[.int .i64 ((rd_T44 l1_0 x5_2).f0), (.slice A249_1 ((rd_T44 l1_0 x5_2).f1).length c249_1), (.slice A249_2 ((rd_T44 l1_0 x5_2).f2).length c249_2), (.slice A249_3 ((rd_T44 l1_0 x5_2).f3).length c249_3), (.slice A249_4 ((rd_T44 l1_0 x5_2).f4).length c249_4), .int .i64 ((rd_T44 l1_0 x5_2).f5), .int .i64 ((rd_T44 l1_0 x5_2).f6), .int .i64 ((rd_T44 l1_0 x5_2).f7), .int .i64 ((rd_T44 l1_0 x5_2).f8)] 44 (0, 0))) ∧ Aside0 (Below w.heap.size w w'))
   case atStart => exact ⟨(0), (by first | rfl | (simp; done) | (simp [*]; done)), H', ⟨Nat.le_refl _⟩, ⟨by (with_reducible repeat (first | refine blk_drewN ?_ _ | refine blk_drew ?_ | refine blk_alloc ?_ _)); exact BK245.out⟩, ⟨by (with_reducible repeat (first | refine blk_drewN ?_ _ | refine blk_drew ?_ | refine blk_alloc ?_ _)); exact BK246.out⟩, ⟨by (with_reducible repeat (first | refine blk_drewN ?_ _ | refine blk_drew ?_ | refine blk_alloc ?_ _)); exact BK250.out⟩, ⟨by (with_reducible repeat (first | refine blk_drewN ?_ _ | refine blk_drew ?_ | refine blk_alloc ?_ _)); exact BK251.out⟩, ⟨bl⟩⟩
   case round =>
    clear H'
    try clear c121
    obtain ⟨x8_4, rfl, HA, HK4, BK245, BK246, BK250, BK251, HB⟩ := hrel
    cases gk with
    | zero => exact absurd HA.out (by simp [runnelref17_Same.l1])
    | succ k4 =>
     have H := HA.out
     clear HA
     simp only [runnelref17_Same.l1] at H
     by_cases c122 : x8_4 < (((rd_T44 l0_0 x5_2).f3).length : Int)
     ·
      rw [if_pos c122] at H
      have c122b0 : decide (x8_4 < (((rd_T44 l0_0 x5_2).f3).length : Int)) = true := decide_eq_true c122
      clear c122
      by_cases c123 : 0 ≤ x8_4
      ·
       rw [if_pos c123] at H
       have c123b0 : decide (0 ≤ x8_4) = true := decide_eq_true c123
       clear c123
       by_cases c124 : x8_4 < (((rd_T44 l1_0 x5_2).f3).length : Int)
       ·
        rw [if_pos c124] at H
        have c124b0 : decide (x8_4 < (((rd_T44 l1_0 x5_2).f3).length : Int)) = true := decide_eq_true c124
        clear c124
        have HQ_ := Aside0.mk H
        clear H
        have hnb126 := NB250_245.out
        have hnc126 := NB245_250.out
        have hnb127 := NB250_246.out
        have hnc127 := NB246_250.out
        have hnb128 := NB250_251.out
        have hnc128 := NB251_250.out
        obtain ⟨hcz129_0, hcz129_1, hcz129_2, hcz129_3, hcz129_4, hcz129_5, hcz129_6, hcz129_7, hcz129_8⟩ := cells9 BK250.out
        obtain ⟨hfz129_0, hfz129_1, hfz129_2, hfz129_3, hfz129_4, hfz129_5, hfz129_6, hfz129_7, hfz129_8⟩ := frz9 BK250.out
        try go_wp2
        have n0_ := Aside0.mk (blk_drew BK245.out)
        have n1_ := Aside0.mk (blk_drew BK246.out)
        have n2_ := Aside0.mk (blk_drew BK250.out)
        have n3_ := Aside0.mk (blk_drew BK251.out)
        have n4_ := Aside0.mk (below_drew1 HB.out)
        clear BK245
        clear BK246
        clear BK250
        clear BK251
        clear HB
        have BK245 := n0_
        have BK246 := n1_
        have BK250 := n2_
        have BK251 := n3_
        have HB := n4_
        clear n0_ n1_ n2_ n3_ n4_
        have p255 : 0 ≤ (x8_4 : Int) := of_decide_eq_true (by first | (with_reducible assumption) | assumption)
        have q255 : x8_4 < (((rd_T44 l0_0 x5_2).f3).length : Int) := of_decide_eq_true (by first | (with_reducible assumption) | assumption)
        obtain ⟨ad255, A255_0, c255_0, e255, hx255_0, hl255_0, hi255_0⟩ := at_L3 HR248_3.out x8_4 p255 q255
        have hw255_0 := hx255_0
        cases e255
        replace hx255_0 := bc HB.out hx255_0
        have HR255_0 := Aside0.mk hi255_0
        have HC255_0 := Aside0.mk hl255_0
        clear hi255_0 hl255_0
        replace p255 := eq_true p255
        replace q255 := eq_true q255
        have p256 : 0 ≤ (x8_4 : Int) := of_decide_eq_true (by first | (with_reducible assumption) | assumption)
        have q256 : x8_4 < (((rd_T44 l1_0 x5_2).f3).length : Int) := of_decide_eq_true (by first | (with_reducible assumption) | assumption)
        obtain ⟨ad256, A256_0, c256_0, e256, hx256_0, hl256_0, hi256_0⟩ := at_L3 HR249_3.out x8_4 p256 q256
        have hw256_0 := hx256_0
        cases e256
        replace hx256_0 := bc HB.out hx256_0
        have HR256_0 := Aside0.mk hi256_0
        have HC256_0 := Aside0.mk hl256_0
        clear hi256_0 hl256_0
        replace p256 := eq_true p256
        replace q256 := eq_true q256
        refine start_ (n := 13) (S := fun w' => w'.cell? ⟨gb250, 0, none⟩ = some (.int .i64 ((rd_T44 l0_0 x5_2).f0)) ∧ w'.cell? ⟨gb250, 1, none⟩ = some (.slice A248_1 ((rd_T44 l0_0 x5_2).f1).length c248_1) ∧ w'.cell? ⟨gb250, 2, none⟩ = some (.slice A248_2 ((rd_T44 l0_0 x5_2).f2).length c248_2) ∧ w'.cell? ⟨gb250, 3, none⟩ = some (.slice (some ad255) ((rd_T44 l0_0 x5_2).f3).length c248_3) ∧ w'.cell? ⟨gb250, 4, none⟩ = some (.slice A248_4 ((rd_T44 l0_0 x5_2).f4).length c248_4) ∧ w'.cell? ⟨gb250, 5, none⟩ = some (.int .i64 ((rd_T44 l0_0 x5_2).f5)) ∧ w'.cell? ⟨gb250, 6, none⟩ = some (.int .i64 ((rd_T44 l0_0 x5_2).f6)) ∧ w'.cell? ⟨gb250, 7, none⟩ = some (.int .i64 ((rd_T44 l0_0 x5_2).f7)) ∧ w'.cell? ⟨gb250, 8, none⟩ = some (.int .i64 ((rd_T44 l0_0 x5_2).f8)) ∧ w'.cell? ⟨gb251, 0, none⟩ = some (.int .i64 ((rd_T44 l1_0 x5_2).f0)) ∧ w'.cell? ⟨gb251, 1, none⟩ = some (.slice A249_1 ((rd_T44 l1_0 x5_2).f1).length c249_1) ∧ w'.cell? ⟨gb251, 2, none⟩ = some (.slice A249_2 ((rd_T44 l1_0 x5_2).f2).length c249_2) ∧ w'.cell? ⟨gb251, 3, none⟩ = some (.slice (some ad256) ((rd_T44 l1_0 x5_2).f3).length c249_3) ∧ w'.cell? ⟨gb251, 4, none⟩ = some (.slice A249_4 ((rd_T44 l1_0 x5_2).f4).length c249_4) ∧ w'.cell? ⟨gb251, 5, none⟩ = some (.int .i64 ((rd_T44 l1_0 x5_2).f5)) ∧ w'.cell? ⟨gb251, 6, none⟩ = some (.int .i64 ((rd_T44 l1_0 x5_2).f6)) ∧ w'.cell? ⟨gb251, 7, none⟩ = some (.int .i64 ((rd_T44 l1_0 x5_2).f7)) ∧ w'.cell? ⟨gb251, 8, none⟩ = some (.int .i64 ((rd_T44 l1_0 x5_2).f8)) ∧ w'.cell? (ad255.add (x8_4).toNat) = some (.slice A255_0 (rd_L3 ((rd_T44 l0_0 x5_2).f3) x8_4).length c255_0) ∧ w'.cell? (ad256.add (x8_4).toNat) = some (.slice A256_0 (rd_L3 ((rd_T44 l1_0 x5_2).f3) x8_4).length c256_0)) (ds := []) #[false, false, false, false, false, false, false, false, false, false, false, false, false] (by kernel_rfl) rfl rfl ⟨(blk_cell BK250.out 0).trans rfl, (blk_cell BK250.out 1).trans rfl, (blk_cell BK250.out 2).trans rfl, (blk_cell BK250.out 3).trans rfl, (blk_cell BK250.out 4).trans rfl, (blk_cell BK250.out 5).trans rfl, (blk_cell BK250.out 6).trans rfl, (blk_cell BK250.out 7).trans rfl, (blk_cell BK250.out 8).trans rfl, (blk_cell BK251.out 0).trans rfl, (blk_cell BK251.out 1).trans rfl, (blk_cell BK251.out 2).trans rfl, (blk_cell BK251.out 3).trans rfl, (blk_cell BK251.out 4).trans rfl, (blk_cell BK251.out 5).trans rfl, (blk_cell BK251.out 6).trans rfl, (blk_cell BK251.out 7).trans rfl, (blk_cell BK251.out 8).trans rfl, (bc HB.out hw255_0), (bc HB.out hw256_0)⟩ (fun hHeld => ?_); refine with_tabW runnelref17_Same.tab12 runnelref17_Same.bits12 (fun HT_ HW_ => ?_)
        generalize wr.drew = w130 at BK245 BK246 BK250 BK251 HB HR255_0 HR256_0 hx255_0 hx256_0 hHeld ⊢
        refine pure_ (i := 0) (N := some 122) (v := ?_) (a' := ?_) #[true, false, false, false, false, false, false, false, false, false, false, false, false] rfl rfl (any_of HT_.out (by kernel_rfl)) (fun _ _ _ h => h) (Or.inl ⟨by rfl, ?_⟩) ?_ ?_
        rotate_left
        ·
         intro w'
         go_simp
         with_reducible rfl
        rotate_left
        ·
         simp only [Act.put, List.setIfInBounds_toArray, List.set_cons_zero, List.set_cons_succ, i64_w, i32_w]
         rfl
        refine pure_ (i := 2) (N := some 124) (v := ?_) (a' := ?_) #[true, false, true, false, false, false, false, false, false, false, false, false, false] rfl rfl (any_of HT_.out (by kernel_rfl)) (fun _ _ _ h => h) (Or.inl ⟨by rfl, ?_⟩) ?_ ?_
        rotate_left
        ·
         intro w'
         go_simp
         with_reducible rfl
        rotate_left
        ·
         simp only [Act.put, List.setIfInBounds_toArray, List.set_cons_zero, List.set_cons_succ, i64_w, i32_w]
         rfl
        refine pure_ (i := 6) (N := some 128) (v := ?_) (a' := ?_) #[true, false, true, false, false, false, true, false, false, false, false, false, false] rfl rfl (any_of HT_.out (by kernel_rfl)) (fun _ _ _ h => h) (Or.inl ⟨by rfl, ?_⟩) ?_ ?_
        rotate_left
        ·
         intro w'
         go_simp
         with_reducible rfl
        rotate_left
        ·
         simp only [Act.put, List.setIfInBounds_toArray, List.set_cons_zero, List.set_cons_succ, i64_w, i32_w]
         rfl
        refine pure_ (i := 8) (N := some 130) (v := ?_) (a' := ?_) #[true, false, true, false, false, false, true, false, true, false, false, false, false] rfl rfl (any_of HT_.out (by kernel_rfl)) (fun _ _ _ h => h) (Or.inl ⟨by rfl, ?_⟩) ?_ ?_
        rotate_left
        ·
         intro w'
         go_simp
         with_reducible rfl
        rotate_left
        ·
         simp only [Act.put, List.setIfInBounds_toArray, List.set_cons_zero, List.set_cons_succ, i64_w, i32_w]
         rfl
        refine take_ (i := 1) (N := some 123) (v := ?_) (a' := ?_) #[true, true, true, false, false, false, true, false, true, false, false, false, false] rfl rfl (take_ofW HT_.out HW_.out (by kernel_rfl)) (fun _ _ _ h => h) (Or.inl ⟨by rfl, ?_⟩) hHeld ?_ ?_
        rotate_left
        ·
         rintro w' ⟨s0, s1, s2, s3, s4, s5, s6, s7, s8, s9, s10, s11, s12, s13, s14, s15, s16, s17, s18, s19⟩
         go_simp
         with_reducible rfl
        rotate_left
        ·
         simp only [Act.put, List.setIfInBounds_toArray, List.set_cons_zero, List.set_cons_succ, i64_w, i32_w]
         rfl
        refine pure_ (i := 3) (N := some 125) (v := ?_) (a' := ?_) #[true, true, true, true, false, false, true, false, true, false, false, false, false] rfl rfl (any_of HT_.out (by kernel_rfl)) (fun _ _ _ h => h) (Or.inl ⟨by rfl, ?_⟩) ?_ ?_
        rotate_left
        ·
         intro w'
         go_simp
         with_reducible rfl
        rotate_left
        ·
         simp only [Act.put, List.setIfInBounds_toArray, List.set_cons_zero, List.set_cons_succ, i64_w, i32_w]
         rfl
        refine take_ (i := 4) (N := some 126) (v := ?_) (a' := ?_) #[true, true, true, true, true, false, true, false, true, false, false, false, false] rfl rfl (take_ofW HT_.out HW_.out (by kernel_rfl)) (fun _ _ _ h => h) (Or.inl ⟨by rfl, ?_⟩) hHeld ?_ ?_
        rotate_left
        ·
         rintro w' ⟨s0, s1, s2, s3, s4, s5, s6, s7, s8, s9, s10, s11, s12, s13, s14, s15, s16, s17, s18, s19⟩
         go_simp
         with_reducible rfl
        rotate_left
        ·
         simp only [Act.put, List.setIfInBounds_toArray, List.set_cons_zero, List.set_cons_succ, i64_w, i32_w]
         rfl
        refine pure_ (i := 5) (N := some 127) (v := ?_) (a' := ?_) #[true, true, true, true, true, true, true, false, true, false, false, false, false] rfl rfl (any_of HT_.out (by kernel_rfl)) (fun _ _ _ h => h) (Or.inl ⟨by rfl, ?_⟩) ?_ ?_
        rotate_left
        ·
         intro w'
         go_simp
         with_reducible rfl
        rotate_left
        ·
         simp only [Act.put, List.setIfInBounds_toArray, List.set_cons_zero, List.set_cons_succ, i64_w, i32_w]
         rfl
        refine take_ (i := 7) (N := some 129) (v := ?_) (a' := ?_) #[true, true, true, true, true, true, true, true, true, false, false, false, false] rfl rfl (take_ofW HT_.out HW_.out (by kernel_rfl)) (fun _ _ _ h => h) (Or.inl ⟨by rfl, ?_⟩) hHeld ?_ ?_
        rotate_left
        ·
         rintro w' ⟨s0, s1, s2, s3, s4, s5, s6, s7, s8, s9, s10, s11, s12, s13, s14, s15, s16, s17, s18, s19⟩
         go_simp
         with_reducible rfl
        rotate_left
        ·
         simp only [Act.put, List.setIfInBounds_toArray, List.set_cons_zero, List.set_cons_succ, i64_w, i32_w]
         rfl
        refine pure_ (i := 9) (N := some 131) (v := ?_) (a' := ?_) #[true, true, true, true, true, true, true, true, true, true, false, false, false] rfl rfl (any_of HT_.out (by kernel_rfl)) (fun _ _ _ h => h) (Or.inl ⟨by rfl, ?_⟩) ?_ ?_
        rotate_left
        ·
         intro w'
         go_simp
         with_reducible rfl
        rotate_left
        ·
         simp only [Act.put, List.setIfInBounds_toArray, List.set_cons_zero, List.set_cons_succ, i64_w, i32_w]
         rfl
        refine take_ (i := 10) (N := some 132) (v := ?_) (a' := ?_) #[true, true, true, true, true, true, true, true, true, true, true, false, false] rfl rfl (take_ofW HT_.out HW_.out (by kernel_rfl)) (fun _ _ _ h => h) (Or.inl ⟨by rfl, ?_⟩) hHeld ?_ ?_
        rotate_left
        ·
         rintro w' ⟨s0, s1, s2, s3, s4, s5, s6, s7, s8, s9, s10, s11, s12, s13, s14, s15, s16, s17, s18, s19⟩
         go_simp
         with_reducible rfl
        rotate_left
        ·
         simp only [Act.put, List.setIfInBounds_toArray, List.set_cons_zero, List.set_cons_succ, i64_w, i32_w]
         rfl
        refine pure_ (i := 11) (N := some 133) (v := ?_) (a' := ?_) #[true, true, true, true, true, true, true, true, true, true, true, true, false] rfl rfl (any_of HT_.out (by kernel_rfl)) (fun _ _ _ h => h) (Or.inl ⟨by rfl, ?_⟩) ?_ ?_
        rotate_left
        ·
         intro w'
         go_simp
         with_reducible rfl
        rotate_left
        ·
         simp only [Act.put, List.setIfInBounds_toArray, List.set_cons_zero, List.set_cons_succ, i64_w, i32_w]
         rfl
        refine pure_ (i := 12) (N := some 134) (v := ?_) (a' := ?_) #[true, true, true, true, true, true, true, true, true, true, true, true, true] rfl rfl (any_of HT_.out (by kernel_rfl)) (fun _ _ _ h => h) (Or.inl ⟨by rfl, ?_⟩) ?_ ?_
        rotate_left
        ·
         intro w'
         go_simp
         with_reducible rfl
        rotate_left
        ·
         simp only [Act.put, List.setIfInBounds_toArray, List.set_cons_zero, List.set_cons_succ, i64_w, i32_w]
         rfl
        refine done_ (done_of HT_.out (by kernel_rfl)) ?_
        have H := HQ_.out
        clear HQ_
        by_cases c125 : ((rd_L3 ((rd_T44 l0_0 x5_2).f3) x8_4).length : Int) = ((rd_L3 ((rd_T44 l1_0 x5_2).f3) x8_4).length : Int)
        ·
         rw [if_pos c125] at H
         have c125b0 : (((rd_L3 ((rd_T44 l0_0 x5_2).f3) x8_4).length : Int) == ((rd_L3 ((rd_T44 l1_0 x5_2).f3) x8_4).length : Int)) = true := beq_iff_eq.mpr c125
         have c125b1 : (((rd_L3 ((rd_T44 l0_0 x5_2).f3) x8_4).length : Int) != ((rd_L3 ((rd_T44 l1_0 x5_2).f3) x8_4).length : Int)) = false := bne_eq_false_iff_eq.mpr c125
         have c125b2 : ((rd_L3 ((rd_T44 l0_0 x5_2).f3) x8_4).length == (rd_L3 ((rd_T44 l1_0 x5_2).f3) x8_4).length) = true := by first | simpa using c125 | (simp at c125 ⊢; omega)
         clear c125
         try rw [c125b1]
         have H' := Aside0.mk H
         clear H
         have hnb126 := NB250_245.out
         have hnc126 := NB245_250.out
         have hnb127 := NB250_246.out
         have hnc127 := NB246_250.out
         have hnb128 := NB250_251.out
         have hnc128 := NB251_250.out
         obtain ⟨hcz129_0, hcz129_1, hcz129_2, hcz129_3, hcz129_4, hcz129_5, hcz129_6, hcz129_7, hcz129_8⟩ := cells9 BK250.out
         obtain ⟨hfz129_0, hfz129_1, hfz129_2, hfz129_3, hfz129_4, hfz129_5, hfz129_6, hfz129_7, hfz129_8⟩ := frz9 BK250.out
         try go_wp2
         go_loopg [9] k4 (fun kq v9 w' => ∃ (x9_5 : Int), v9 = .int .i64 x9_5 ∧ Aside0 (runnelref17_Same.l2 kq x5_2 x8_4 x9_5 l0_0 l0_1 a0_2 l1_0 l1_1 a1_2 ((rd_T44 l0_0 x5_2).f0) ((rd_T44 l0_0 x5_2).f1) ((rd_T44 l0_0 x5_2).f2) ((rd_T44 l0_0 x5_2).f3) ((rd_T44 l0_0 x5_2).f4) ((rd_T44 l0_0 x5_2).f5) ((rd_T44 l0_0 x5_2).f6) ((rd_T44 l0_0 x5_2).f7) ((rd_T44 l0_0 x5_2).f8) ((rd_T44 l1_0 x5_2).f0) ((rd_T44 l1_0 x5_2).f1) ((rd_T44 l1_0 x5_2).f2) ((rd_T44 l1_0 x5_2).f3) ((rd_T44 l1_0 x5_2).f4) ((rd_T44 l1_0 x5_2).f5) ((rd_T44 l1_0 x5_2).f6) ((rd_T44 l1_0 x5_2).f7) ((rd_T44 l1_0 x5_2).f8) = some r) ∧ Aside0 (kq ≤ k4) ∧ Aside0 (w'.heap[gb245]? = some (.cells #[(.slice (some ad248) l0_0.length c0_0), (.slice A0_1 l0_1.length c0_1), .int .i64 a0_2] 25 (0, 0))) ∧ Aside0 (w'.heap[gb246]? = some (.cells #[(.slice (some ad249) l1_0.length c1_0), (.slice A1_1 l1_1.length c1_1), .int .i64 a1_2] 25 (0, 0))) ∧ Aside0 (w'.heap[gb250]? = some (.cells #[.int .i64 ((rd_T44 l0_0 x5_2).f0), (.slice A248_1 ((rd_T44 l0_0 x5_2).f1).length c248_1), (.slice A248_2 ((rd_T44 l0_0 x5_2).f2).length c248_2), (.slice (some ad255) ((rd_T44 l0_0 x5_2).f3).length c248_3), (.slice A248_4 ((rd_T44 l0_0 x5_2).f4).length c248_4), .int .i64 ((rd_T44 l0_0 x5_2).f5), .int .i64 ((rd_T44 l0_0 x5_2).f6), .int .i64 ((rd_T44 l0_0 x5_2).f7), .int .i64 ((rd_T44 l0_0 x5_2).f8)] 44 (0, 0))) ∧ Aside0 (w'.heap[gb251]? = some (.cells #[.int .i64 ((rd_T44 l1_0 x5_2).f0), (.slice A249_1 ((rd_T44 l1_0 x5_2).f1).length c249_1), (.slice A249_2 ((rd_T44 l1_0 x5_2).f2).length c249_2), (.slice (some ad256) ((rd_T44 l1_0 x5_2).f3).length c249_3), (.slice A249_4 ((rd_T44 l1_0 x5_2).f4).length c249_4), .int .i64 ((rd_T44 l1_0 x5_2).f5), .int .i64 ((rd_T44 l1_0 x5_2).f6), .int .i64 ((rd_T44 l1_0 x5_2).f7), .int .i64 ((rd_T44 l1_0 x5_2).f8)] 44 (0, 0))) ∧ Aside0 (Below w.heap.size w w'))
         case atStart => exact ⟨(0), (by first | rfl | (simp; done) | (simp [*]; done)), H', ⟨Nat.le_refl _⟩, ⟨by (with_reducible repeat (first | refine blk_drewN ?_ _ | refine blk_drew ?_ | refine blk_alloc ?_ _)); exact BK245.out⟩, ⟨by (with_reducible repeat (first | refine blk_drewN ?_ _ | refine blk_drew ?_ | refine blk_alloc ?_ _)); exact BK246.out⟩, ⟨by (with_reducible repeat (first | refine blk_drewN ?_ _ | refine blk_drew ?_ | refine blk_alloc ?_ _)); exact BK250.out⟩, ⟨by (with_reducible repeat (first | refine blk_drewN ?_ _ | refine blk_drew ?_ | refine blk_alloc ?_ _)); exact BK251.out⟩, ⟨bl⟩⟩
         case round =>
          clear H'
          (try clear c121); (try clear c122); (try clear c122b0); (try clear c123); (try clear c123b0); (try clear c124); (try clear c124b0); (try clear c125); (try clear c125b0); (try clear c125b1); (try clear c125b2); (try clear hcz129_0); (try clear hcz129_1); (try clear hcz129_2); (try clear hcz129_3); (try clear hcz129_4); (try clear hcz129_5); (try clear hcz129_6); (try clear hcz129_7); (try clear hcz129_8); (try clear hfz129_0); (try clear hfz129_1); (try clear hfz129_2); (try clear hfz129_3); (try clear hfz129_4); (try clear hfz129_5); (try clear hfz129_6); (try clear hfz129_7); (try clear hfz129_8); (try clear hx255_0); (try clear hx256_0); (try clear p255); (try clear p256); (try clear q255); (try clear q256)
          obtain ⟨x9_5, rfl, HA, HK5, BK245, BK246, BK250, BK251, HB⟩ := hrel
          cases gk with
          | zero => exact absurd HA.out (by simp [runnelref17_Same.l2])
          | succ k5 =>
           have H := HA.out
           clear HA
           simp only [runnelref17_Same.l2] at H
           by_cases c131 : 0 ≤ x8_4
           ·
            rw [if_pos c131] at H
            have c131b0 : decide (0 ≤ x8_4) = true := decide_eq_true c131
            clear c131
            by_cases c132 : x8_4 < (((rd_T44 l0_0 x5_2).f3).length : Int)
            ·
             rw [if_pos c132] at H
             have c132b0 : decide (x8_4 < (((rd_T44 l0_0 x5_2).f3).length : Int)) = true := decide_eq_true c132
             clear c132
             by_cases c133 : x9_5 < ((rd_L3 ((rd_T44 l0_0 x5_2).f3) x8_4).length : Int)
             ·
              rw [if_pos c133] at H
              have c133b0 : decide (x9_5 < ((rd_L3 ((rd_T44 l0_0 x5_2).f3) x8_4).length : Int)) = true := decide_eq_true c133
              clear c133
              by_cases c134 : 0 ≤ x9_5
              ·
               rw [if_pos c134] at H
               have c134b0 : decide (0 ≤ x9_5) = true := decide_eq_true c134
               clear c134
               by_cases c135 : x8_4 < (((rd_T44 l1_0 x5_2).f3).length : Int)
               ·
                rw [if_pos c135] at H
                have c135b0 : decide (x8_4 < (((rd_T44 l1_0 x5_2).f3).length : Int)) = true := decide_eq_true c135
                clear c135
                by_cases c136 : x9_5 < ((rd_L3 ((rd_T44 l1_0 x5_2).f3) x8_4).length : Int)
                ·
                 rw [if_pos c136] at H
                 have c136b0 : decide (x9_5 < ((rd_L3 ((rd_T44 l1_0 x5_2).f3) x8_4).length : Int)) = true := decide_eq_true c136
                 clear c136
                 have HQ_ := Aside0.mk H
                 clear H
                 have hnb138 := NB250_245.out
                 have hnc138 := NB245_250.out
                 have hnb139 := NB250_246.out
                 have hnc139 := NB246_250.out
                 have hnb140 := NB250_251.out
                 have hnc140 := NB251_250.out
                 obtain ⟨hcz141_0, hcz141_1, hcz141_2, hcz141_3, hcz141_4, hcz141_5, hcz141_6, hcz141_7, hcz141_8⟩ := cells9 BK250.out
                 obtain ⟨hfz141_0, hfz141_1, hfz141_2, hfz141_3, hfz141_4, hfz141_5, hfz141_6, hfz141_7, hfz141_8⟩ := frz9 BK250.out
                 have p257 : 0 ≤ (x8_4 : Int) := of_decide_eq_true (by first | (with_reducible assumption) | assumption)
                 have q257 : x8_4 < (((rd_T44 l0_0 x5_2).f3).length : Int) := of_decide_eq_true (by first | (with_reducible assumption) | assumption)
                 obtain ⟨ad257, A257_0, c257_0, e257, hx257_0, hl257_0, hi257_0⟩ := at_L3 HR248_3.out x8_4 p257 q257
                 obtain rfl : ad255 = ad257 := (by injection e257)
                 replace hx257_0 := bc HB.out hx257_0
                 have HR257_0 := Aside0.mk hi257_0
                 have HC257_0 := Aside0.mk hl257_0
                 clear hi257_0 hl257_0
                 replace p257 := eq_true p257
                 replace q257 := eq_true q257
                 try go_wp2
                 have n0_ := Aside0.mk (blk_drew BK245.out)
                 have n1_ := Aside0.mk (blk_drew BK246.out)
                 have n2_ := Aside0.mk (blk_drew BK250.out)
                 have n3_ := Aside0.mk (blk_drew BK251.out)
                 have n4_ := Aside0.mk (below_drew1 HB.out)
                 clear BK245
                 clear BK246
                 clear BK250
                 clear BK251
                 clear HB
                 have BK245 := n0_
                 have BK246 := n1_
                 have BK250 := n2_
                 have BK251 := n3_
                 have HB := n4_
                 clear n0_ n1_ n2_ n3_ n4_
                 have p258 : 0 ≤ (x8_4 : Int) := of_decide_eq_true (by first | (with_reducible assumption) | assumption)
                 have q258 : x8_4 < (((rd_T44 l0_0 x5_2).f3).length : Int) := of_decide_eq_true (by first | (with_reducible assumption) | assumption)
                 obtain ⟨ad258, A258_0, c258_0, e258, hx258_0, hl258_0, hi258_0⟩ := at_L3 HR248_3.out x8_4 p258 q258
                 have hw258_0 := hx258_0
                 obtain rfl : ad255 = ad258 := (by injection e258)
                 replace hx258_0 := bc HB.out hx258_0
                 have HR258_0 := Aside0.mk hi258_0
                 have HC258_0 := Aside0.mk hl258_0
                 clear hi258_0 hl258_0
                 replace p258 := eq_true p258
                 replace q258 := eq_true q258
                 have p259 : 0 ≤ (x9_5 : Int) := of_decide_eq_true (by first | (with_reducible assumption) | assumption)
                 have q259 : x9_5 < ((rd_L3 ((rd_T44 l0_0 x5_2).f3) x8_4).length : Int) := of_decide_eq_true (by first | (with_reducible assumption) | assumption)
                 obtain ⟨ad259, e259, hx259_0, hx259_1, hx259_2⟩ := at_T52 HR258_0.out x9_5 p259 q259
                 have hw259_2 := hx259_2
                 have hw259_1 := hx259_1
                 have hw259_0 := hx259_0
                 cases e259
                 replace hx259_0 := bc HB.out hx259_0
                 replace hx259_1 := bc HB.out hx259_1
                 replace hx259_2 := bc HB.out hx259_2
                 replace p259 := eq_true p259
                 replace q259 := eq_true q259
                 have p260 : 0 ≤ (x8_4 : Int) := of_decide_eq_true (by first | (with_reducible assumption) | assumption)
                 have q260 : x8_4 < (((rd_T44 l1_0 x5_2).f3).length : Int) := of_decide_eq_true (by first | (with_reducible assumption) | assumption)
                 obtain ⟨ad260, A260_0, c260_0, e260, hx260_0, hl260_0, hi260_0⟩ := at_L3 HR249_3.out x8_4 p260 q260
                 have hw260_0 := hx260_0
                 obtain rfl : ad256 = ad260 := (by injection e260)
                 replace hx260_0 := bc HB.out hx260_0
                 have HR260_0 := Aside0.mk hi260_0
                 have HC260_0 := Aside0.mk hl260_0
                 clear hi260_0 hl260_0
                 replace p260 := eq_true p260
                 replace q260 := eq_true q260
                 have p261 : 0 ≤ (x9_5 : Int) := of_decide_eq_true (by first | (with_reducible assumption) | assumption)
                 have q261 : x9_5 < ((rd_L3 ((rd_T44 l1_0 x5_2).f3) x8_4).length : Int) := of_decide_eq_true (by first | (with_reducible assumption) | assumption)
                 obtain ⟨ad261, e261, hx261_0, hx261_1, hx261_2⟩ := at_T52 HR260_0.out x9_5 p261 q261
                 have hw261_2 := hx261_2
                 have hw261_1 := hx261_1
                 have hw261_0 := hx261_0
                 cases e261
                 replace hx261_0 := bc HB.out hx261_0
                 replace hx261_1 := bc HB.out hx261_1
                 replace hx261_2 := bc HB.out hx261_2
                 replace p261 := eq_true p261
                 replace q261 := eq_true q261
                 refine start_ (n := 17) (S := fun w' => w'.cell? ⟨gb250, 0, none⟩ = some (.int .i64 ((rd_T44 l0_0 x5_2).f0)) ∧ w'.cell? ⟨gb250, 1, none⟩ = some (.slice A248_1 ((rd_T44 l0_0 x5_2).f1).length c248_1) ∧ w'.cell? ⟨gb250, 2, none⟩ = some (.slice A248_2 ((rd_T44 l0_0 x5_2).f2).length c248_2) ∧ w'.cell? ⟨gb250, 3, none⟩ = some (.slice (some ad255) ((rd_T44 l0_0 x5_2).f3).length c248_3) ∧ w'.cell? ⟨gb250, 4, none⟩ = some (.slice A248_4 ((rd_T44 l0_0 x5_2).f4).length c248_4) ∧ w'.cell? ⟨gb250, 5, none⟩ = some (.int .i64 ((rd_T44 l0_0 x5_2).f5)) ∧ w'.cell? ⟨gb250, 6, none⟩ = some (.int .i64 ((rd_T44 l0_0 x5_2).f6)) ∧ w'.cell? ⟨gb250, 7, none⟩ = some (.int .i64 ((rd_T44 l0_0 x5_2).f7)) ∧ w'.cell? ⟨gb250, 8, none⟩ = some (.int .i64 ((rd_T44 l0_0 x5_2).f8)) ∧ w'.cell? ⟨gb251, 0, none⟩ = some (.int .i64 ((rd_T44 l1_0 x5_2).f0)) ∧ w'.cell? ⟨gb251, 1, none⟩ = some (.slice A249_1 ((rd_T44 l1_0 x5_2).f1).length c249_1) ∧ w'.cell? ⟨gb251, 2, none⟩ = some (.slice A249_2 ((rd_T44 l1_0 x5_2).f2).length c249_2) ∧ w'.cell? ⟨gb251, 3, none⟩ = some (.slice (some ad256) ((rd_T44 l1_0 x5_2).f3).length c249_3) ∧ w'.cell? ⟨gb251, 4, none⟩ = some (.slice A249_4 ((rd_T44 l1_0 x5_2).f4).length c249_4) ∧ w'.cell? ⟨gb251, 5, none⟩ = some (.int .i64 ((rd_T44 l1_0 x5_2).f5)) ∧ w'.cell? ⟨gb251, 6, none⟩ = some (.int .i64 ((rd_T44 l1_0 x5_2).f6)) ∧ w'.cell? ⟨gb251, 7, none⟩ = some (.int .i64 ((rd_T44 l1_0 x5_2).f7)) ∧ w'.cell? ⟨gb251, 8, none⟩ = some (.int .i64 ((rd_T44 l1_0 x5_2).f8)) ∧ w'.cell? (ad255.add (x8_4).toNat) = some (.slice (some ad259) (rd_L3 ((rd_T44 l0_0 x5_2).f3) x8_4).length c258_0) ∧ w'.cell? (ad259.add ((x9_5).toNat * 3)) = some (.int .i64 ((rd_T52 (rd_L3 ((rd_T44 l0_0 x5_2).f3) x8_4) x9_5).f0)) ∧ w'.cell? ⟨(ad259.add ((x9_5).toNat * 3)).block, (ad259.add ((x9_5).toNat * 3)).off + 1, none⟩ = some (.int .i64 ((rd_T52 (rd_L3 ((rd_T44 l0_0 x5_2).f3) x8_4) x9_5).f1)) ∧ w'.cell? ⟨(ad259.add ((x9_5).toNat * 3)).block, (ad259.add ((x9_5).toNat * 3)).off + 2, none⟩ = some (.string ((rd_T52 (rd_L3 ((rd_T44 l0_0 x5_2).f3) x8_4) x9_5).f2)) ∧ w'.cell? (ad256.add (x8_4).toNat) = some (.slice (some ad261) (rd_L3 ((rd_T44 l1_0 x5_2).f3) x8_4).length c260_0) ∧ w'.cell? (ad261.add ((x9_5).toNat * 3)) = some (.int .i64 ((rd_T52 (rd_L3 ((rd_T44 l1_0 x5_2).f3) x8_4) x9_5).f0)) ∧ w'.cell? ⟨(ad261.add ((x9_5).toNat * 3)).block, (ad261.add ((x9_5).toNat * 3)).off + 1, none⟩ = some (.int .i64 ((rd_T52 (rd_L3 ((rd_T44 l1_0 x5_2).f3) x8_4) x9_5).f1)) ∧ w'.cell? ⟨(ad261.add ((x9_5).toNat * 3)).block, (ad261.add ((x9_5).toNat * 3)).off + 2, none⟩ = some (.string ((rd_T52 (rd_L3 ((rd_T44 l1_0 x5_2).f3) x8_4) x9_5).f2))) (ds := []) #[false, false, false, false, false, false, false, false, false, false, false, false, false, false, false, false, false] (by kernel_rfl) rfl rfl ⟨(blk_cell BK250.out 0).trans rfl, (blk_cell BK250.out 1).trans rfl, (blk_cell BK250.out 2).trans rfl, (blk_cell BK250.out 3).trans rfl, (blk_cell BK250.out 4).trans rfl, (blk_cell BK250.out 5).trans rfl, (blk_cell BK250.out 6).trans rfl, (blk_cell BK250.out 7).trans rfl, (blk_cell BK250.out 8).trans rfl, (blk_cell BK251.out 0).trans rfl, (blk_cell BK251.out 1).trans rfl, (blk_cell BK251.out 2).trans rfl, (blk_cell BK251.out 3).trans rfl, (blk_cell BK251.out 4).trans rfl, (blk_cell BK251.out 5).trans rfl, (blk_cell BK251.out 6).trans rfl, (blk_cell BK251.out 7).trans rfl, (blk_cell BK251.out 8).trans rfl, (bc HB.out hw258_0), (bc HB.out hw259_0), (bc HB.out hw259_1), (bc HB.out hw259_2), (bc HB.out hw260_0), (bc HB.out hw261_0), (bc HB.out hw261_1), (bc HB.out hw261_2)⟩ (fun hHeld => ?_); refine with_tabW runnelref17_Same.tab17 runnelref17_Same.bits17 (fun HT_ HW_ => ?_)
                 generalize wr.drew = w142 at BK245 BK246 BK250 BK251 HB HR258_0 HR260_0 hx258_0 hx259_0 hx259_1 hx259_2 hx260_0 hx261_0 hx261_1 hx261_2 hHeld ⊢
                 refine pure_ (i := 0) (N := some 145) (v := ?_) (a' := ?_) #[true, false, false, false, false, false, false, false, false, false, false, false, false, false, false, false, false] rfl rfl (any_of HT_.out (by kernel_rfl)) (fun _ _ _ h => h) (Or.inl ⟨by rfl, ?_⟩) ?_ ?_
                 rotate_left
                 ·
                  intro w'
                  go_simp
                  with_reducible rfl
                 rotate_left
                 ·
                  simp only [Act.put, List.setIfInBounds_toArray, List.set_cons_zero, List.set_cons_succ, i64_w, i32_w]
                  rfl
                 refine pure_ (i := 2) (N := some 147) (v := ?_) (a' := ?_) #[true, false, true, false, false, false, false, false, false, false, false, false, false, false, false, false, false] rfl rfl (any_of HT_.out (by kernel_rfl)) (fun _ _ _ h => h) (Or.inl ⟨by rfl, ?_⟩) ?_ ?_
                 rotate_left
                 ·
                  intro w'
                  go_simp
                  with_reducible rfl
                 rotate_left
                 ·
                  simp only [Act.put, List.setIfInBounds_toArray, List.set_cons_zero, List.set_cons_succ, i64_w, i32_w]
                  rfl
                 refine pure_ (i := 5) (N := some 150) (v := ?_) (a' := ?_) #[true, false, true, false, false, true, false, false, false, false, false, false, false, false, false, false, false] rfl rfl (any_of HT_.out (by kernel_rfl)) (fun _ _ _ h => h) (Or.inl ⟨by rfl, ?_⟩) ?_ ?_
                 rotate_left
                 ·
                  intro w'
                  go_simp
                  with_reducible rfl
                 rotate_left
                 ·
                  simp only [Act.put, List.setIfInBounds_toArray, List.set_cons_zero, List.set_cons_succ, i64_w, i32_w]
                  rfl
                 refine pure_ (i := 8) (N := some 153) (v := ?_) (a' := ?_) #[true, false, true, false, false, true, false, false, true, false, false, false, false, false, false, false, false] rfl rfl (any_of HT_.out (by kernel_rfl)) (fun _ _ _ h => h) (Or.inl ⟨by rfl, ?_⟩) ?_ ?_
                 rotate_left
                 ·
                  intro w'
                  go_simp
                  with_reducible rfl
                 rotate_left
                 ·
                  simp only [Act.put, List.setIfInBounds_toArray, List.set_cons_zero, List.set_cons_succ, i64_w, i32_w]
                  rfl
                 refine pure_ (i := 10) (N := some 155) (v := ?_) (a' := ?_) #[true, false, true, false, false, true, false, false, true, false, true, false, false, false, false, false, false] rfl rfl (any_of HT_.out (by kernel_rfl)) (fun _ _ _ h => h) (Or.inl ⟨by rfl, ?_⟩) ?_ ?_
                 rotate_left
                 ·
                  intro w'
                  go_simp
                  with_reducible rfl
                 rotate_left
                 ·
                  simp only [Act.put, List.setIfInBounds_toArray, List.set_cons_zero, List.set_cons_succ, i64_w, i32_w]
                  rfl
                 refine pure_ (i := 13) (N := some 158) (v := ?_) (a' := ?_) #[true, false, true, false, false, true, false, false, true, false, true, false, false, true, false, false, false] rfl rfl (any_of HT_.out (by kernel_rfl)) (fun _ _ _ h => h) (Or.inl ⟨by rfl, ?_⟩) ?_ ?_
                 rotate_left
                 ·
                  intro w'
                  go_simp
                  with_reducible rfl
                 rotate_left
                 ·
                  simp only [Act.put, List.setIfInBounds_toArray, List.set_cons_zero, List.set_cons_succ, i64_w, i32_w]
                  rfl
                 refine take_ (i := 1) (N := some 146) (v := ?_) (a' := ?_) #[true, true, true, false, false, true, false, false, true, false, true, false, false, true, false, false, false] rfl rfl (take_ofW HT_.out HW_.out (by kernel_rfl)) (fun _ _ _ h => h) (Or.inl ⟨by rfl, ?_⟩) hHeld ?_ ?_
                 rotate_left
                 ·
                  rintro w' ⟨s0, s1, s2, s3, s4, s5, s6, s7, s8, s9, s10, s11, s12, s13, s14, s15, s16, s17, s18, s19, s20, s21, s22, s23, s24, s25⟩
                  go_simp
                  with_reducible rfl
                 rotate_left
                 ·
                  simp only [Act.put, List.setIfInBounds_toArray, List.set_cons_zero, List.set_cons_succ, i64_w, i32_w]
                  rfl
                 refine pure_ (i := 3) (N := some 148) (v := ?_) (a' := ?_) #[true, true, true, true, false, true, false, false, true, false, true, false, false, true, false, false, false] rfl rfl (any_of HT_.out (by kernel_rfl)) (fun _ _ _ h => h) (Or.inl ⟨by rfl, ?_⟩) ?_ ?_
                 rotate_left
                 ·
                  intro w'
                  go_simp
                  with_reducible rfl
                 rotate_left
                 ·
                  simp only [Act.put, List.setIfInBounds_toArray, List.set_cons_zero, List.set_cons_succ, i64_w, i32_w]
                  rfl
                 refine take_ (i := 4) (N := some 149) (v := ?_) (a' := ?_) #[true, true, true, true, true, true, false, false, true, false, true, false, false, true, false, false, false] rfl rfl (take_ofW HT_.out HW_.out (by kernel_rfl)) (fun _ _ _ h => h) (Or.inl ⟨by rfl, ?_⟩) hHeld ?_ ?_
                 rotate_left
                 ·
                  rintro w' ⟨s0, s1, s2, s3, s4, s5, s6, s7, s8, s9, s10, s11, s12, s13, s14, s15, s16, s17, s18, s19, s20, s21, s22, s23, s24, s25⟩
                  go_simp
                  with_reducible rfl
                 rotate_left
                 ·
                  simp only [Act.put, List.setIfInBounds_toArray, List.set_cons_zero, List.set_cons_succ, i64_w, i32_w]
                  rfl
                 refine pure_ (i := 6) (N := some 151) (v := ?_) (a' := ?_) #[true, true, true, true, true, true, true, false, true, false, true, false, false, true, false, false, false] rfl rfl (any_of HT_.out (by kernel_rfl)) (fun _ _ _ h => h) (Or.inl ⟨by rfl, ?_⟩) ?_ ?_
                 rotate_left
                 ·
                  intro w'
                  go_simp
                  with_reducible rfl
                 rotate_left
                 ·
                  simp only [Act.put, List.setIfInBounds_toArray, List.set_cons_zero, List.set_cons_succ, i64_w, i32_w]
                  rfl
                 refine take_ (i := 7) (N := some 152) (v := ?_) (a' := ?_) #[true, true, true, true, true, true, true, true, true, false, true, false, false, true, false, false, false] rfl rfl (take_ofW HT_.out HW_.out (by kernel_rfl)) (fun _ _ _ h => h) (Or.inl ⟨by rfl, ?_⟩) hHeld ?_ ?_
                 rotate_left
                 ·
                  rintro w' ⟨s0, s1, s2, s3, s4, s5, s6, s7, s8, s9, s10, s11, s12, s13, s14, s15, s16, s17, s18, s19, s20, s21, s22, s23, s24, s25⟩
                  go_simp
                  with_reducible rfl
                 rotate_left
                 ·
                  simp only [Act.put, List.setIfInBounds_toArray, List.set_cons_zero, List.set_cons_succ, i64_w, i32_w]
                  rfl
                 refine take_ (i := 9) (N := some 154) (v := ?_) (a' := ?_) #[true, true, true, true, true, true, true, true, true, true, true, false, false, true, false, false, false] rfl rfl (take_ofW HT_.out HW_.out (by kernel_rfl)) (fun _ _ _ h => h) (Or.inl ⟨by rfl, ?_⟩) hHeld ?_ ?_
                 rotate_left
                 ·
                  rintro w' ⟨s0, s1, s2, s3, s4, s5, s6, s7, s8, s9, s10, s11, s12, s13, s14, s15, s16, s17, s18, s19, s20, s21, s22, s23, s24, s25⟩
                  go_simp
                  with_reducible rfl
                 rotate_left
                 ·
                  simp only [Act.put, List.setIfInBounds_toArray, List.set_cons_zero, List.set_cons_succ, i64_w, i32_w]
                  rfl
                 refine pure_ (i := 11) (N := some 156) (v := ?_) (a' := ?_) #[true, true, true, true, true, true, true, true, true, true, true, true, false, true, false, false, false] rfl rfl (any_of HT_.out (by kernel_rfl)) (fun _ _ _ h => h) (Or.inl ⟨by rfl, ?_⟩) ?_ ?_
                 rotate_left
                 ·
                  intro w'
                  go_simp
                  with_reducible rfl
                 rotate_left
                 ·
                  simp only [Act.put, List.setIfInBounds_toArray, List.set_cons_zero, List.set_cons_succ, i64_w, i32_w]
                  rfl
                 refine take_ (i := 12) (N := some 157) (v := ?_) (a' := ?_) #[true, true, true, true, true, true, true, true, true, true, true, true, true, true, false, false, false] rfl rfl (take_ofW HT_.out HW_.out (by kernel_rfl)) (fun _ _ _ h => h) (Or.inl ⟨by rfl, ?_⟩) hHeld ?_ ?_
                 rotate_left
                 ·
                  rintro w' ⟨s0, s1, s2, s3, s4, s5, s6, s7, s8, s9, s10, s11, s12, s13, s14, s15, s16, s17, s18, s19, s20, s21, s22, s23, s24, s25⟩
                  go_simp
                  with_reducible rfl
                 rotate_left
                 ·
                  simp only [Act.put, List.setIfInBounds_toArray, List.set_cons_zero, List.set_cons_succ, i64_w, i32_w]
                  rfl
                 refine pure_ (i := 14) (N := some 159) (v := ?_) (a' := ?_) #[true, true, true, true, true, true, true, true, true, true, true, true, true, true, true, false, false] rfl rfl (any_of HT_.out (by kernel_rfl)) (fun _ _ _ h => h) (Or.inl ⟨by rfl, ?_⟩) ?_ ?_
                 rotate_left
                 ·
                  intro w'
                  go_simp
                  with_reducible rfl
                 rotate_left
                 ·
                  simp only [Act.put, List.setIfInBounds_toArray, List.set_cons_zero, List.set_cons_succ, i64_w, i32_w]
                  rfl
                 refine take_ (i := 15) (N := some 160) (v := ?_) (a' := ?_) #[true, true, true, true, true, true, true, true, true, true, true, true, true, true, true, true, false] rfl rfl (take_ofW HT_.out HW_.out (by kernel_rfl)) (fun _ _ _ h => h) (Or.inl ⟨by rfl, ?_⟩) hHeld ?_ ?_
                 rotate_left
                 ·
                  rintro w' ⟨s0, s1, s2, s3, s4, s5, s6, s7, s8, s9, s10, s11, s12, s13, s14, s15, s16, s17, s18, s19, s20, s21, s22, s23, s24, s25⟩
                  go_simp
                  with_reducible rfl
                 rotate_left
                 ·
                  simp only [Act.put, List.setIfInBounds_toArray, List.set_cons_zero, List.set_cons_succ, i64_w, i32_w]
                  rfl
                 refine pure_ (i := 16) (N := some 161) (v := ?_) (a' := ?_) #[true, true, true, true, true, true, true, true, true, true, true, true, true, true, true, true, true] rfl rfl (any_of HT_.out (by kernel_rfl)) (fun _ _ _ h => h) (Or.inl ⟨by rfl, ?_⟩) ?_ ?_
                 rotate_left
                 ·
                  intro w'
                  go_simp
                  with_reducible rfl
                 rotate_left
                 ·
                  simp only [Act.put, List.setIfInBounds_toArray, List.set_cons_zero, List.set_cons_succ, i64_w, i32_w]
                  rfl
                 refine done_ (done_of HT_.out (by kernel_rfl)) ?_
                 have H := HQ_.out
                 clear HQ_
                 by_cases c137 : (!(((rd_T52 (rd_L3 ((rd_T44 l0_0 x5_2).f3) x8_4) x9_5).f0) == ((rd_T52 (rd_L3 ((rd_T44 l1_0 x5_2).f3) x8_4) x9_5).f0)) || (!(((rd_T52 (rd_L3 ((rd_T44 l0_0 x5_2).f3) x8_4) x9_5).f1) == ((rd_T52 (rd_L3 ((rd_T44 l1_0 x5_2).f3) x8_4) x9_5).f1)) || (!((((rd_T52 (rd_L3 ((rd_T44 l0_0 x5_2).f3) x8_4) x9_5).f2).toList) == (((rd_T52 (rd_L3 ((rd_T44 l1_0 x5_2).f3) x8_4) x9_5).f2).toList))))) = true
                 ·
                  rw [if_pos c137] at H
                  have c137b0 : (!(((rd_T52 (rd_L3 ((rd_T44 l0_0 x5_2).f3) x8_4) x9_5).f0) == ((rd_T52 (rd_L3 ((rd_T44 l1_0 x5_2).f3) x8_4) x9_5).f0)) || (!(((rd_T52 (rd_L3 ((rd_T44 l0_0 x5_2).f3) x8_4) x9_5).f1) == ((rd_T52 (rd_L3 ((rd_T44 l1_0 x5_2).f3) x8_4) x9_5).f1)) || (!((((rd_T52 (rd_L3 ((rd_T44 l0_0 x5_2).f3) x8_4) x9_5).f2).toList) == (((rd_T52 (rd_L3 ((rd_T44 l1_0 x5_2).f3) x8_4) x9_5).f2).toList))))) = true := c137
                  clear c137
                  try rw [c137b0]
                  try rw [c137b0]
                  obtain rfl := Option.some.inj H
                  have hnb138 := NB250_245.out
                  have hnc138 := NB245_250.out
                  have hnb139 := NB250_246.out
                  have hnc139 := NB246_250.out
                  have hnb140 := NB250_251.out
                  have hnc140 := NB251_250.out
                  obtain ⟨hcz141_0, hcz141_1, hcz141_2, hcz141_3, hcz141_4, hcz141_5, hcz141_6, hcz141_7, hcz141_8⟩ := cells9 BK250.out
                  obtain ⟨hfz141_0, hfz141_1, hfz141_2, hfz141_3, hfz141_4, hfz141_5, hfz141_6, hfz141_7, hfz141_8⟩ := frz9 BK250.out
                  have p257 : 0 ≤ (x8_4 : Int) := of_decide_eq_true (by first | (with_reducible assumption) | assumption)
                  have q257 : x8_4 < (((rd_T44 l0_0 x5_2).f3).length : Int) := of_decide_eq_true (by first | (with_reducible assumption) | assumption)
                  obtain ⟨ad257, A257_0, c257_0, e257, hx257_0, hl257_0, hi257_0⟩ := at_L3 HR248_3.out x8_4 p257 q257
                  obtain rfl : ad255 = ad257 := (by injection e257)
                  replace hx257_0 := bc HB.out hx257_0
                  have HR257_0 := Aside0.mk hi257_0
                  have HC257_0 := Aside0.mk hl257_0
                  clear hi257_0 hl257_0
                  replace p257 := eq_true p257
                  replace q257 := eq_true q257
                  try go_wp2
                  go_ret
                  exact ⟨erq, by repeat (first | (with_reducible first | exact HB.out | apply below_alloc | apply pw_below_drewN | apply below_drew1 | refine below_set ?_ GE245.out | refine below_set ?_ GE246.out | refine below_set ?_ GE250.out | refine below_set ?_ GE251.out) | exact HB.out)⟩
                 ·
                  rw [if_neg c137] at H
                  have c137b0 : (!(((rd_T52 (rd_L3 ((rd_T44 l0_0 x5_2).f3) x8_4) x9_5).f0) == ((rd_T52 (rd_L3 ((rd_T44 l1_0 x5_2).f3) x8_4) x9_5).f0)) || (!(((rd_T52 (rd_L3 ((rd_T44 l0_0 x5_2).f3) x8_4) x9_5).f1) == ((rd_T52 (rd_L3 ((rd_T44 l1_0 x5_2).f3) x8_4) x9_5).f1)) || (!((((rd_T52 (rd_L3 ((rd_T44 l0_0 x5_2).f3) x8_4) x9_5).f2).toList) == (((rd_T52 (rd_L3 ((rd_T44 l1_0 x5_2).f3) x8_4) x9_5).f2).toList))))) = false := by simpa using c137
                  clear c137
                  try rw [c137b0]
                  try rw [c137b0]
                  have H' := Aside0.mk H
                  clear H
                  have hnb143 := NB250_245.out
                  have hnc143 := NB245_250.out
                  have hnb144 := NB250_246.out
                  have hnc144 := NB246_250.out
                  have hnb145 := NB250_251.out
                  have hnc145 := NB251_250.out
                  obtain ⟨hcz146_0, hcz146_1, hcz146_2, hcz146_3, hcz146_4, hcz146_5, hcz146_6, hcz146_7, hcz146_8⟩ := cells9 BK250.out
                  obtain ⟨hfz146_0, hfz146_1, hfz146_2, hfz146_3, hfz146_4, hfz146_5, hfz146_6, hfz146_7, hfz146_8⟩ := frz9 BK250.out
                  have p257 : 0 ≤ (x8_4 : Int) := of_decide_eq_true (by first | (with_reducible assumption) | assumption)
                  have q257 : x8_4 < (((rd_T44 l0_0 x5_2).f3).length : Int) := of_decide_eq_true (by first | (with_reducible assumption) | assumption)
                  obtain ⟨ad257, A257_0, c257_0, e257, hx257_0, hl257_0, hi257_0⟩ := at_L3 HR248_3.out x8_4 p257 q257
                  obtain rfl : ad255 = ad257 := (by injection e257)
                  replace hx257_0 := bc HB.out hx257_0
                  have HR257_0 := Aside0.mk hi257_0
                  have HC257_0 := Aside0.mk hl257_0
                  clear hi257_0 hl257_0
                  replace p257 := eq_true p257
                  replace q257 := eq_true q257
                  try go_wp2
                  go_roundg k5
                  case measure => have := HJ2.out; have := HK2.out; have := HJ21.out; have := HK4.out; have := HK5.out; omega
                  case rel => exact ⟨(wrap64 (x9_5 + 1)), (by first | rfl | (simp; done) | (simp [*]; done)), H', ⟨by have := HJ2.out; have := HK2.out; have := HJ21.out; have := HK4.out; have := HK5.out; omega⟩, ⟨by (with_reducible repeat (first | refine blk_drewN ?_ _ | refine blk_drew ?_ | refine blk_alloc ?_ _)); exact BK245.out⟩, ⟨by (with_reducible repeat (first | refine blk_drewN ?_ _ | refine blk_drew ?_ | refine blk_alloc ?_ _)); exact BK246.out⟩, ⟨by (with_reducible repeat (first | refine blk_drewN ?_ _ | refine blk_drew ?_ | refine blk_alloc ?_ _)); exact BK250.out⟩, ⟨by (with_reducible repeat (first | refine blk_drewN ?_ _ | refine blk_drew ?_ | refine blk_alloc ?_ _)); exact BK251.out⟩, ⟨bl⟩⟩
                ·
                 rw [if_neg c136] at H
                 exact absurd H (by simp)
               ·
                rw [if_neg c135] at H
                exact absurd H (by simp)
              ·
               rw [if_neg c134] at H
               exact absurd H (by simp)
             ·
              rw [if_neg c133] at H
              have c133b0 : decide (x9_5 < ((rd_L3 ((rd_T44 l0_0 x5_2).f3) x8_4).length : Int)) = false := decide_eq_false c133
              clear c133
              have H' := Aside0.mk H
              clear H
              have hnb148 := NB250_245.out
              have hnc148 := NB245_250.out
              have hnb149 := NB250_246.out
              have hnc149 := NB246_250.out
              have hnb150 := NB250_251.out
              have hnc150 := NB251_250.out
              obtain ⟨hcz151_0, hcz151_1, hcz151_2, hcz151_3, hcz151_4, hcz151_5, hcz151_6, hcz151_7, hcz151_8⟩ := cells9 BK250.out
              obtain ⟨hfz151_0, hfz151_1, hfz151_2, hfz151_3, hfz151_4, hfz151_5, hfz151_6, hfz151_7, hfz151_8⟩ := frz9 BK250.out
              have p257 : 0 ≤ (x8_4 : Int) := of_decide_eq_true (by first | (with_reducible assumption) | assumption)
              have q257 : x8_4 < (((rd_T44 l0_0 x5_2).f3).length : Int) := of_decide_eq_true (by first | (with_reducible assumption) | assumption)
              obtain ⟨ad257, A257_0, c257_0, e257, hx257_0, hl257_0, hi257_0⟩ := at_L3 HR248_3.out x8_4 p257 q257
              obtain rfl : ad255 = ad257 := (by injection e257)
              replace hx257_0 := bc HB.out hx257_0
              have HR257_0 := Aside0.mk hi257_0
              have HC257_0 := Aside0.mk hl257_0
              clear hi257_0 hl257_0
              replace p257 := eq_true p257
              replace q257 := eq_true q257
              go_wp2
              go_roundg k5
              case measure => have := HJ2.out; have := HK2.out; have := HJ21.out; have := HK4.out; have := HK5.out; omega
              case rel => exact ⟨(wrap64 (x8_4 + 1)), (by first | rfl | (simp; done) | (simp [*]; done)), H', ⟨by have := HJ2.out; have := HK2.out; have := HJ21.out; have := HK4.out; have := HK5.out; omega⟩, ⟨by (with_reducible repeat (first | refine blk_drewN ?_ _ | refine blk_drew ?_ | refine blk_alloc ?_ _)); exact BK245.out⟩, ⟨by (with_reducible repeat (first | refine blk_drewN ?_ _ | refine blk_drew ?_ | refine blk_alloc ?_ _)); exact BK246.out⟩, ⟨by (with_reducible repeat (first | refine blk_drewN ?_ _ | refine blk_drew ?_ | refine blk_alloc ?_ _)); exact BK250.out⟩, ⟨by (with_reducible repeat (first | refine blk_drewN ?_ _ | refine blk_drew ?_ | refine blk_alloc ?_ _)); exact BK251.out⟩, ⟨bl⟩⟩
            ·
             rw [if_neg c132] at H
             exact absurd H (by simp)
           ·
            rw [if_neg c131] at H
            exact absurd H (by simp)
        ·
         rw [if_neg c125] at H
         have c125b0 : (((rd_L3 ((rd_T44 l0_0 x5_2).f3) x8_4).length : Int) == ((rd_L3 ((rd_T44 l1_0 x5_2).f3) x8_4).length : Int)) = false := beq_eq_false_iff_ne.mpr c125
         have c125b1 : (((rd_L3 ((rd_T44 l0_0 x5_2).f3) x8_4).length : Int) != ((rd_L3 ((rd_T44 l1_0 x5_2).f3) x8_4).length : Int)) = true := bne_iff_ne.mpr c125
         have c125b2 : ((rd_L3 ((rd_T44 l0_0 x5_2).f3) x8_4).length == (rd_L3 ((rd_T44 l1_0 x5_2).f3) x8_4).length) = false := by first | simpa using c125 | (simp at c125 ⊢; omega)
         obtain rfl := Option.some.inj H
         have hnb152 := NB250_245.out
         have hnc152 := NB245_250.out
         have hnb153 := NB250_246.out
         have hnc153 := NB246_250.out
         have hnb154 := NB250_251.out
         have hnc154 := NB251_250.out
         obtain ⟨hcz155_0, hcz155_1, hcz155_2, hcz155_3, hcz155_4, hcz155_5, hcz155_6, hcz155_7, hcz155_8⟩ := cells9 BK250.out
         obtain ⟨hfz155_0, hfz155_1, hfz155_2, hfz155_3, hfz155_4, hfz155_5, hfz155_6, hfz155_7, hfz155_8⟩ := frz9 BK250.out
         try go_wp2
         go_ret
         exact ⟨erq, by repeat (first | (with_reducible first | exact HB.out | apply below_alloc | apply pw_below_drewN | apply below_drew1 | refine below_set ?_ GE245.out | refine below_set ?_ GE246.out | refine below_set ?_ GE250.out | refine below_set ?_ GE251.out) | exact HB.out)⟩
       ·
        rw [if_neg c124] at H
        exact absurd H (by simp)
      ·
       rw [if_neg c123] at H
       exact absurd H (by simp)
     ·
      rw [if_neg c122] at H
      have c122b0 : decide (x8_4 < (((rd_T44 l0_0 x5_2).f3).length : Int)) = false := decide_eq_false c122
      clear c122
      have H' := Aside0.mk H
      clear H
      have hnb157 := NB250_245.out
      have hnc157 := NB245_250.out
      have hnb158 := NB250_246.out
      have hnc158 := NB246_250.out
      have hnb159 := NB250_251.out
      have hnc159 := NB251_250.out
      obtain ⟨hcz160_0, hcz160_1, hcz160_2, hcz160_3, hcz160_4, hcz160_5, hcz160_6, hcz160_7, hcz160_8⟩ := cells9 BK250.out
      obtain ⟨hfz160_0, hfz160_1, hfz160_2, hfz160_3, hfz160_4, hfz160_5, hfz160_6, hfz160_7, hfz160_8⟩ := frz9 BK250.out
      go_wp2
      go_roundg k4
      case measure => have := HJ2.out; have := HK2.out; have := HJ21.out; have := HK4.out; omega
      case rel => exact ⟨(wrap64 (x5_2 + 1)), (by first | rfl | (simp; done) | (simp [*]; done)), H', ⟨by have := HJ2.out; have := HK2.out; have := HJ21.out; have := HK4.out; omega⟩, ⟨by (with_reducible repeat (first | refine blk_drewN ?_ _ | refine blk_drew ?_ | refine blk_alloc ?_ _)); exact BK245.out⟩, ⟨by (with_reducible repeat (first | refine blk_drewN ?_ _ | refine blk_drew ?_ | refine blk_alloc ?_ _)); exact BK246.out⟩, ⟨bl⟩⟩
end Go.Proofs.Ytbdpnecnnokkkaa.PSheetDecodes
