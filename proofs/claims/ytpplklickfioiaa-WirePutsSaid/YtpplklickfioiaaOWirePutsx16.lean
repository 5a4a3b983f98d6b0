/- One piece of the machine's side of the law, written by a program over the translation; Lean checks it. -/
import Derived.Test.YtpplklickfioiaaOWirePutsx0
import Derived.Test.YtpplklickfioiaaOWirePutsx15
import Derived.Test.YtpplklickfioiaaShort
namespace Go.Proofs.Ytpplklickfioiaa.PWirePuts
open Go.RowKit Go.Proofs.YtpplklickfioiaaW.PrintWords Go.Proofs.YtpplklickfioiaaW.PrintLast Go.Proofs.YtpplklickfioiaaW.PrintMore
attribute [local go_sem] max2_int min2_int max_two min_two max_three min_three max_four min_four   -- for this text's walks alone
set_option linter.unusedVariables false
set_option linter.unusedSimpArgs false

/-! ### runnelref03_Bytes: function 57 -/
def runnelref03_Bytes.l0 : Nat → List (S103) → List Int → Int → Option (List Int)
 | 0, _, _, _ => none
 | k + 1, x0, x3, x4 => if x4 < (x0.length : Int) then (if 0 ≤ x4 then (if ((rd_T103 x0 x4).f0) = 0 then (if x3.length < 140737488355328 then ((some (x3 ++ [0] : List Int)).bind fun y450 => ((runnelref01_Signed.f ((rd_T103 x0 x4).f1)).bind fun t454 => ((runnelref01_Bytes.f k t454).bind fun t455 => (if y450.length + t455.length < 140737488355328 then (runnelref03_Bytes.l0 k x0 (y450 ++ t455) (wrap64 (x4 + 1))) else (none))))) else (none)) else (if x3.length < 140737488355328 then ((some (x3 ++ [1] : List Int)).bind fun y461 => ((runnelref01_Text.f k ((rd_T103 x0 x4).f2)).bind fun t465 => (if y461.length + t465.length < 140737488355328 then (runnelref03_Bytes.l0 k x0 (y461 ++ t465) (wrap64 (x4 + 1))) else (none)))) else (none))) else (none)) else (some x3)
def runnelref03_Bytes.f (k : Nat) (l0 : List (S103)) : Option (List Int) := (runnelref01_Bytes.f k (IntKind.u64.wrap ((l0.length : Int)))).bind fun t446 => (runnelref03_Bytes.l0 k l0 t446 0)
def runnelref03_Bytes.T6 : Bool × List (List Nat × List Nat) := (true, [([], []), ([], []), ([0, 1], [0, 1]), ([], []), ([], []), ([3, 4], [3, 4]), ([5], [5]), ([6], [6]), ([7, 2], [7]), ([8, 8], [8]), ([2, 9, 9], [2, 9]), ([10, 10, 0, 1, 2, 3, 4, 5, 6, 7, 8, 9, 10], [0, 10])])
def runnelref03_Bytes.B6 : List Nat := [0, 0, 3, 0, 0, 24, 56, 120, 255, 511, 1023, 2047]
theorem runnelref03_Bytes.tab6 : rtab .any (opsOf Try.f57 6) = runnelref03_Bytes.T6 := by kernel_rfl
theorem runnelref03_Bytes.bits6 : waitsOk runnelref03_Bytes.T6.2 runnelref03_Bytes.B6 = true := by kernel_rfl
def runnelref03_Bytes.T7 : Bool × List (List Nat × List Nat) := (true, [([], []), ([], []), ([0, 1], [0, 1]), ([], []), ([], []), ([3, 4], [3, 4]), ([5], [5]), ([6], [6]), ([7, 2], [7]), ([2, 8, 8], [2, 8]), ([9, 9, 0, 1, 2, 3, 4, 5, 6, 7, 8, 9], [0, 9])])
def runnelref03_Bytes.B7 : List Nat := [0, 0, 3, 0, 0, 24, 56, 120, 255, 511, 1023]
theorem runnelref03_Bytes.tab7 : rtab .any (opsOf Try.f57 7) = runnelref03_Bytes.T7 := by kernel_rfl
theorem runnelref03_Bytes.bits7 : waitsOk runnelref03_Bytes.T7.2 runnelref03_Bytes.B7 = true := by kernel_rfl
set_option maxHeartbeats 8000000 in
set_option maxRecDepth 100000 in
theorem runnelref03_Bytes.calls (k : Nat) (A0 : Option Addr) (c0 : Nat) (l0 : List (S103)) (r : List Int) (w : World) (hr0 : Kd.C k103 w A0 l0.length l0) (hc0 : l0.length ≤ c0) (h : runnelref03_Bytes.f k l0 = some r) :
  Calls Try.prog 57 #[.slice A0 l0.length c0] w fun e w' => ∃ v0_ : Value, e = .returned (v0_) ∧ Kd.R (Kd.int .u8) 5 w' w.heap.size (fun _ => True) v0_ r ∧ Below w.heap.size w w' := by
 have HR0 := Aside0.mk hr0; have HC0 := Aside0.mk hc0; clear hr0 hc0; have HB := Aside0.mk (Below.refl w.heap.size w); have H : ((runnelref01_Bytes.f k (IntKind.u64.wrap ((l0.length : Int)))).bind fun t446 => (runnelref03_Bytes.l0 k l0 t446 0)) = some r := h; clear h; replace H := Option.bind_eq_some_iff.mp H; obtain ⟨t446, A20, H⟩ := H; replace H : (runnelref03_Bytes.l0 k l0 t446 0) = some r := H; have A2 := Aside0.mk A20; clear A20; have H' := Aside0.mk H; clear H; go_enter Try.func57, Try.ntmps57
 go_wp2_with (first | ((with_reducible refine gate_callee (f := 33) rfl ?_); refine goesL_ (some 8) rfl rfl Try.func33 (by kernel_rfl) rfl #[.int .u64 (IntKind.u64.wrap ((l0.length : Int)))] rfl mpq ?_; (with_reducible refine (runnelref01_Bytes.calls k (IntKind.u64.wrap ((l0.length : Int))) t446 _ A2.out).mono ?_); rintro e w3 ⟨v447, rfl, ho0, hb⟩; refine ⟨_, rfl, ?_⟩; have n0_ := Aside0.mk (Kd.R_lower ho0 (below_size bl)); have n1_ := Aside0.mk (below_step bl hb); clear HB; have HO448 := n0_; have HB := n1_; clear n0_ n1_; (try clear hb); (try clear hb2); (try clear hk); (try clear hi); (try clear ho0)))
 go_loopg [3, 4] k (fun kq v3 v4 w' => ∃ (x3_1 : List Int) (x4_1 : Int), v4 = .int .i64 x4_1 ∧ Aside0 (runnelref03_Bytes.l0 kq l0 x3_1 x4_1 = some r) ∧ Aside0 (kq ≤ k) ∧ Aside0 (Kd.R (Kd.int .u8) 5 w' w.heap.size (fun _ => True) v3 x3_1) ∧ Aside0 (Below w.heap.size w w'))
 case atStart => exact ⟨(t446), (0), rsd, H', ⟨Nat.le_refl _⟩, ⟨rp HO448.out⟩, ⟨bl⟩⟩
 clear H'; obtain ⟨x3_1, x4_1, rfl, HA, HK1, HO_3, HB⟩ := hrel; cases gk with
 | zero => exact absurd HA.out (by simp [runnelref03_Bytes.l0])
 | succ k1 =>
  have H := HA.out; clear HA; simp only [runnelref03_Bytes.l0] at H; by_cases c4 : x4_1 < (l0.length : Int)
  rotate_left
  ·
   rw [if_neg c4] at H; have c4b0 : decide (x4_1 < (l0.length : Int)) = false := decide_eq_false c4; clear c4; obtain rfl := Option.some.inj H; go_wp2
   go_ret
   exact ⟨_, erq, rp HO_3.out, bl⟩

  rw [if_pos c4] at H; have c4b0 : decide (x4_1 < (l0.length : Int)) = true := decide_eq_true c4; clear c4; by_cases c5 : 0 ≤ x4_1
  rotate_left
  · rw [if_neg c5] at H; exact absurd H (by simp)
  rw [if_pos c5] at H; have c5b0 : decide (0 ≤ x4_1) = true := decide_eq_true c5; clear c5; by_cases c6 : ((rd_T103 l0 x4_1).f0) = 0
  rotate_left
  ·
   rw [if_neg c6] at H; have c6b0 : (((rd_T103 l0 x4_1).f0) == 0) = false := beq_eq_false_iff_ne.mpr c6; have c6b1 : (((rd_T103 l0 x4_1).f0) != 0) = true := bne_iff_ne.mpr c6; by_cases c16 : x3_1.length < 140737488355328
   rotate_left
   · rw [if_neg c16] at H; exact absurd H (by simp)
   rw [if_pos c16] at H; have LMc16 := Aside0.mk c16; clear c16; obtain ⟨y461, hy461⟩ : ∃ y_ : List Int, y_ = (x3_1 ++ [1]) := ⟨_, rfl⟩; replace H : ((runnelref01_Text.f k1 ((rd_T103 l0 x4_1).f2)).bind fun t465 => (if y461.length + t465.length < 140737488355328 then (runnelref03_Bytes.l0 k1 l0 (y461 ++ t465) (wrap64 (x4_1 + 1))) else (none))) = some r := by first | (rw [hy461]; with_reducible exact H) | (have H2_ := (Option.bind_some _ _).symm.trans H; rw [hy461]; with_reducible exact H2_) | (have H2_ := (Option.bind_some _ _).symm.trans H; with_reducible exact H2_) | with_reducible exact H | (rw [hy461]; exact H) | exact H
   have Ny461 := Aside0.mk hy461; clear hy461; replace H := Option.bind_eq_some_iff.mp H; obtain ⟨t465, A170, H⟩ := H; replace H : (if y461.length + t465.length < 140737488355328 then (runnelref03_Bytes.l0 k1 l0 (y461 ++ t465) (wrap64 (x4_1 + 1))) else (none)) = some r := H; have A17 := Aside0.mk A170; clear A170; by_cases c18 : y461.length + t465.length < 140737488355328
   rotate_left
   · rw [if_neg c18] at H; exact absurd H (by simp)
   rw [if_pos c18] at H; have LMc18 := Aside0.mk c18; clear c18; obtain ⟨y468, hy468⟩ : ∃ y_ : List Int, y_ = (y461 ++ t465) := ⟨_, rfl⟩; replace H : (runnelref03_Bytes.l0 k1 l0 y468 (wrap64 (x4_1 + 1))) = some r := by first | (rw [hy468]; with_reducible exact H) | (have H2_ := (Option.bind_some _ _).symm.trans H; rw [hy468]; with_reducible exact H2_) | (have H2_ := (Option.bind_some _ _).symm.trans H; with_reducible exact H2_) | with_reducible exact H | (rw [hy468]; exact H) | exact H
   have Ny468 := Aside0.mk hy468; clear hy468; have H' := Aside0.mk H; clear H; have p449 : 0 ≤ (x4_1 : Int) := of_decide_eq_true asm; have q449 : x4_1 < (l0.length : Int) := of_decide_eq_true asm; obtain ⟨ad449, e449, hx449_0, hx449_1, hx449_2⟩ := at_T103 HR0.out x4_1 p449 q449; cases e449
   replace hx449_0 := bc HB.out hx449_0; replace hx449_1 := bc HB.out hx449_1; replace hx449_2 := bc HB.out hx449_2; replace p449 := eq_true p449; replace q449 := eq_true q449; try go_wp2
   have n0_ := Aside0.mk (Kd.R_drew HO_3.out); have n1_ := Aside0.mk (below_drew1 HB.out); clear HO_3; clear HB; have HO_3 := n0_; have HB := n1_; clear n0_ n1_; have p464 : 0 ≤ (x4_1 : Int) := of_decide_eq_true asm; have q464 : x4_1 < (l0.length : Int) := of_decide_eq_true asm; obtain ⟨ad464, e464, hx464_0, hx464_1, hx464_2⟩ := at_T103 HR0.out x4_1 p464 q464; have hw464_2 := hx464_2; have hw464_1 := hx464_1; have hw464_0 := hx464_0; obtain rfl : ad449 = ad464 := (by injection e464); replace hx464_0 := bc HB.out hx464_0; replace hx464_1 := bc HB.out hx464_1; replace hx464_2 := bc HB.out hx464_2; replace p464 := eq_true p464; replace q464 := eq_true q464; refine start_ (n := 11) (S := fun w' => w'.cell? (ad449.add ((x4_1).toNat * 3)) = some (.int .i64 ((rd_T103 l0 x4_1).f0)) ∧ w'.cell? ⟨(ad449.add ((x4_1).toNat * 3)).block, (ad449.add ((x4_1).toNat * 3)).off + 1, none⟩ = some (.int .i64 ((rd_T103 l0 x4_1).f1)) ∧ w'.cell? ⟨(ad449.add ((x4_1).toNat * 3)).block, (ad449.add ((x4_1).toNat * 3)).off + 2, none⟩ = some (.string ((rd_T103 l0 x4_1).f2))) (ds := []) #[false, false, false, false, false, false, false, false, false, false, false] (by kernel_rfl) rfl rfl ⟨(bc HB.out hw464_0 :), (bc HB.out hw464_1 :), (bc HB.out hw464_2 :)⟩ (fun hHeld => ?_); refine with_tabW runnelref03_Bytes.tab7 runnelref03_Bytes.bits7 (fun HT_ HW_ => ?_)
   generalize wr.drew = w19 at HO_3 HB hx464_0 hx464_1 hx464_2 hHeld ⊢; refine pure_ (i := 0) (N := some 32) (v := ?_) (a' := ?_) (bs 11 1) rfl rfl (any_of HT_.out (by kernel_rfl)) (fun _ _ _ h => h) (Or.inl ⟨by rfl, ?_⟩) ?_ ?_; rotate_left
   · intro w'; go_simp; with_reducible rfl
   rotate_left
   · exact nrm
   refine pure_ (i := 3) (N := some 35) (v := ?_) (a' := ?_) (bs 11 9) rfl rfl (any_of HT_.out (by kernel_rfl)) (fun _ _ _ h => h) (Or.inl ⟨by rfl, ?_⟩) ?_ ?_; rotate_left
   · intro w'; go_simp; with_reducible rfl
   rotate_left
   · exact nrm
   refine pure_ (i := 4) (N := some 36) (v := ?_) (a' := ?_) (bs 11 25) rfl rfl (any_of HT_.out (by kernel_rfl)) (fun _ _ _ h => h) (Or.inl ⟨by rfl, ?_⟩) ?_ ?_; rotate_left
   · intro w'; go_simp; with_reducible rfl
   rotate_left
   · exact nrm
   refine pure_ (i := 5) (N := some 37) (v := ?_) (a' := ?_) (bs 11 57) rfl rfl (any_of HT_.out (by kernel_rfl)) (fun _ _ _ h => h) (Or.inl ⟨by rfl, ?_⟩) ?_ ?_; rotate_left
   · intro w'; go_simp; with_reducible rfl
   rotate_left
   · exact nrm
   refine pure_ (i := 6) (N := some 38) (v := ?_) (a' := ?_) (bs 11 121) rfl rfl (any_of HT_.out (by kernel_rfl)) (fun _ _ _ h => h) (Or.inl ⟨by rfl, ?_⟩) ?_ ?_; rotate_left
   · intro w'; go_simp; with_reducible rfl
   rotate_left
   · exact nrm
   refine take_ (i := 7) (N := some 39) (v := ?_) (a' := ?_) (bs 11 249) rfl rfl (take_ofW HT_.out HW_.out (by kernel_rfl)) (fun _ _ _ h => h) (Or.inl ⟨by rfl, ?_⟩) hHeld ?_ ?_; rotate_left
   · rintro w' ⟨s0, s1, s2⟩; go_simp; with_reducible rfl
   rotate_left
   · exact nrm
   refine one_ (i := 1) (N := some 33) (bs 11 251) rfl rfl (one_of HT_.out (by kernel_rfl)) (by decide) (fun K hK => ?_); refine value_ (w1 := ?_) (v := ?_) (by rfl) rfl ?_ ?_; rotate_left 2
   ·
    go_simp; constructor
    · rfl
    · rfl
   refine hK.out _ _ ⟨(World.cell?_alloc_lt _ _ _ (World.block_lt_of_cell? _ _ ((bc HB.out hw464_0 :)))).trans ((bc HB.out hw464_0 :)), (World.cell?_alloc_lt _ _ _ (World.block_lt_of_cell? _ _ ((bc HB.out hw464_1 :)))).trans ((bc HB.out hw464_1 :)), (World.cell?_alloc_lt _ _ _ (World.block_lt_of_cell? _ _ ((bc HB.out hw464_2 :)))).trans ((bc HB.out hw464_2 :))⟩ (fun hHeld => ?_); clear hK K; refine norm_ (a' := ?_) ?_ ?_; rotate_left
   · show Act.put _ (some 33) _ = _; simp only [Act.put, List.setIfInBounds_toArray, List.set_cons_zero, List.set_cons_succ, i64_w, i32_w]; rfl
   refine one_ (i := 2) (N := some 34) (bs 11 255) rfl rfl (one_of HT_.out (by kernel_rfl)) (by decide) (fun K hK => ?_); refine Kd.R_append_step (Kd.int .u8) (w0 := w) w.heap.size (by rfl) (.tmp 32) (.tmp 33) 22 5 (.int .u8 0) 1 rfl Try.underlying22 info5 rfl (by decide) (by omega) u3 x3_1 1 [.int .u8 1] (fun _ => True) (fun _ => False) rfl rfl ?aP (fun _ hk => hk.elim) ?aF ?aO ?aB ?aS ?aL ?_; (case aP => exact rfl); (case aB => exact bl); (case aF => exact (fun _ _ => trivial)); (case aO => exact (rp HO_3.out)); (case aS => exact (below_size bl)); (case aL => have := LMc16.out; omega); intro v462 w20 ho hb hg hat; rw [← Ny461.out] at ho; have n0_ := Aside0.mk (hb); have n1_ := Aside0.mk (ho); clear HB; clear HO_3; have HB := n0_; have HO463 := n1_; clear n0_ n1_; clear ho hb hg hat; refine hK.out _ _ ⟨(bc HB.out hw464_0 :), (bc HB.out hw464_1 :), (bc HB.out hw464_2 :)⟩ (fun hHeld => ?_); clear hK K; refine norm_ (a' := ?_) ?_ ?_; rotate_left
   · show Act.put _ (some 34) _ = _; simp only [Act.put, List.setIfInBounds_toArray, List.set_cons_zero, List.set_cons_succ, i64_w, i32_w]; rfl
   refine one_ (i := 8) (N := some 40) (bs 11 511) rfl rfl (one_of HT_.out (by kernel_rfl)) (by decide) (fun K hK => ?_); refine goes_ Try.func55 (by kernel_rfl) rfl #[.string ((rd_T103 l0 x4_1).f2)] (by rfl) rfl rfl mpq ?_; with_reducible refine (runnelref01_Text.calls k1 ((rd_T103 l0 x4_1).f2) t465 _ A17.out).mono ?_
   rintro e w21 ⟨v466, rfl, ho0, hb⟩; refine ⟨_, rfl, ?_⟩; have n0_ := Aside0.mk (Kd.R_elder' (rp HO463.out) (Kd.R_base ho0) hb); have n1_ := Aside0.mk (Kd.R_lower (Kd.R_new' ho0 (Kd.R_lt (rp HO463.out))) (below_size bl)); have n2_ := Aside0.mk (below_step bl hb); clear HO463; clear HB; have HO463 := n0_; have HO467 := n1_; have HB := n2_; clear n0_ n1_ n2_; (try clear hb); (try clear hb2); (try clear hk); (try clear hi); (try clear ho0); obtain ⟨Ao23, co23, eo23⟩ := Kd.R_slice HO467.out; (first | subst eo23 | (injection eo23 with f1_ f2_ f3_; have f4_ := f1_.symm; have f5_ := f3_.symm; clear f1_ f2_ f3_; subst f4_; subst f5_)); refine hK.out _ _ ⟨(bc HB.out hw464_0 :), (bc HB.out hw464_1 :), (bc HB.out hw464_2 :)⟩ (fun hHeld => ?_); clear hK K; refine norm_ (a' := ?_) ?_ ?_; rotate_left
   · show Act.put _ (some 40) _ = _; simp only [Act.put, List.setIfInBounds_toArray, List.set_cons_zero, List.set_cons_succ, i64_w, i32_w]; rfl
   refine one_ (i := 9) (N := some 41) (bs 11 1023) rfl rfl (one_of HT_.out (by kernel_rfl)) (by decide) (fun K hK => ?_); refine Kd.R_append_rows_step (Kd.int .u8) (w0 := w) w.heap.size (by rfl) (.tmp 34) (.tmp 40) 22 5 (.int .u8 0) 1 rfl Try.underlying22 info5 rfl (by decide) (by omega) v462 y461 t465 _ _ _ (fun k_ => some k_ ≠ (.slice Ao23 t465.length co23 : Value).ownBlock) (fun _ => False) rfl rfl ?aO ?aR (fun _ _ h => h) (fun _ h => h.elim) ?aF ?aB ?aS ?aL ?_
   (case aR => exact cp ((Kd.R_reads' HO467.out).2.2)); (case aB => exact bl); (case aF => exact (fun k_ hk => Kd.fresh' (Kd.R_lt (rp HO467.out)) k_ hk)); (case aO => exact (rp (Kd.R_mono HO463.out (fun _ hk => hk.2)))); (case aS => exact (below_size bl)); (case aL => have := LMc18.out; omega); intro v469 w22 ho hb hg hat; rw [← Ny468.out] at ho; have n0_ := Aside0.mk (Kd.R_after (ok := (fun _ => True)) (rp HO467.out) hg hat); have n1_ := Aside0.mk (hb); have n2_ := Aside0.mk (ho); clear HO467; clear HB; clear HO463; have HO467 := n0_; have HB := n1_; have HO470 := n2_; clear n0_ n1_ n2_; clear ho hb hg hat; refine hK.out _ _ ⟨(bc HB.out hw464_0 :), (bc HB.out hw464_1 :), (bc HB.out hw464_2 :)⟩ (fun hHeld => ?_); clear hK K; refine norm_ (a' := ?_) ?_ ?_; rotate_left
   · show Act.put _ (some 41) _ = _; simp only [Act.put, List.setIfInBounds_toArray, List.set_cons_zero, List.set_cons_succ, i64_w, i32_w]; rfl
   refine pure_ (i := 10) (N := some 3) (v := ?_) (a' := ?_) (bs 11 2047) rfl rfl (any_of HT_.out (by kernel_rfl)) (fun _ _ _ h => h) (Or.inl ⟨by rfl, ?_⟩) ?_ ?_; rotate_left
   · intro w'; go_simp; with_reducible rfl
   rotate_left
   · exact nrm
   refine done_ (done_of HT_.out (by kernel_rfl)) ?_; try go_wp2
   go_roundg k1
   case measure => have := HK1.out; omega
   case rel => exact ⟨(y468), (wrap64 (x4_1 + 1)), rsd, H', ⟨by have := HK1.out; omega⟩, ⟨by (with_reducible repeat (first | apply Kd.R_alloc | apply Kd.R_drewN | apply Kd.R_drew)); exact Kd.R_mono HO470.out (fun _ hk => trivial)⟩, ⟨bl⟩⟩
  rw [if_pos c6] at H; have c6b0 : (((rd_T103 l0 x4_1).f0) == 0) = true := beq_iff_eq.mpr c6; have c6b1 : (((rd_T103 l0 x4_1).f0) != 0) = false := bne_eq_false_iff_eq.mpr c6; clear c6; by_cases c7 : x3_1.length < 140737488355328
  rotate_left
  · rw [if_neg c7] at H; exact absurd H (by simp)
  rw [if_pos c7] at H; have LMc7 := Aside0.mk c7; clear c7; obtain ⟨y450, hy450⟩ : ∃ y_ : List Int, y_ = (x3_1 ++ [0]) := ⟨_, rfl⟩; replace H : ((runnelref01_Signed.f ((rd_T103 l0 x4_1).f1)).bind fun t454 => ((runnelref01_Bytes.f k1 t454).bind fun t455 => (if y450.length + t455.length < 140737488355328 then (runnelref03_Bytes.l0 k1 l0 (y450 ++ t455) (wrap64 (x4_1 + 1))) else (none)))) = some r := by first | (rw [hy450]; with_reducible exact H) | (have H2_ := (Option.bind_some _ _).symm.trans H; rw [hy450]; with_reducible exact H2_) | (have H2_ := (Option.bind_some _ _).symm.trans H; with_reducible exact H2_) | with_reducible exact H | (rw [hy450]; exact H) | exact H
  have Ny450 := Aside0.mk hy450; clear hy450; replace H := Option.bind_eq_some_iff.mp H; obtain ⟨t454, A80, H⟩ := H; replace H : ((runnelref01_Bytes.f k1 t454).bind fun t455 => (if y450.length + t455.length < 140737488355328 then (runnelref03_Bytes.l0 k1 l0 (y450 ++ t455) (wrap64 (x4_1 + 1))) else (none))) = some r := H; have A8 := Aside0.mk A80; clear A80; replace H := Option.bind_eq_some_iff.mp H; obtain ⟨t455, A90, H⟩ := H; replace H : (if y450.length + t455.length < 140737488355328 then (runnelref03_Bytes.l0 k1 l0 (y450 ++ t455) (wrap64 (x4_1 + 1))) else (none)) = some r := H; have A9 := Aside0.mk A90; clear A90; by_cases c10 : y450.length + t455.length < 140737488355328
  rotate_left
  · rw [if_neg c10] at H; exact absurd H (by simp)
  rw [if_pos c10] at H; have LMc10 := Aside0.mk c10; clear c10; obtain ⟨y458, hy458⟩ : ∃ y_ : List Int, y_ = (y450 ++ t455) := ⟨_, rfl⟩; replace H : (runnelref03_Bytes.l0 k1 l0 y458 (wrap64 (x4_1 + 1))) = some r := by first | (rw [hy458]; with_reducible exact H) | (have H2_ := (Option.bind_some _ _).symm.trans H; rw [hy458]; with_reducible exact H2_) | (have H2_ := (Option.bind_some _ _).symm.trans H; with_reducible exact H2_) | with_reducible exact H | (rw [hy458]; exact H) | exact H
  have Ny458 := Aside0.mk hy458; clear hy458; have H' := Aside0.mk H; clear H; have p449 : 0 ≤ (x4_1 : Int) := of_decide_eq_true asm; have q449 : x4_1 < (l0.length : Int) := of_decide_eq_true asm; obtain ⟨ad449, e449, hx449_0, hx449_1, hx449_2⟩ := at_T103 HR0.out x4_1 p449 q449; cases e449
  replace hx449_0 := bc HB.out hx449_0; replace hx449_1 := bc HB.out hx449_1; replace hx449_2 := bc HB.out hx449_2; replace p449 := eq_true p449; replace q449 := eq_true q449; try go_wp2
  have n0_ := Aside0.mk (Kd.R_drew HO_3.out); have n1_ := Aside0.mk (below_drew1 HB.out); clear HO_3; clear HB; have HO_3 := n0_; have HB := n1_; clear n0_ n1_; have p453 : 0 ≤ (x4_1 : Int) := of_decide_eq_true asm; have q453 : x4_1 < (l0.length : Int) := of_decide_eq_true asm; obtain ⟨ad453, e453, hx453_0, hx453_1, hx453_2⟩ := at_T103 HR0.out x4_1 p453 q453; have hw453_2 := hx453_2; have hw453_1 := hx453_1; have hw453_0 := hx453_0; obtain rfl : ad449 = ad453 := (by injection e453); replace hx453_0 := bc HB.out hx453_0; replace hx453_1 := bc HB.out hx453_1; replace hx453_2 := bc HB.out hx453_2; replace p453 := eq_true p453; replace q453 := eq_true q453; refine start_ (n := 12) (S := fun w' => w'.cell? (ad449.add ((x4_1).toNat * 3)) = some (.int .i64 ((rd_T103 l0 x4_1).f0)) ∧ w'.cell? ⟨(ad449.add ((x4_1).toNat * 3)).block, (ad449.add ((x4_1).toNat * 3)).off + 1, none⟩ = some (.int .i64 ((rd_T103 l0 x4_1).f1)) ∧ w'.cell? ⟨(ad449.add ((x4_1).toNat * 3)).block, (ad449.add ((x4_1).toNat * 3)).off + 2, none⟩ = some (.string ((rd_T103 l0 x4_1).f2))) (ds := []) #[false, false, false, false, false, false, false, false, false, false, false, false] (by kernel_rfl) rfl rfl ⟨(bc HB.out hw453_0 :), (bc HB.out hw453_1 :), (bc HB.out hw453_2 :)⟩ (fun hHeld => ?_); refine with_tabW runnelref03_Bytes.tab6 runnelref03_Bytes.bits6 (fun HT_ HW_ => ?_)
  generalize wr.drew = w11 at HO_3 HB hx453_0 hx453_1 hx453_2 hHeld ⊢; refine pure_ (i := 0) (N := some 21) (v := ?_) (a' := ?_) (bs 12 1) rfl rfl (any_of HT_.out (by kernel_rfl)) (fun _ _ _ h => h) (Or.inl ⟨by rfl, ?_⟩) ?_ ?_; rotate_left
  · intro w'; go_simp; with_reducible rfl
  rotate_left
  · exact nrm
  refine pure_ (i := 3) (N := some 24) (v := ?_) (a' := ?_) (bs 12 9) rfl rfl (any_of HT_.out (by kernel_rfl)) (fun _ _ _ h => h) (Or.inl ⟨by rfl, ?_⟩) ?_ ?_; rotate_left
  · intro w'; go_simp; with_reducible rfl
  rotate_left
  · exact nrm
  refine pure_ (i := 4) (N := some 25) (v := ?_) (a' := ?_) (bs 12 25) rfl rfl (any_of HT_.out (by kernel_rfl)) (fun _ _ _ h => h) (Or.inl ⟨by rfl, ?_⟩) ?_ ?_; rotate_left
  · intro w'; go_simp; with_reducible rfl
  rotate_left
  · exact nrm
  refine pure_ (i := 5) (N := some 26) (v := ?_) (a' := ?_) (bs 12 57) rfl rfl (any_of HT_.out (by kernel_rfl)) (fun _ _ _ h => h) (Or.inl ⟨by rfl, ?_⟩) ?_ ?_; rotate_left
  · intro w'; go_simp; with_reducible rfl
  rotate_left
  · exact nrm
  refine pure_ (i := 6) (N := some 27) (v := ?_) (a' := ?_) (bs 12 121) rfl rfl (any_of HT_.out (by kernel_rfl)) (fun _ _ _ h => h) (Or.inl ⟨by rfl, ?_⟩) ?_ ?_; rotate_left
  · intro w'; go_simp; with_reducible rfl
  rotate_left
  · exact nrm
  refine take_ (i := 7) (N := some 28) (v := ?_) (a' := ?_) (bs 12 249) rfl rfl (take_ofW HT_.out HW_.out (by kernel_rfl)) (fun _ _ _ h => h) (Or.inl ⟨by rfl, ?_⟩) hHeld ?_ ?_; rotate_left
  · rintro w' ⟨s0, s1, s2⟩; go_simp; with_reducible rfl
  rotate_left
  · exact nrm
  refine one_ (i := 1) (N := some 22) (bs 12 251) rfl rfl (one_of HT_.out (by kernel_rfl)) (by decide) (fun K hK => ?_); refine value_ (w1 := ?_) (v := ?_) (by rfl) rfl ?_ ?_; rotate_left 2
  ·
   go_simp; constructor
   · rfl
   · rfl
  refine hK.out _ _ ⟨(World.cell?_alloc_lt _ _ _ (World.block_lt_of_cell? _ _ ((bc HB.out hw453_0 :)))).trans ((bc HB.out hw453_0 :)), (World.cell?_alloc_lt _ _ _ (World.block_lt_of_cell? _ _ ((bc HB.out hw453_1 :)))).trans ((bc HB.out hw453_1 :)), (World.cell?_alloc_lt _ _ _ (World.block_lt_of_cell? _ _ ((bc HB.out hw453_2 :)))).trans ((bc HB.out hw453_2 :))⟩ (fun hHeld => ?_); clear hK K; refine norm_ (a' := ?_) ?_ ?_; rotate_left
  · show Act.put _ (some 22) _ = _; simp only [Act.put, List.setIfInBounds_toArray, List.set_cons_zero, List.set_cons_succ, i64_w, i32_w]; rfl
  refine one_ (i := 2) (N := some 23) (bs 12 255) rfl rfl (one_of HT_.out (by kernel_rfl)) (by decide) (fun K hK => ?_); refine Kd.R_append_step (Kd.int .u8) (w0 := w) w.heap.size (by rfl) (.tmp 21) (.tmp 22) 22 5 (.int .u8 0) 1 rfl Try.underlying22 info5 rfl (by decide) (by omega) u3 x3_1 0 [.int .u8 0] (fun _ => True) (fun _ => False) rfl rfl ?aP (fun _ hk => hk.elim) ?aF ?aO ?aB ?aS ?aL ?_; (case aP => exact rfl); (case aB => exact bl); (case aF => exact (fun _ _ => trivial)); (case aO => exact (rp HO_3.out)); (case aS => exact (below_size bl)); (case aL => have := LMc7.out; omega); intro v451 w12 ho hb hg hat; rw [← Ny450.out] at ho; have n0_ := Aside0.mk (hb); have n1_ := Aside0.mk (ho); clear HB; clear HO_3; have HB := n0_; have HO452 := n1_; clear n0_ n1_; clear ho hb hg hat; refine hK.out _ _ ⟨(bc HB.out hw453_0 :), (bc HB.out hw453_1 :), (bc HB.out hw453_2 :)⟩ (fun hHeld => ?_); clear hK K; refine norm_ (a' := ?_) ?_ ?_; rotate_left
  · show Act.put _ (some 23) _ = _; simp only [Act.put, List.setIfInBounds_toArray, List.set_cons_zero, List.set_cons_succ, i64_w, i32_w]; rfl
  refine one_ (i := 8) (N := some 29) (bs 12 511) rfl rfl (one_of HT_.out (by kernel_rfl)) (by decide) (fun K hK => ?_); refine goes_ Try.func69 (by kernel_rfl) rfl #[.int .i64 ((rd_T103 l0 x4_1).f1)] (by rfl) rfl rfl mpq ?_; with_reducible refine (runnelref01_Signed.calls ((rd_T103 l0 x4_1).f1) t454 _ A8.out).mono ?_
  rintro e w' ⟨rfl, ⟨nd, rfl⟩⟩; refine ⟨_, rfl, ?_⟩; refine hK.out _ _ ⟨(bc HB.out hw453_0 :), (bc HB.out hw453_1 :), (bc HB.out hw453_2 :)⟩ (fun hHeld => ?_); clear hK K; refine norm_ (a' := ?_) ?_ ?_; rotate_left
  · show Act.put _ (some 29) _ = _; simp only [Act.put, List.setIfInBounds_toArray, List.set_cons_zero, List.set_cons_succ, i64_w, i32_w]; rfl
  refine one_ (i := 9) (N := some 30) (bs 12 1023) rfl rfl (one_of HT_.out (by kernel_rfl)) (by decide) (fun K hK => ?_); refine goes_ Try.func33 (by kernel_rfl) rfl #[.int .u64 t454] (by rfl) rfl rfl mpq ?_; with_reducible refine (runnelref01_Bytes.calls k1 t454 t455 _ A9.out).mono ?_
  rintro e w13 ⟨v456, rfl, ho0, hb⟩; refine ⟨_, rfl, ?_⟩; have n0_ := Aside0.mk (Kd.R_elder' (rp HO452.out) (Kd.R_base ho0) hb); have n1_ := Aside0.mk (Kd.R_lower (Kd.R_new' ho0 (Kd.R_lt (rp HO452.out))) (below_size bl)); have n2_ := Aside0.mk (below_step bl hb); clear HO452; clear HB; have HO452 := n0_; have HO457 := n1_; have HB := n2_; clear n0_ n1_ n2_; (try clear hb); (try clear hb2); (try clear hk); (try clear hi); (try clear ho0); obtain ⟨Ao15, co15, eo15⟩ := Kd.R_slice HO457.out; (first | subst eo15 | (injection eo15 with f1_ f2_ f3_; have f4_ := f1_.symm; have f5_ := f3_.symm; clear f1_ f2_ f3_; subst f4_; subst f5_)); refine hK.out _ _ ⟨(bc HB.out hw453_0 :), (bc HB.out hw453_1 :), (bc HB.out hw453_2 :)⟩ (fun hHeld => ?_); clear hK K; refine norm_ (a' := ?_) ?_ ?_; rotate_left
  · show Act.put _ (some 30) _ = _; simp only [Act.put, List.setIfInBounds_toArray, List.set_cons_zero, List.set_cons_succ, i64_w, i32_w]; rfl
  refine one_ (i := 10) (N := some 31) (bs 12 2047) rfl rfl (one_of HT_.out (by kernel_rfl)) (by decide) (fun K hK => ?_); refine Kd.R_append_rows_step (Kd.int .u8) (w0 := w) w.heap.size (by rfl) (.tmp 23) (.tmp 30) 22 5 (.int .u8 0) 1 rfl Try.underlying22 info5 rfl (by decide) (by omega) v451 y450 t455 _ _ _ (fun k_ => some k_ ≠ (.slice Ao15 t455.length co15 : Value).ownBlock) (fun _ => False) rfl rfl ?aO ?aR (fun _ _ h => h) (fun _ h => h.elim) ?aF ?aB ?aS ?aL ?_
  (case aR => exact cp ((Kd.R_reads' HO457.out).2.2)); (case aB => exact bl); (case aF => exact (fun k_ hk => Kd.fresh' (Kd.R_lt (rp HO457.out)) k_ hk)); (case aO => exact (rp (Kd.R_mono HO452.out (fun _ hk => hk.2)))); (case aS => exact (below_size bl)); (case aL => have := LMc10.out; omega); intro v459 w14 ho hb hg hat; rw [← Ny458.out] at ho; have n0_ := Aside0.mk (Kd.R_after (ok := (fun _ => True)) (rp HO457.out) hg hat); have n1_ := Aside0.mk (hb); have n2_ := Aside0.mk (ho); clear HO457; clear HB; clear HO452; have HO457 := n0_; have HB := n1_; have HO460 := n2_; clear n0_ n1_ n2_; clear ho hb hg hat; refine hK.out _ _ ⟨(bc HB.out hw453_0 :), (bc HB.out hw453_1 :), (bc HB.out hw453_2 :)⟩ (fun hHeld => ?_); clear hK K; refine norm_ (a' := ?_) ?_ ?_; rotate_left
  · show Act.put _ (some 31) _ = _; simp only [Act.put, List.setIfInBounds_toArray, List.set_cons_zero, List.set_cons_succ, i64_w, i32_w]; rfl
  refine pure_ (i := 11) (N := some 3) (v := ?_) (a' := ?_) (bs 12 4095) rfl rfl (any_of HT_.out (by kernel_rfl)) (fun _ _ _ h => h) (Or.inl ⟨by rfl, ?_⟩) ?_ ?_; rotate_left
  · intro w'; go_simp; with_reducible rfl
  rotate_left
  · exact nrm
  refine done_ (done_of HT_.out (by kernel_rfl)) ?_; try go_wp2
  go_roundg k1
  case measure => have := HK1.out; omega
  case rel => exact ⟨(y458), (wrap64 (x4_1 + 1)), rsd, H', ⟨by have := HK1.out; omega⟩, ⟨by (with_reducible repeat (first | apply Kd.R_alloc | apply Kd.R_drewN | apply Kd.R_drew)); exact Kd.R_mono HO460.out (fun _ hk => trivial)⟩, ⟨bl⟩⟩
end Go.Proofs.Ytpplklickfioiaa.PWirePuts
