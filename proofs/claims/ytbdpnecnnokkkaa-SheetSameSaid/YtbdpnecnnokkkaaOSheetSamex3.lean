/- One piece of the machine's side of the law, written by a program over the translation; Lean checks it. -/
import Derived.Test.YtbdpnecnnokkkaaOSheetSamex0
import Derived.Test.YtbdpnecnnokkkaaOSheetSamex2
namespace Go.Proofs.Ytbdpnecnnokkkaa.PSheetSame
open Go.RowKit Go.Proofs.YtbdpnecnnokkkaaW.PrintWords Go.Proofs.YtbdpnecnnokkkaaW.PrintLast Go.Proofs.YtbdpnecnnokkkaaW.PrintMore
attribute [local go_sem] max2_int min2_int max_two min_two max_three min_three max_four min_four   -- for this text's walks alone
set_option linter.unusedVariables false
set_option linter.unusedSimpArgs false

/-! ### runnelref16_Long: function 6 -/
mutual
def runnelref16_Long.j0 : Nat → Bool → List (S44) → List Int → Int → Option (Bool)
  | 0, _, _, _, _ => none
  | k + 1, x15, x103000, x103001, x103002 => if x15 = true then (some true) else (runnelref16_Long.l0 k 0 x103000 x103001 x103002)
def runnelref16_Long.l0 : Nat → Int → List (S44) → List Int → Int → Option (Bool)
  | 0, _, _, _, _ => none
  | k + 1, x3, x103000, x103001, x103002 => if x3 < (x103000.length : Int) then (if 0 ≤ x3 then (if (((rd_T44 x103000 x3).f1).length : Int) > 20 then (runnelref16_Long.j2 k x3 true x103000 x103001 x103002 ((rd_T44 x103000 x3).f0) ((rd_T44 x103000 x3).f1) ((rd_T44 x103000 x3).f2) ((rd_T44 x103000 x3).f3) ((rd_T44 x103000 x3).f4) ((rd_T44 x103000 x3).f5) ((rd_T44 x103000 x3).f6) ((rd_T44 x103000 x3).f7) ((rd_T44 x103000 x3).f8)) else (if (((rd_T44 x103000 x3).f2).length : Int) > 30 then (runnelref16_Long.j2 k x3 true x103000 x103001 x103002 ((rd_T44 x103000 x3).f0) ((rd_T44 x103000 x3).f1) ((rd_T44 x103000 x3).f2) ((rd_T44 x103000 x3).f3) ((rd_T44 x103000 x3).f4) ((rd_T44 x103000 x3).f5) ((rd_T44 x103000 x3).f6) ((rd_T44 x103000 x3).f7) ((rd_T44 x103000 x3).f8)) else (if (((rd_T44 x103000 x3).f3).length : Int) > 30 then (runnelref16_Long.j2 k x3 true x103000 x103001 x103002 ((rd_T44 x103000 x3).f0) ((rd_T44 x103000 x3).f1) ((rd_T44 x103000 x3).f2) ((rd_T44 x103000 x3).f3) ((rd_T44 x103000 x3).f4) ((rd_T44 x103000 x3).f5) ((rd_T44 x103000 x3).f6) ((rd_T44 x103000 x3).f7) ((rd_T44 x103000 x3).f8)) else (runnelref16_Long.j2 k x3 (decide ((((rd_T44 x103000 x3).f4).length : Int) > 30)) x103000 x103001 x103002 ((rd_T44 x103000 x3).f0) ((rd_T44 x103000 x3).f1) ((rd_T44 x103000 x3).f2) ((rd_T44 x103000 x3).f3) ((rd_T44 x103000 x3).f4) ((rd_T44 x103000 x3).f5) ((rd_T44 x103000 x3).f6) ((rd_T44 x103000 x3).f7) ((rd_T44 x103000 x3).f8))))) else (none)) else (some false)
def runnelref16_Long.j2 : Nat → Int → Bool → List (S44) → List Int → Int → Int → List Int → List Int → List (List (S52)) → List Int → Int → Int → Int → Int → Option (Bool)
  | 0, _, _, _, _, _, _, _, _, _, _, _, _, _, _ => none
  | k + 1, x3, x49, x103000, x103001, x103002, x105000, x105001, x105002, x105003, x105004, x105005, x105006, x105007, x105008 => if x49 = true then (some true) else (runnelref16_Long.l1 k x3 0 x103000 x103001 x103002 x105000 x105001 x105002 x105003 x105004 x105005 x105006 x105007 x105008)
def runnelref16_Long.l1 : Nat → Int → Int → List (S44) → List Int → Int → Int → List Int → List Int → List (List (S52)) → List Int → Int → Int → Int → Int → Option (Bool)
  | 0, _, _, _, _, _, _, _, _, _, _, _, _, _, _ => none
  | k + 1, x3, x5, x103000, x103001, x103002, x105000, x105001, x105002, x105003, x105004, x105005, x105006, x105007, x105008 => if x5 < (x105003.length : Int) then (if 0 ≤ x5 then ((runnelref08_Long.f k (rd_L4 x105003 x5)).bind fun t106 => (if t106 = true then (some true) else (runnelref16_Long.l1 k x3 (wrap64 (x5 + 1)) x103000 x103001 x103002 x105000 x105001 x105002 x105003 x105004 x105005 x105006 x105007 x105008))) else (none)) else (runnelref16_Long.l0 k (wrap64 (x3 + 1)) x103000 x103001 x103002)
end
def runnelref16_Long.f (k : Nat) (l0_0 : List (S44)) (l0_1 : List Int) (a0_2 : Int) : Option (Bool) := if (l0_0.length : Int) > 70 then (runnelref16_Long.j0 k true l0_0 l0_1 a0_2) else (runnelref16_Long.j0 k (decide ((l0_1.length : Int) > 20)) l0_0 l0_1 a0_2)
theorem runnelref16_Long.mono_l : ∀ k, (∀ y0 y1 y2 y3, LeO (runnelref16_Long.j0 k y0 y1 y2 y3) (runnelref16_Long.j0 (k + 1) y0 y1 y2 y3)) ∧ (∀ y0 y1 y2 y3, LeO (runnelref16_Long.l0 k y0 y1 y2 y3) (runnelref16_Long.l0 (k + 1) y0 y1 y2 y3)) ∧ (∀ y0 y1 y2 y3 y4 y5 y6 y7 y8 y9 y10 y11 y12 y13, LeO (runnelref16_Long.j2 k y0 y1 y2 y3 y4 y5 y6 y7 y8 y9 y10 y11 y12 y13) (runnelref16_Long.j2 (k + 1) y0 y1 y2 y3 y4 y5 y6 y7 y8 y9 y10 y11 y12 y13)) ∧ (∀ y0 y1 y2 y3 y4 y5 y6 y7 y8 y9 y10 y11 y12 y13, LeO (runnelref16_Long.l1 k y0 y1 y2 y3 y4 y5 y6 y7 y8 y9 y10 y11 y12 y13) (runnelref16_Long.l1 (k + 1) y0 y1 y2 y3 y4 y5 y6 y7 y8 y9 y10 y11 y12 y13))
  | 0 => ⟨fun _ _ _ _ r h => by simp [runnelref16_Long.j0] at h, fun _ _ _ _ r h => by simp [runnelref16_Long.l0] at h, fun _ _ _ _ _ _ _ _ _ _ _ _ _ _ r h => by simp [runnelref16_Long.j2] at h, fun _ _ _ _ _ _ _ _ _ _ _ _ _ _ r h => by simp [runnelref16_Long.l1] at h⟩
  | k + 1 => by
    obtain ⟨ih0, ih1, ih2, ih3⟩ := runnelref16_Long.mono_l k
    refine ⟨?_, ?_, ?_, ?_⟩
    · intro y0 y1 y2 y3
      unfold runnelref16_Long.j0
      repeat' first
      | (with_reducible exact ih0 _ _ _ _)
      | (with_reducible exact ih1 _ _ _ _)
      | (with_reducible exact ih2 _ _ _ _ _ _ _ _ _ _ _ _ _ _)
      | (with_reducible exact ih3 _ _ _ _ _ _ _ _ _ _ _ _ _ _)
      | (with_reducible exact runnelref08_Long.mono _ _)
      | (with_reducible exact LeO.refl _)
      | (with_reducible exact LeO.none _)
      | (with_reducible refine LeO.ite ?_ ?_)
      | (with_reducible refine LeO.bind ?_ (fun _ => ?_))
      | exact ih0 _ _ _ _
      | exact ih1 _ _ _ _
      | exact ih2 _ _ _ _ _ _ _ _ _ _ _ _ _ _
      | exact ih3 _ _ _ _ _ _ _ _ _ _ _ _ _ _
      | exact runnelref08_Long.mono _ _
      | exact LeO.none _
      | refine LeO.ite ?_ ?_
      | refine LeO.bind ?_ (fun _ => ?_)
    · intro y0 y1 y2 y3
      unfold runnelref16_Long.l0
      repeat' first
      | (with_reducible exact ih0 _ _ _ _)
      | (with_reducible exact ih1 _ _ _ _)
      | (with_reducible exact ih2 _ _ _ _ _ _ _ _ _ _ _ _ _ _)
      | (with_reducible exact ih3 _ _ _ _ _ _ _ _ _ _ _ _ _ _)
      | (with_reducible exact runnelref08_Long.mono _ _)
      | (with_reducible exact LeO.refl _)
      | (with_reducible exact LeO.none _)
      | (with_reducible refine LeO.ite ?_ ?_)
      | (with_reducible refine LeO.bind ?_ (fun _ => ?_))
      | exact ih0 _ _ _ _
      | exact ih1 _ _ _ _
      | exact ih2 _ _ _ _ _ _ _ _ _ _ _ _ _ _
      | exact ih3 _ _ _ _ _ _ _ _ _ _ _ _ _ _
      | exact runnelref08_Long.mono _ _
      | exact LeO.none _
      | refine LeO.ite ?_ ?_
      | refine LeO.bind ?_ (fun _ => ?_)
    · intro y0 y1 y2 y3 y4 y5 y6 y7 y8 y9 y10 y11 y12 y13
      unfold runnelref16_Long.j2
      repeat' first
      | (with_reducible exact ih0 _ _ _ _)
      | (with_reducible exact ih1 _ _ _ _)
      | (with_reducible exact ih2 _ _ _ _ _ _ _ _ _ _ _ _ _ _)
      | (with_reducible exact ih3 _ _ _ _ _ _ _ _ _ _ _ _ _ _)
      | (with_reducible exact runnelref08_Long.mono _ _)
      | (with_reducible exact LeO.refl _)
      | (with_reducible exact LeO.none _)
      | (with_reducible refine LeO.ite ?_ ?_)
      | (with_reducible refine LeO.bind ?_ (fun _ => ?_))
      | exact ih0 _ _ _ _
      | exact ih1 _ _ _ _
      | exact ih2 _ _ _ _ _ _ _ _ _ _ _ _ _ _
      | exact ih3 _ _ _ _ _ _ _ _ _ _ _ _ _ _
      | exact runnelref08_Long.mono _ _
      | exact LeO.none _
      | refine LeO.ite ?_ ?_
      | refine LeO.bind ?_ (fun _ => ?_)
    · intro y0 y1 y2 y3 y4 y5 y6 y7 y8 y9 y10 y11 y12 y13
      unfold runnelref16_Long.l1
      repeat' first
      | (with_reducible exact ih0 _ _ _ _)
      | (with_reducible exact ih1 _ _ _ _)
      | (with_reducible exact ih2 _ _ _ _ _ _ _ _ _ _ _ _ _ _)
      | (with_reducible exact ih3 _ _ _ _ _ _ _ _ _ _ _ _ _ _)
      | (with_reducible exact runnelref08_Long.mono _ _)
      | (with_reducible exact LeO.refl _)
      | (with_reducible exact LeO.none _)
      | (with_reducible refine LeO.ite ?_ ?_)
      | (with_reducible refine LeO.bind ?_ (fun _ => ?_))
      | exact ih0 _ _ _ _
      | exact ih1 _ _ _ _
      | exact ih2 _ _ _ _ _ _ _ _ _ _ _ _ _ _
      | exact ih3 _ _ _ _ _ _ _ _ _ _ _ _ _ _
      | exact runnelref08_Long.mono _ _
      | exact LeO.none _
      | refine LeO.ite ?_ ?_
      | refine LeO.bind ?_ (fun _ => ?_)
theorem runnelref16_Long.mono : ∀ a0 a1 a2 k, LeO (runnelref16_Long.f k a0 a1 a2) (runnelref16_Long.f (k + 1) a0 a1 a2) := by
  intro a0 a1 a2 k
  obtain ⟨ih0, ih1, ih2, ih3⟩ := runnelref16_Long.mono_l k
  unfold runnelref16_Long.f
  repeat' first
      | (with_reducible exact ih0 _ _ _ _)
      | (with_reducible exact ih1 _ _ _ _)
      | (with_reducible exact ih2 _ _ _ _ _ _ _ _ _ _ _ _ _ _)
      | (with_reducible exact ih3 _ _ _ _ _ _ _ _ _ _ _ _ _ _)
      | (with_reducible exact runnelref08_Long.mono _ _)
      | (with_reducible exact LeO.refl _)
      | (with_reducible exact LeO.none _)
      | (with_reducible refine LeO.ite ?_ ?_)
      | (with_reducible refine LeO.bind ?_ (fun _ => ?_))
      | exact ih0 _ _ _ _
      | exact ih1 _ _ _ _
      | exact ih2 _ _ _ _ _ _ _ _ _ _ _ _ _ _
      | exact ih3 _ _ _ _ _ _ _ _ _ _ _ _ _ _
      | exact runnelref08_Long.mono _ _
      | exact LeO.none _
      | refine LeO.ite ?_ ?_
      | refine LeO.bind ?_ (fun _ => ?_)
set_option maxHeartbeats 8000000 in
set_option maxRecDepth 100000 in
theorem runnelref16_Long.calls (k : Nat) (A0_0 : Option Addr) (c0_0 : Nat) (l0_0 : List (S44)) (A0_1 : Option Addr) (c0_1 : Nat) (l0_1 : List Int) (a0_2 : Int) (r : Bool) (w : World) (hr0_0 : Kd.C k44 w A0_0 l0_0.length l0_0) (hc0_0 : l0_0.length ≤ c0_0) (hr0_1 : Kd.C (Kd.int .i64) w A0_1 l0_1.length l0_1) (hc0_1 : l0_1.length ≤ c0_1) (h : runnelref16_Long.f k l0_0 l0_1 a0_2 = some r) :
    Calls Try.prog 6 #[.agg #[.slice A0_0 l0_0.length c0_0, .slice A0_1 l0_1.length c0_1, .int .i64 a0_2]] w fun e w' => e = .returned (.bool r) ∧ Below w.heap.size w w' := by
  have hu25 := Try.underlying25
  have hu44 := Try.underlying44
  have HR0_0 := am hr0_0
  have HC0_0 := am hc0_0
  clear hr0_0 hc0_0
  have HR0_1 := am hr0_1
  have HC0_1 := am hc0_1
  clear hr0_1 hc0_1
  have HB := am (Below.refl w.heap.size w)
  have H : (if (l0_0.length : Int) > 70 then (runnelref16_Long.j0 k true l0_0 l0_1 a0_2) else (runnelref16_Long.j0 k (decide ((l0_1.length : Int) > 20)) l0_0 l0_1 a0_2)) = some r := h
  clear h
  have HC2 := am H
  clear H
  go_enter Try.func6, Try.ntmps6
  go_upto_region 1 with (first | ((with_reducible refine gate_dst (N := 1) rfl ?_); (try (refine gate_guard (by rfl) ?_; dsimp only)); refine box_event ?hg (N := 1) ?hd (cs := #[.slice A0_0 l0_0.length c0_0, .slice A0_1 l0_1.length c0_1, .int .i64 a0_2]) (t := 25) ?hr ?_; (case hd => rfl); (case hg => rfl); (case hr => first | (go_simp; done) | (go_simp; rfl)); intro gb102 hg w3 hbox hb; have n0_ := am (below_step (by repeat (first | (with_reducible first | exact HB.out | apply c1 | apply c2 | apply c3) | exact HB.out)) hb); have n1_ := am (hbox); have n2_ := am ((by rw [hg]; exact (below_size (by repeat (first | (with_reducible first | exact HB.out | apply c1 | apply c2 | apply c3) | exact HB.out))) : w.heap.size ≤ gb102)); have n3_ := am ((by rw [hg]; exact (below_size (by repeat (first | (with_reducible first | exact HB.out | apply c1 | apply c2 | apply c3) | exact HB.out))) : w.heap.size ≤ gb102)); clear HB; have HB := n0_; have BK102 := n1_; have GW102 := n2_; have GE102 := n3_; clear n0_ n1_ n2_ n3_; clear hb hbox hg))
  (try simp only [Act.put, List.setIfInBounds_toArray, List.set_cons_zero, List.set_cons_succ])
  go_cut [15] (fun v15 wc => ∃ (kq : Nat) (x15_1 : Bool), v15 = .bool x15_1 ∧ Aside0 (runnelref16_Long.j0 kq x15_1 l0_0 l0_1 a0_2 = some r) ∧ Aside0 (kq ≤ k) ∧ Aside0 (wc.heap[gb102]? = some (.cells #[(.slice A0_0 l0_0.length c0_0), (.slice A0_1 l0_1.length c0_1), .int .i64 a0_2] 25 (0, 0))) ∧ Aside0 (Below w.heap.size w wc))
  case first =>
    have H := HC2.out
    clear HC2
    by_cases c4 : (l0_0.length : Int) > 70
    · rw [if_pos c4] at H
      have c4b0 : decide (70 < (l0_0.length : Int)) = true := decide_eq_true c4
      have c4b1 : decide (70 < l0_0.length) = true := decide_eq_true (by omega)
      clear c4
      (first | rw [c4b0] | (simp only [i64_w, i32_w]; rw [c4b0]) | skip)
      have H' := am H
      clear H
      have hcz5_0 : w3.cell? ⟨gb102, 0, none⟩ = some (.slice A0_0 l0_0.length c0_0) := (b4 BK102.out 0).trans rfl
      have hcz5_1 : w3.cell? ⟨gb102, 1, none⟩ = some (.slice A0_1 l0_1.length c0_1) := (b4 BK102.out 1).trans rfl
      have hcz5_2 : w3.cell? ⟨gb102, 2, none⟩ = some (.int .i64 a0_2) := (b4 BK102.out 2).trans rfl
      have hfz5_0 := blk_frozen BK102.out 0
      have hfz5_1 := blk_frozen BK102.out 1
      have hfz5_2 := blk_frozen BK102.out 2
      go_wp2
      go_meet
      case rel => exact ⟨_, (true), (by first | rfl | (simp; done) | (simp [*]; done)), H', ⟨by first | omega | exact Nat.le_refl _⟩, ⟨by (with_reducible repeat (first | refine b1 ?_ _ | refine b2 ?_ | refine b3 ?_ _)); exact BK102.out⟩, ⟨by repeat (first | (with_reducible first | exact HB.out | apply c1 | apply c2 | apply c3 | refine c4 ?_ GE102.out) | exact HB.out)⟩⟩
    · rw [if_neg c4] at H
      have c4b0 : decide (70 < (l0_0.length : Int)) = false := decide_eq_false c4
      have c4b1 : decide (70 < l0_0.length) = false := decide_eq_false (by omega)
      clear c4
      (first | rw [c4b0] | (simp only [i64_w, i32_w]; rw [c4b0]) | skip)
      have H' := am H
      clear H
      have hcz6_0 : w3.cell? ⟨gb102, 0, none⟩ = some (.slice A0_0 l0_0.length c0_0) := (b4 BK102.out 0).trans rfl
      have hcz6_1 : w3.cell? ⟨gb102, 1, none⟩ = some (.slice A0_1 l0_1.length c0_1) := (b4 BK102.out 1).trans rfl
      have hcz6_2 : w3.cell? ⟨gb102, 2, none⟩ = some (.int .i64 a0_2) := (b4 BK102.out 2).trans rfl
      have hfz6_0 := blk_frozen BK102.out 0
      have hfz6_1 := blk_frozen BK102.out 1
      have hfz6_2 := blk_frozen BK102.out 2
      go_wp2
      go_meet
      case rel => exact ⟨_, (decide ((l0_1.length : Int) > 20)), (by first | rfl | (simp; done) | (simp [*]; done)), H', ⟨by first | omega | exact Nat.le_refl _⟩, ⟨by (with_reducible repeat (first | refine b1 ?_ _ | refine b2 ?_ | refine b3 ?_ _)); exact BK102.out⟩, ⟨by repeat (first | (with_reducible first | exact HB.out | apply c1 | apply c2 | apply c3 | refine c4 ?_ GE102.out) | exact HB.out)⟩⟩
  case rest =>
    clear HC2
    try clear p2
    try clear c4
    try clear c4b0
    try clear c4b1
    try clear c6
    try clear hcz5_0
    try clear hcz5_1
    try clear hcz5_2
    try clear hcz6_0
    try clear hcz6_1
    try clear hcz6_2
    try clear hfz5_0
    try clear hfz5_1
    try clear hfz5_2
    try clear hfz6_0
    try clear hfz6_1
    try clear hfz6_2
    obtain ⟨kq, x15_1, rfl, HA, HJ1, BK102, HB⟩ := hcut
    cases kq with
    | zero => exact absurd HA.out (by simp [runnelref16_Long.j0])
    | succ kj1 =>
      have H := HA.out
      clear HA
      simp only [runnelref16_Long.j0] at H
      by_cases c7 : x15_1 = true
      · subst c7
        have H1 : (some true) = some r := by rw [if_pos rfl] at H; exact H
        clear H
        have H := H1
        clear H1
        obtain rfl := Option.some.inj H
        go_wp2
        go_ret
        exact ⟨by first | rfl | (simp [errW_none, errW_some] <;> rfl) | (simp [*, errW_none, errW_some] <;> rfl), by repeat (first | (with_reducible first | exact HB.out | apply c1 | apply c2 | apply c3 | refine c4 ?_ GE102.out) | exact HB.out)⟩
      · replace c7 := Bool.eq_false_iff.mpr c7
        subst c7
        have H1 : (runnelref16_Long.l0 kj1 0 l0_0 l0_1 a0_2) = some r := by rw [if_neg (show ¬ (false = true) by decide)] at H; exact H
        clear H
        have H := H1
        clear H1
        have H' := am H
        clear H
        go_wp2
        go_loopg [3] kj1 (fun kq v3 w' => ∃ (x3_2 : Int), v3 = .int .i64 x3_2 ∧ Aside0 (runnelref16_Long.l0 kq x3_2 l0_0 l0_1 a0_2 = some r) ∧ Aside0 (kq ≤ kj1) ∧ Aside0 (w'.heap[gb102]? = some (.cells #[(.slice A0_0 l0_0.length c0_0), (.slice A0_1 l0_1.length c0_1), .int .i64 a0_2] 25 (0, 0))) ∧ Aside0 (Below w.heap.size w w'))
        case atStart => exact ⟨(0), (by first | rfl | (simp; done) | (simp [*]; done)), H', ⟨Nat.le_refl _⟩, ⟨by (with_reducible repeat (first | refine b1 ?_ _ | refine b2 ?_ | refine b3 ?_ _)); exact BK102.out⟩, ⟨by repeat (first | (with_reducible first | exact HB.out | apply c1 | apply c2 | apply c3 | refine c4 ?_ GE102.out) | exact HB.out)⟩⟩
        case round =>
          clear H'
          try clear p2
          try clear c4
          try clear c4b0
          try clear c4b1
          try clear c6
          try clear c7
          try clear hcz5_0
          try clear hcz5_1
          try clear hcz5_2
          try clear hcz6_0
          try clear hcz6_1
          try clear hcz6_2
          try clear hfz5_0
          try clear hfz5_1
          try clear hfz5_2
          try clear hfz6_0
          try clear hfz6_1
          try clear hfz6_2
          try clear p2
          obtain ⟨x3_2, rfl, HA, HK2, BK102, HB⟩ := hrel
          cases gk with
          | zero => exact absurd HA.out (by simp [runnelref16_Long.l0])
          | succ k2 =>
            have H := HA.out
            clear HA
            simp only [runnelref16_Long.l0] at H
            by_cases c8 : x3_2 < (l0_0.length : Int)
            · rw [if_pos c8] at H
              have c8b0 : decide (x3_2 < (l0_0.length : Int)) = true := decide_eq_true c8
              clear c8
              by_cases c9 : 0 ≤ x3_2
              · rw [if_pos c9] at H
                have c9b0 : decide (0 ≤ x3_2) = true := decide_eq_true c9
                clear c9
                have HC10 := am H
                clear H
                have hcz11_0 : wr.cell? ⟨gb102, 0, none⟩ = some (.slice A0_0 l0_0.length c0_0) := (b4 BK102.out 0).trans rfl
                have hcz11_1 : wr.cell? ⟨gb102, 1, none⟩ = some (.slice A0_1 l0_1.length c0_1) := (b4 BK102.out 1).trans rfl
                have hcz11_2 : wr.cell? ⟨gb102, 2, none⟩ = some (.int .i64 a0_2) := (b4 BK102.out 2).trans rfl
                have hfz11_0 := blk_frozen BK102.out 0
                have hfz11_1 := blk_frozen BK102.out 1
                have hfz11_2 := blk_frozen BK102.out 2
                have p103 : 0 ≤ (x3_2 : Int) := of_decide_eq_true (by first | (with_reducible assumption) | assumption)
                have q103 : x3_2 < (l0_0.length : Int) := of_decide_eq_true (by first | (with_reducible assumption) | assumption)
                obtain ⟨ad103, A103_1, c103_1, A103_2, c103_2, A103_3, c103_3, A103_4, c103_4, e103, hx103_0, hx103_1, hx103_2, hx103_3, hx103_4, hx103_5, hx103_6, hx103_7, hx103_8, hl103_1, hi103_1, hl103_2, hi103_2, hl103_3, hi103_3, hl103_4, hi103_4⟩ := at_T44 HR0_0.out x3_2 p103 q103
                cases e103
                replace hx103_0 := (HB.out.cell (bl w _ hx103_0)).trans hx103_0
                replace hx103_1 := (HB.out.cell (bl w _ hx103_1)).trans hx103_1
                replace hx103_2 := (HB.out.cell (bl w _ hx103_2)).trans hx103_2
                replace hx103_3 := (HB.out.cell (bl w _ hx103_3)).trans hx103_3
                replace hx103_4 := (HB.out.cell (bl w _ hx103_4)).trans hx103_4
                replace hx103_5 := (HB.out.cell (bl w _ hx103_5)).trans hx103_5
                replace hx103_6 := (HB.out.cell (bl w _ hx103_6)).trans hx103_6
                replace hx103_7 := (HB.out.cell (bl w _ hx103_7)).trans hx103_7
                replace hx103_8 := (HB.out.cell (bl w _ hx103_8)).trans hx103_8
                have HR103_1 := am hi103_1
                have HC103_1 := am hl103_1
                clear hi103_1 hl103_1
                have HR103_2 := am hi103_2
                have HC103_2 := am hl103_2
                clear hi103_2 hl103_2
                have HR103_3 := am hi103_3
                have HC103_3 := am hl103_3
                clear hi103_3 hl103_3
                have HR103_4 := am hi103_4
                have HC103_4 := am hl103_4
                clear hi103_4 hl103_4
                replace p103 := eq_true p103
                replace q103 := eq_true q103
                go_upto_region 7 with (first | ((with_reducible refine gate_dst (N := 4) rfl ?_); (try (refine gate_guard (by rfl) ?_; dsimp only)); refine box_event ?hg (N := 4) ?hd (cs := #[.int .i64 0, .slice none 0 0, .slice none 0 0, .slice none 0 0, .slice none 0 0, .int .i64 0, .int .i64 0, .int .i64 0, .int .i64 0]) (t := 44) ?hr ?_; (case hd => rfl); (case hg => rfl); (case hr => first | (go_simp; done) | (go_simp; rfl)); intro gb104 hg w12 hbox hb; have n0_ := am (b5 (g := gb102) (o := .cells #[.slice (some ad103) l0_0.length c0_0, .slice A0_1 l0_1.length c0_1, .int .i64 a0_2] 25 (0, 0)) (by (with_reducible repeat (first | refine b1 ?_ _ | refine b2 ?_ | refine b3 ?_ _)); exact BK102.out) hb); have n1_ := am (below_step (by repeat (first | (with_reducible first | exact HB.out | apply c1 | apply c2 | apply c3 | refine c4 ?_ GE102.out) | exact HB.out)) hb); have n2_ := am (hbox); have n3_ := am ((by rw [hg]; exact (below_size (by repeat (first | (with_reducible first | exact HB.out | apply c1 | apply c2 | apply c3 | refine c4 ?_ GE102.out) | exact HB.out))) : w.heap.size ≤ gb104)); have n4_ := am ((by rw [hg]; exact (below_size (by repeat (first | (with_reducible first | exact HB.out | apply c1 | apply c2 | apply c3 | refine c4 ?_ GE102.out) | exact HB.out))) : w.heap.size ≤ gb104)); have n5_ := am ((by rw [hg]; exact Nat.ne_of_lt (blk_lt (g := gb102) (o := .cells #[.slice (some ad103) l0_0.length c0_0, .slice A0_1 l0_1.length c0_1, .int .i64 a0_2] 25 (0, 0)) (by (with_reducible repeat (first | refine b1 ?_ _ | refine b2 ?_ | refine b3 ?_ _)); exact BK102.out)) : gb102 ≠ gb104)); have n6_ := am ((by rw [hg]; exact Nat.ne_of_gt (blk_lt (g := gb102) (o := .cells #[.slice (some ad103) l0_0.length c0_0, .slice A0_1 l0_1.length c0_1, .int .i64 a0_2] 25 (0, 0)) (by (with_reducible repeat (first | refine b1 ?_ _ | refine b2 ?_ | refine b3 ?_ _)); exact BK102.out)) : gb104 ≠ gb102)); clear BK102; clear HB; have BK102 := n0_; have HB := n1_; have BK104 := n2_; have GW104 := n3_; have GE104 := n4_; have NB102_104 := n5_; have NB104_102 := n6_; clear n0_ n1_ n2_ n3_ n4_ n5_ n6_; clear hb hbox hg; have hnb13 := NB104_102.out; have hnc13 := NB102_104.out; have hcz14_0 : w12.cell? ⟨gb104, 0, none⟩ = some (.int .i64 0) := (b4 BK104.out 0).trans rfl; have hcz14_1 : w12.cell? ⟨gb104, 1, none⟩ = some (.slice none 0 0) := (b4 BK104.out 1).trans rfl; have hcz14_2 : w12.cell? ⟨gb104, 2, none⟩ = some (.slice none 0 0) := (b4 BK104.out 2).trans rfl; have hcz14_3 : w12.cell? ⟨gb104, 3, none⟩ = some (.slice none 0 0) := (b4 BK104.out 3).trans rfl; have hcz14_4 : w12.cell? ⟨gb104, 4, none⟩ = some (.slice none 0 0) := (b4 BK104.out 4).trans rfl; have hcz14_5 : w12.cell? ⟨gb104, 5, none⟩ = some (.int .i64 0) := (b4 BK104.out 5).trans rfl; have hcz14_6 : w12.cell? ⟨gb104, 6, none⟩ = some (.int .i64 0) := (b4 BK104.out 6).trans rfl; have hcz14_7 : w12.cell? ⟨gb104, 7, none⟩ = some (.int .i64 0) := (b4 BK104.out 7).trans rfl; have hcz14_8 : w12.cell? ⟨gb104, 8, none⟩ = some (.int .i64 0) := (b4 BK104.out 8).trans rfl; have hfz14_0 := blk_frozen BK104.out 0; have hfz14_1 := blk_frozen BK104.out 1; have hfz14_2 := blk_frozen BK104.out 2; have hfz14_3 := blk_frozen BK104.out 3; have hfz14_4 := blk_frozen BK104.out 4; have hfz14_5 := blk_frozen BK104.out 5; have hfz14_6 := blk_frozen BK104.out 6; have hfz14_7 := blk_frozen BK104.out 7; have hfz14_8 := blk_frozen BK104.out 8))
                (try simp only [Act.put, List.setIfInBounds_toArray, List.set_cons_zero, List.set_cons_succ])
                go_cut [49] (fun v49 wc => ∃ (kq : Nat) (x49_9 : Bool), v49 = .bool x49_9 ∧ Aside0 (runnelref16_Long.j2 kq x3_2 x49_9 l0_0 l0_1 a0_2 ((rd_T44 l0_0 x3_2).f0) ((rd_T44 l0_0 x3_2).f1) ((rd_T44 l0_0 x3_2).f2) ((rd_T44 l0_0 x3_2).f3) ((rd_T44 l0_0 x3_2).f4) ((rd_T44 l0_0 x3_2).f5) ((rd_T44 l0_0 x3_2).f6) ((rd_T44 l0_0 x3_2).f7) ((rd_T44 l0_0 x3_2).f8) = some r) ∧ Aside0 (kq ≤ k2) ∧ Aside0 (wc.heap[gb102]? = some (.cells #[(.slice (some ad103) l0_0.length c0_0), (.slice A0_1 l0_1.length c0_1), .int .i64 a0_2] 25 (0, 0))) ∧ Aside0 (wc.heap[gb104]? = some (.cells #[.int .i64 ((rd_T44 l0_0 x3_2).f0), (.slice A103_1 ((rd_T44 l0_0 x3_2).f1).length c103_1), (.slice A103_2 ((rd_T44 l0_0 x3_2).f2).length c103_2), (.slice A103_3 ((rd_T44 l0_0 x3_2).f3).length c103_3), (.slice A103_4 ((rd_T44 l0_0 x3_2).f4).length c103_4), .int .i64 ((rd_T44 l0_0 x3_2).f5), .int .i64 ((rd_T44 l0_0 x3_2).f6), .int .i64 ((rd_T44 l0_0 x3_2).f7), .int .i64 ((rd_T44 l0_0 x3_2).f8)] 44 (0, 0))) ∧ Aside0 (Below w.heap.size w wc))
                case first =>
                  have H := HC10.out
                  clear HC10
                  by_cases c15 : (((rd_T44 l0_0 x3_2).f1).length : Int) > 20
                  · rw [if_pos c15] at H
                    have c15b0 : decide (20 < (((rd_T44 l0_0 x3_2).f1).length : Int)) = true := decide_eq_true c15
                    have c15b1 : decide (20 < ((rd_T44 l0_0 x3_2).f1).length) = true := decide_eq_true (by omega)
                    clear c15
                    (first | rw [c15b0] | (simp only [i64_w, i32_w]; rw [c15b0]) | skip)
                    have H' := am H
                    clear H
                    have hnb16 := NB104_102.out
                    have hnc16 := NB102_104.out
                    have hcz17_0 : w12.cell? ⟨gb104, 0, none⟩ = some (.int .i64 0) := (b4 BK104.out 0).trans rfl
                    have hcz17_1 : w12.cell? ⟨gb104, 1, none⟩ = some (.slice none 0 0) := (b4 BK104.out 1).trans rfl
                    have hcz17_2 : w12.cell? ⟨gb104, 2, none⟩ = some (.slice none 0 0) := (b4 BK104.out 2).trans rfl
                    have hcz17_3 : w12.cell? ⟨gb104, 3, none⟩ = some (.slice none 0 0) := (b4 BK104.out 3).trans rfl
                    have hcz17_4 : w12.cell? ⟨gb104, 4, none⟩ = some (.slice none 0 0) := (b4 BK104.out 4).trans rfl
                    have hcz17_5 : w12.cell? ⟨gb104, 5, none⟩ = some (.int .i64 0) := (b4 BK104.out 5).trans rfl
                    have hcz17_6 : w12.cell? ⟨gb104, 6, none⟩ = some (.int .i64 0) := (b4 BK104.out 6).trans rfl
                    have hcz17_7 : w12.cell? ⟨gb104, 7, none⟩ = some (.int .i64 0) := (b4 BK104.out 7).trans rfl
                    have hcz17_8 : w12.cell? ⟨gb104, 8, none⟩ = some (.int .i64 0) := (b4 BK104.out 8).trans rfl
                    have hfz17_0 := blk_frozen BK104.out 0
                    have hfz17_1 := blk_frozen BK104.out 1
                    have hfz17_2 := blk_frozen BK104.out 2
                    have hfz17_3 := blk_frozen BK104.out 3
                    have hfz17_4 := blk_frozen BK104.out 4
                    have hfz17_5 := blk_frozen BK104.out 5
                    have hfz17_6 := blk_frozen BK104.out 6
                    have hfz17_7 := blk_frozen BK104.out 7
                    have hfz17_8 := blk_frozen BK104.out 8
                    go_wp2
                    go_meet
                    case rel => exact ⟨_, (true), (by first | rfl | (simp; done) | (simp [*]; done)), H', ⟨by have := HJ1.out; have := HK2.out; first | omega | exact Nat.le_refl _⟩, ⟨by (with_reducible repeat (first | refine b1 ?_ _ | refine b2 ?_ | refine b3 ?_ _)); refine blk_far ?_ NB102_104.out _; (with_reducible repeat (first | refine b1 ?_ _ | refine b2 ?_ | refine b3 ?_ _)); refine blk_far ?_ NB102_104.out _; (with_reducible repeat (first | refine b1 ?_ _ | refine b2 ?_ | refine b3 ?_ _)); refine blk_far ?_ NB102_104.out _; (with_reducible repeat (first | refine b1 ?_ _ | refine b2 ?_ | refine b3 ?_ _)); refine blk_far ?_ NB102_104.out _; (with_reducible repeat (first | refine b1 ?_ _ | refine b2 ?_ | refine b3 ?_ _)); refine blk_far ?_ NB102_104.out _; (with_reducible repeat (first | refine b1 ?_ _ | refine b2 ?_ | refine b3 ?_ _)); refine blk_far ?_ NB102_104.out _; (with_reducible repeat (first | refine b1 ?_ _ | refine b2 ?_ | refine b3 ?_ _)); refine blk_far ?_ NB102_104.out _; (with_reducible repeat (first | refine b1 ?_ _ | refine b2 ?_ | refine b3 ?_ _)); refine blk_far ?_ NB102_104.out _; (with_reducible repeat (first | refine b1 ?_ _ | refine b2 ?_ | refine b3 ?_ _)); refine blk_far ?_ NB102_104.out _; (with_reducible repeat (first | refine b1 ?_ _ | refine b2 ?_ | refine b3 ?_ _)); exact BK102.out⟩, ⟨by (with_reducible repeat (first | refine b1 ?_ _ | refine b2 ?_ | refine b3 ?_ _)); refine blk_put (cs := #[.int .i64 ((rd_T44 l0_0 x3_2).f0), .slice A103_1 ((rd_T44 l0_0 x3_2).f1).length c103_1, .slice A103_2 ((rd_T44 l0_0 x3_2).f2).length c103_2, .slice A103_3 ((rd_T44 l0_0 x3_2).f3).length c103_3, .slice A103_4 ((rd_T44 l0_0 x3_2).f4).length c103_4, .int .i64 ((rd_T44 l0_0 x3_2).f5), .int .i64 ((rd_T44 l0_0 x3_2).f6), .int .i64 ((rd_T44 l0_0 x3_2).f7), .int .i64 0]) ?_ 8 _ rfl; (with_reducible repeat (first | refine b1 ?_ _ | refine b2 ?_ | refine b3 ?_ _)); refine blk_put (cs := #[.int .i64 ((rd_T44 l0_0 x3_2).f0), .slice A103_1 ((rd_T44 l0_0 x3_2).f1).length c103_1, .slice A103_2 ((rd_T44 l0_0 x3_2).f2).length c103_2, .slice A103_3 ((rd_T44 l0_0 x3_2).f3).length c103_3, .slice A103_4 ((rd_T44 l0_0 x3_2).f4).length c103_4, .int .i64 ((rd_T44 l0_0 x3_2).f5), .int .i64 ((rd_T44 l0_0 x3_2).f6), .int .i64 0, .int .i64 0]) ?_ 7 _ rfl; (with_reducible repeat (first | refine b1 ?_ _ | refine b2 ?_ | refine b3 ?_ _)); refine blk_put (cs := #[.int .i64 ((rd_T44 l0_0 x3_2).f0), .slice A103_1 ((rd_T44 l0_0 x3_2).f1).length c103_1, .slice A103_2 ((rd_T44 l0_0 x3_2).f2).length c103_2, .slice A103_3 ((rd_T44 l0_0 x3_2).f3).length c103_3, .slice A103_4 ((rd_T44 l0_0 x3_2).f4).length c103_4, .int .i64 ((rd_T44 l0_0 x3_2).f5), .int .i64 0, .int .i64 0, .int .i64 0]) ?_ 6 _ rfl; (with_reducible repeat (first | refine b1 ?_ _ | refine b2 ?_ | refine b3 ?_ _)); refine blk_put (cs := #[.int .i64 ((rd_T44 l0_0 x3_2).f0), .slice A103_1 ((rd_T44 l0_0 x3_2).f1).length c103_1, .slice A103_2 ((rd_T44 l0_0 x3_2).f2).length c103_2, .slice A103_3 ((rd_T44 l0_0 x3_2).f3).length c103_3, .slice A103_4 ((rd_T44 l0_0 x3_2).f4).length c103_4, .int .i64 0, .int .i64 0, .int .i64 0, .int .i64 0]) ?_ 5 _ rfl; (with_reducible repeat (first | refine b1 ?_ _ | refine b2 ?_ | refine b3 ?_ _)); refine blk_put (cs := #[.int .i64 ((rd_T44 l0_0 x3_2).f0), .slice A103_1 ((rd_T44 l0_0 x3_2).f1).length c103_1, .slice A103_2 ((rd_T44 l0_0 x3_2).f2).length c103_2, .slice A103_3 ((rd_T44 l0_0 x3_2).f3).length c103_3, .slice none 0 0, .int .i64 0, .int .i64 0, .int .i64 0, .int .i64 0]) ?_ 4 _ rfl; (with_reducible repeat (first | refine b1 ?_ _ | refine b2 ?_ | refine b3 ?_ _)); refine blk_put (cs := #[.int .i64 ((rd_T44 l0_0 x3_2).f0), .slice A103_1 ((rd_T44 l0_0 x3_2).f1).length c103_1, .slice A103_2 ((rd_T44 l0_0 x3_2).f2).length c103_2, .slice none 0 0, .slice none 0 0, .int .i64 0, .int .i64 0, .int .i64 0, .int .i64 0]) ?_ 3 _ rfl; (with_reducible repeat (first | refine b1 ?_ _ | refine b2 ?_ | refine b3 ?_ _)); refine blk_put (cs := #[.int .i64 ((rd_T44 l0_0 x3_2).f0), .slice A103_1 ((rd_T44 l0_0 x3_2).f1).length c103_1, .slice none 0 0, .slice none 0 0, .slice none 0 0, .int .i64 0, .int .i64 0, .int .i64 0, .int .i64 0]) ?_ 2 _ rfl; (with_reducible repeat (first | refine b1 ?_ _ | refine b2 ?_ | refine b3 ?_ _)); refine blk_put (cs := #[.int .i64 ((rd_T44 l0_0 x3_2).f0), .slice none 0 0, .slice none 0 0, .slice none 0 0, .slice none 0 0, .int .i64 0, .int .i64 0, .int .i64 0, .int .i64 0]) ?_ 1 _ rfl; (with_reducible repeat (first | refine b1 ?_ _ | refine b2 ?_ | refine b3 ?_ _)); refine blk_put (cs := #[.int .i64 0, .slice none 0 0, .slice none 0 0, .slice none 0 0, .slice none 0 0, .int .i64 0, .int .i64 0, .int .i64 0, .int .i64 0]) ?_ 0 _ rfl; (with_reducible repeat (first | refine b1 ?_ _ | refine b2 ?_ | refine b3 ?_ _)); exact BK104.out⟩, ⟨by repeat (first | (with_reducible first | exact HB.out | apply c1 | apply c2 | apply c3 | refine c4 ?_ GE102.out | refine c4 ?_ GE104.out) | exact HB.out)⟩⟩
                  · rw [if_neg c15] at H
                    have c15b0 : decide (20 < (((rd_T44 l0_0 x3_2).f1).length : Int)) = false := decide_eq_false c15
                    have c15b1 : decide (20 < ((rd_T44 l0_0 x3_2).f1).length) = false := decide_eq_false (by omega)
                    clear c15
                    (first | rw [c15b0] | (simp only [i64_w, i32_w]; rw [c15b0]) | skip)
                    by_cases c18 : (((rd_T44 l0_0 x3_2).f2).length : Int) > 30
                    · rw [if_pos c18] at H
                      have c18b0 : decide (30 < (((rd_T44 l0_0 x3_2).f2).length : Int)) = true := decide_eq_true c18
                      have c18b1 : decide (30 < ((rd_T44 l0_0 x3_2).f2).length) = true := decide_eq_true (by omega)
                      clear c18
                      have H' := am H
                      clear H
                      have hnb19 := NB104_102.out
                      have hnc19 := NB102_104.out
                      have hcz20_0 : w12.cell? ⟨gb104, 0, none⟩ = some (.int .i64 0) := (b4 BK104.out 0).trans rfl
                      have hcz20_1 : w12.cell? ⟨gb104, 1, none⟩ = some (.slice none 0 0) := (b4 BK104.out 1).trans rfl
                      have hcz20_2 : w12.cell? ⟨gb104, 2, none⟩ = some (.slice none 0 0) := (b4 BK104.out 2).trans rfl
                      have hcz20_3 : w12.cell? ⟨gb104, 3, none⟩ = some (.slice none 0 0) := (b4 BK104.out 3).trans rfl
                      have hcz20_4 : w12.cell? ⟨gb104, 4, none⟩ = some (.slice none 0 0) := (b4 BK104.out 4).trans rfl
                      have hcz20_5 : w12.cell? ⟨gb104, 5, none⟩ = some (.int .i64 0) := (b4 BK104.out 5).trans rfl
                      have hcz20_6 : w12.cell? ⟨gb104, 6, none⟩ = some (.int .i64 0) := (b4 BK104.out 6).trans rfl
                      have hcz20_7 : w12.cell? ⟨gb104, 7, none⟩ = some (.int .i64 0) := (b4 BK104.out 7).trans rfl
                      have hcz20_8 : w12.cell? ⟨gb104, 8, none⟩ = some (.int .i64 0) := (b4 BK104.out 8).trans rfl
                      have hfz20_0 := blk_frozen BK104.out 0
                      have hfz20_1 := blk_frozen BK104.out 1
                      have hfz20_2 := blk_frozen BK104.out 2
                      have hfz20_3 := blk_frozen BK104.out 3
                      have hfz20_4 := blk_frozen BK104.out 4
                      have hfz20_5 := blk_frozen BK104.out 5
                      have hfz20_6 := blk_frozen BK104.out 6
                      have hfz20_7 := blk_frozen BK104.out 7
                      have hfz20_8 := blk_frozen BK104.out 8
                      go_wp2
                      go_meet
                      case rel => exact ⟨_, (true), (by first | rfl | (simp; done) | (simp [*]; done)), H', ⟨by have := HJ1.out; have := HK2.out; first | omega | exact Nat.le_refl _⟩, ⟨by (with_reducible repeat (first | refine b1 ?_ _ | refine b2 ?_ | refine b3 ?_ _)); refine blk_far ?_ NB102_104.out _; (with_reducible repeat (first | refine b1 ?_ _ | refine b2 ?_ | refine b3 ?_ _)); refine blk_far ?_ NB102_104.out _; (with_reducible repeat (first | refine b1 ?_ _ | refine b2 ?_ | refine b3 ?_ _)); refine blk_far ?_ NB102_104.out _; (with_reducible repeat (first | refine b1 ?_ _ | refine b2 ?_ | refine b3 ?_ _)); refine blk_far ?_ NB102_104.out _; (with_reducible repeat (first | refine b1 ?_ _ | refine b2 ?_ | refine b3 ?_ _)); refine blk_far ?_ NB102_104.out _; (with_reducible repeat (first | refine b1 ?_ _ | refine b2 ?_ | refine b3 ?_ _)); refine blk_far ?_ NB102_104.out _; (with_reducible repeat (first | refine b1 ?_ _ | refine b2 ?_ | refine b3 ?_ _)); refine blk_far ?_ NB102_104.out _; (with_reducible repeat (first | refine b1 ?_ _ | refine b2 ?_ | refine b3 ?_ _)); refine blk_far ?_ NB102_104.out _; (with_reducible repeat (first | refine b1 ?_ _ | refine b2 ?_ | refine b3 ?_ _)); refine blk_far ?_ NB102_104.out _; (with_reducible repeat (first | refine b1 ?_ _ | refine b2 ?_ | refine b3 ?_ _)); exact BK102.out⟩, ⟨by (with_reducible repeat (first | refine b1 ?_ _ | refine b2 ?_ | refine b3 ?_ _)); refine blk_put (cs := #[.int .i64 ((rd_T44 l0_0 x3_2).f0), .slice A103_1 ((rd_T44 l0_0 x3_2).f1).length c103_1, .slice A103_2 ((rd_T44 l0_0 x3_2).f2).length c103_2, .slice A103_3 ((rd_T44 l0_0 x3_2).f3).length c103_3, .slice A103_4 ((rd_T44 l0_0 x3_2).f4).length c103_4, .int .i64 ((rd_T44 l0_0 x3_2).f5), .int .i64 ((rd_T44 l0_0 x3_2).f6), .int .i64 ((rd_T44 l0_0 x3_2).f7), .int .i64 0]) ?_ 8 _ rfl; (with_reducible repeat (first | refine b1 ?_ _ | refine b2 ?_ | refine b3 ?_ _)); refine blk_put (cs := #[.int .i64 ((rd_T44 l0_0 x3_2).f0), .slice A103_1 ((rd_T44 l0_0 x3_2).f1).length c103_1, .slice A103_2 ((rd_T44 l0_0 x3_2).f2).length c103_2, .slice A103_3 ((rd_T44 l0_0 x3_2).f3).length c103_3, .slice A103_4 ((rd_T44 l0_0 x3_2).f4).length c103_4, .int .i64 ((rd_T44 l0_0 x3_2).f5), .int .i64 ((rd_T44 l0_0 x3_2).f6), .int .i64 0, .int .i64 0]) ?_ 7 _ rfl; (with_reducible repeat (first | refine b1 ?_ _ | refine b2 ?_ | refine b3 ?_ _)); refine blk_put (cs := #[.int .i64 ((rd_T44 l0_0 x3_2).f0), .slice A103_1 ((rd_T44 l0_0 x3_2).f1).length c103_1, .slice A103_2 ((rd_T44 l0_0 x3_2).f2).length c103_2, .slice A103_3 ((rd_T44 l0_0 x3_2).f3).length c103_3, .slice A103_4 ((rd_T44 l0_0 x3_2).f4).length c103_4, .int .i64 ((rd_T44 l0_0 x3_2).f5), .int .i64 0, .int .i64 0, .int .i64 0]) ?_ 6 _ rfl; (with_reducible repeat (first | refine b1 ?_ _ | refine b2 ?_ | refine b3 ?_ _)); refine blk_put (cs := #[.int .i64 ((rd_T44 l0_0 x3_2).f0), .slice A103_1 ((rd_T44 l0_0 x3_2).f1).length c103_1, .slice A103_2 ((rd_T44 l0_0 x3_2).f2).length c103_2, .slice A103_3 ((rd_T44 l0_0 x3_2).f3).length c103_3, .slice A103_4 ((rd_T44 l0_0 x3_2).f4).length c103_4, .int .i64 0, .int .i64 0, .int .i64 0, .int .i64 0]) ?_ 5 _ rfl; (with_reducible repeat (first | refine b1 ?_ _ | refine b2 ?_ | refine b3 ?_ _)); refine blk_put (cs := #[.int .i64 ((rd_T44 l0_0 x3_2).f0), .slice A103_1 ((rd_T44 l0_0 x3_2).f1).length c103_1, .slice A103_2 ((rd_T44 l0_0 x3_2).f2).length c103_2, .slice A103_3 ((rd_T44 l0_0 x3_2).f3).length c103_3, .slice none 0 0, .int .i64 0, .int .i64 0, .int .i64 0, .int .i64 0]) ?_ 4 _ rfl; (with_reducible repeat (first | refine b1 ?_ _ | refine b2 ?_ | refine b3 ?_ _)); refine blk_put (cs := #[.int .i64 ((rd_T44 l0_0 x3_2).f0), .slice A103_1 ((rd_T44 l0_0 x3_2).f1).length c103_1, .slice A103_2 ((rd_T44 l0_0 x3_2).f2).length c103_2, .slice none 0 0, .slice none 0 0, .int .i64 0, .int .i64 0, .int .i64 0, .int .i64 0]) ?_ 3 _ rfl; (with_reducible repeat (first | refine b1 ?_ _ | refine b2 ?_ | refine b3 ?_ _)); refine blk_put (cs := #[.int .i64 ((rd_T44 l0_0 x3_2).f0), .slice A103_1 ((rd_T44 l0_0 x3_2).f1).length c103_1, .slice none 0 0, .slice none 0 0, .slice none 0 0, .int .i64 0, .int .i64 0, .int .i64 0, .int .i64 0]) ?_ 2 _ rfl; (with_reducible repeat (first | refine b1 ?_ _ | refine b2 ?_ | refine b3 ?_ _)); refine blk_put (cs := #[.int .i64 ((rd_T44 l0_0 x3_2).f0), .slice none 0 0, .slice none 0 0, .slice none 0 0, .slice none 0 0, .int .i64 0, .int .i64 0, .int .i64 0, .int .i64 0]) ?_ 1 _ rfl; (with_reducible repeat (first | refine b1 ?_ _ | refine b2 ?_ | refine b3 ?_ _)); refine blk_put (cs := #[.int .i64 0, .slice none 0 0, .slice none 0 0, .slice none 0 0, .slice none 0 0, .int .i64 0, .int .i64 0, .int .i64 0, .int .i64 0]) ?_ 0 _ rfl; (with_reducible repeat (first | refine b1 ?_ _ | refine b2 ?_ | refine b3 ?_ _)); exact BK104.out⟩, ⟨by repeat (first | (with_reducible first | exact HB.out | apply c1 | apply c2 | apply c3 | refine c4 ?_ GE102.out | refine c4 ?_ GE104.out) | exact HB.out)⟩⟩
                    · rw [if_neg c18] at H
                      have c18b0 : decide (30 < (((rd_T44 l0_0 x3_2).f2).length : Int)) = false := decide_eq_false c18
                      have c18b1 : decide (30 < ((rd_T44 l0_0 x3_2).f2).length) = false := decide_eq_false (by omega)
                      clear c18
                      by_cases c21 : (((rd_T44 l0_0 x3_2).f3).length : Int) > 30
                      · rw [if_pos c21] at H
                        have c21b0 : decide (30 < (((rd_T44 l0_0 x3_2).f3).length : Int)) = true := decide_eq_true c21
                        have c21b1 : decide (30 < ((rd_T44 l0_0 x3_2).f3).length) = true := decide_eq_true (by omega)
                        clear c21
                        have H' := am H
                        clear H
                        have hnb22 := NB104_102.out
                        have hnc22 := NB102_104.out
                        have hcz23_0 : w12.cell? ⟨gb104, 0, none⟩ = some (.int .i64 0) := (b4 BK104.out 0).trans rfl
                        have hcz23_1 : w12.cell? ⟨gb104, 1, none⟩ = some (.slice none 0 0) := (b4 BK104.out 1).trans rfl
                        have hcz23_2 : w12.cell? ⟨gb104, 2, none⟩ = some (.slice none 0 0) := (b4 BK104.out 2).trans rfl
                        have hcz23_3 : w12.cell? ⟨gb104, 3, none⟩ = some (.slice none 0 0) := (b4 BK104.out 3).trans rfl
                        have hcz23_4 : w12.cell? ⟨gb104, 4, none⟩ = some (.slice none 0 0) := (b4 BK104.out 4).trans rfl
                        have hcz23_5 : w12.cell? ⟨gb104, 5, none⟩ = some (.int .i64 0) := (b4 BK104.out 5).trans rfl
                        have hcz23_6 : w12.cell? ⟨gb104, 6, none⟩ = some (.int .i64 0) := (b4 BK104.out 6).trans rfl
                        have hcz23_7 : w12.cell? ⟨gb104, 7, none⟩ = some (.int .i64 0) := (b4 BK104.out 7).trans rfl
                        have hcz23_8 : w12.cell? ⟨gb104, 8, none⟩ = some (.int .i64 0) := (b4 BK104.out 8).trans rfl
                        have hfz23_0 := blk_frozen BK104.out 0
                        have hfz23_1 := blk_frozen BK104.out 1
                        have hfz23_2 := blk_frozen BK104.out 2
                        have hfz23_3 := blk_frozen BK104.out 3
                        have hfz23_4 := blk_frozen BK104.out 4
                        have hfz23_5 := blk_frozen BK104.out 5
                        have hfz23_6 := blk_frozen BK104.out 6
                        have hfz23_7 := blk_frozen BK104.out 7
                        have hfz23_8 := blk_frozen BK104.out 8
                        go_wp2
                        go_meet
                        case rel => exact ⟨_, (true), (by first | rfl | (simp; done) | (simp [*]; done)), H', ⟨by have := HJ1.out; have := HK2.out; first | omega | exact Nat.le_refl _⟩, ⟨by (with_reducible repeat (first | refine b1 ?_ _ | refine b2 ?_ | refine b3 ?_ _)); refine blk_far ?_ NB102_104.out _; (with_reducible repeat (first | refine b1 ?_ _ | refine b2 ?_ | refine b3 ?_ _)); refine blk_far ?_ NB102_104.out _; (with_reducible repeat (first | refine b1 ?_ _ | refine b2 ?_ | refine b3 ?_ _)); refine blk_far ?_ NB102_104.out _; (with_reducible repeat (first | refine b1 ?_ _ | refine b2 ?_ | refine b3 ?_ _)); refine blk_far ?_ NB102_104.out _; (with_reducible repeat (first | refine b1 ?_ _ | refine b2 ?_ | refine b3 ?_ _)); refine blk_far ?_ NB102_104.out _; (with_reducible repeat (first | refine b1 ?_ _ | refine b2 ?_ | refine b3 ?_ _)); refine blk_far ?_ NB102_104.out _; (with_reducible repeat (first | refine b1 ?_ _ | refine b2 ?_ | refine b3 ?_ _)); refine blk_far ?_ NB102_104.out _; (with_reducible repeat (first | refine b1 ?_ _ | refine b2 ?_ | refine b3 ?_ _)); refine blk_far ?_ NB102_104.out _; (with_reducible repeat (first | refine b1 ?_ _ | refine b2 ?_ | refine b3 ?_ _)); refine blk_far ?_ NB102_104.out _; (with_reducible repeat (first | refine b1 ?_ _ | refine b2 ?_ | refine b3 ?_ _)); exact BK102.out⟩, ⟨by (with_reducible repeat (first | refine b1 ?_ _ | refine b2 ?_ | refine b3 ?_ _)); refine blk_put (cs := #[.int .i64 ((rd_T44 l0_0 x3_2).f0), .slice A103_1 ((rd_T44 l0_0 x3_2).f1).length c103_1, .slice A103_2 ((rd_T44 l0_0 x3_2).f2).length c103_2, .slice A103_3 ((rd_T44 l0_0 x3_2).f3).length c103_3, .slice A103_4 ((rd_T44 l0_0 x3_2).f4).length c103_4, .int .i64 ((rd_T44 l0_0 x3_2).f5), .int .i64 ((rd_T44 l0_0 x3_2).f6), .int .i64 ((rd_T44 l0_0 x3_2).f7), .int .i64 0]) ?_ 8 _ rfl; (with_reducible repeat (first | refine b1 ?_ _ | refine b2 ?_ | refine b3 ?_ _)); refine blk_put (cs := #[.int .i64 ((rd_T44 l0_0 x3_2).f0), .slice A103_1 ((rd_T44 l0_0 x3_2).f1).length c103_1, .slice A103_2 ((rd_T44 l0_0 x3_2).f2).length c103_2, .slice A103_3 ((rd_T44 l0_0 x3_2).f3).length c103_3, .slice A103_4 ((rd_T44 l0_0 x3_2).f4).length c103_4, .int .i64 ((rd_T44 l0_0 x3_2).f5), .int .i64 ((rd_T44 l0_0 x3_2).f6), .int .i64 0, .int .i64 0]) ?_ 7 _ rfl; (with_reducible repeat (first | refine b1 ?_ _ | refine b2 ?_ | refine b3 ?_ _)); refine blk_put (cs := #[.int .i64 ((rd_T44 l0_0 x3_2).f0), .slice A103_1 ((rd_T44 l0_0 x3_2).f1).length c103_1, .slice A103_2 ((rd_T44 l0_0 x3_2).f2).length c103_2, .slice A103_3 ((rd_T44 l0_0 x3_2).f3).length c103_3, .slice A103_4 ((rd_T44 l0_0 x3_2).f4).length c103_4, .int .i64 ((rd_T44 l0_0 x3_2).f5), .int .i64 0, .int .i64 0, .int .i64 0]) ?_ 6 _ rfl; (with_reducible repeat (first | refine b1 ?_ _ | refine b2 ?_ | refine b3 ?_ _)); refine blk_put (cs := #[.int .i64 ((rd_T44 l0_0 x3_2).f0), .slice A103_1 ((rd_T44 l0_0 x3_2).f1).length c103_1, .slice A103_2 ((rd_T44 l0_0 x3_2).f2).length c103_2, .slice A103_3 ((rd_T44 l0_0 x3_2).f3).length c103_3, .slice A103_4 ((rd_T44 l0_0 x3_2).f4).length c103_4, .int .i64 0, .int .i64 0, .int .i64 0, .int .i64 0]) ?_ 5 _ rfl; (with_reducible repeat (first | refine b1 ?_ _ | refine b2 ?_ | refine b3 ?_ _)); refine blk_put (cs := #[.int .i64 ((rd_T44 l0_0 x3_2).f0), .slice A103_1 ((rd_T44 l0_0 x3_2).f1).length c103_1, .slice A103_2 ((rd_T44 l0_0 x3_2).f2).length c103_2, .slice A103_3 ((rd_T44 l0_0 x3_2).f3).length c103_3, .slice none 0 0, .int .i64 0, .int .i64 0, .int .i64 0, .int .i64 0]) ?_ 4 _ rfl; (with_reducible repeat (first | refine b1 ?_ _ | refine b2 ?_ | refine b3 ?_ _)); refine blk_put (cs := #[.int .i64 ((rd_T44 l0_0 x3_2).f0), .slice A103_1 ((rd_T44 l0_0 x3_2).f1).length c103_1, .slice A103_2 ((rd_T44 l0_0 x3_2).f2).length c103_2, .slice none 0 0, .slice none 0 0, .int .i64 0, .int .i64 0, .int .i64 0, .int .i64 0]) ?_ 3 _ rfl; (with_reducible repeat (first | refine b1 ?_ _ | refine b2 ?_ | refine b3 ?_ _)); refine blk_put (cs := #[.int .i64 ((rd_T44 l0_0 x3_2).f0), .slice A103_1 ((rd_T44 l0_0 x3_2).f1).length c103_1, .slice none 0 0, .slice none 0 0, .slice none 0 0, .int .i64 0, .int .i64 0, .int .i64 0, .int .i64 0]) ?_ 2 _ rfl; (with_reducible repeat (first | refine b1 ?_ _ | refine b2 ?_ | refine b3 ?_ _)); refine blk_put (cs := #[.int .i64 ((rd_T44 l0_0 x3_2).f0), .slice none 0 0, .slice none 0 0, .slice none 0 0, .slice none 0 0, .int .i64 0, .int .i64 0, .int .i64 0, .int .i64 0]) ?_ 1 _ rfl; (with_reducible repeat (first | refine b1 ?_ _ | refine b2 ?_ | refine b3 ?_ _)); refine blk_put (cs := #[.int .i64 0, .slice none 0 0, .slice none 0 0, .slice none 0 0, .slice none 0 0, .int .i64 0, .int .i64 0, .int .i64 0, .int .i64 0]) ?_ 0 _ rfl; (with_reducible repeat (first | refine b1 ?_ _ | refine b2 ?_ | refine b3 ?_ _)); exact BK104.out⟩, ⟨by repeat (first | (with_reducible first | exact HB.out | apply c1 | apply c2 | apply c3 | refine c4 ?_ GE102.out | refine c4 ?_ GE104.out) | exact HB.out)⟩⟩
                      · rw [if_neg c21] at H
                        have c21b0 : decide (30 < (((rd_T44 l0_0 x3_2).f3).length : Int)) = false := decide_eq_false c21
                        have c21b1 : decide (30 < ((rd_T44 l0_0 x3_2).f3).length) = false := decide_eq_false (by omega)
                        clear c21
                        have H' := am H
                        clear H
                        have hnb24 := NB104_102.out
                        have hnc24 := NB102_104.out
                        have hcz25_0 : w12.cell? ⟨gb104, 0, none⟩ = some (.int .i64 0) := (b4 BK104.out 0).trans rfl
                        have hcz25_1 : w12.cell? ⟨gb104, 1, none⟩ = some (.slice none 0 0) := (b4 BK104.out 1).trans rfl
                        have hcz25_2 : w12.cell? ⟨gb104, 2, none⟩ = some (.slice none 0 0) := (b4 BK104.out 2).trans rfl
                        have hcz25_3 : w12.cell? ⟨gb104, 3, none⟩ = some (.slice none 0 0) := (b4 BK104.out 3).trans rfl
                        have hcz25_4 : w12.cell? ⟨gb104, 4, none⟩ = some (.slice none 0 0) := (b4 BK104.out 4).trans rfl
                        have hcz25_5 : w12.cell? ⟨gb104, 5, none⟩ = some (.int .i64 0) := (b4 BK104.out 5).trans rfl
                        have hcz25_6 : w12.cell? ⟨gb104, 6, none⟩ = some (.int .i64 0) := (b4 BK104.out 6).trans rfl
                        have hcz25_7 : w12.cell? ⟨gb104, 7, none⟩ = some (.int .i64 0) := (b4 BK104.out 7).trans rfl
                        have hcz25_8 : w12.cell? ⟨gb104, 8, none⟩ = some (.int .i64 0) := (b4 BK104.out 8).trans rfl
                        have hfz25_0 := blk_frozen BK104.out 0
                        have hfz25_1 := blk_frozen BK104.out 1
                        have hfz25_2 := blk_frozen BK104.out 2
                        have hfz25_3 := blk_frozen BK104.out 3
                        have hfz25_4 := blk_frozen BK104.out 4
                        have hfz25_5 := blk_frozen BK104.out 5
                        have hfz25_6 := blk_frozen BK104.out 6
                        have hfz25_7 := blk_frozen BK104.out 7
                        have hfz25_8 := blk_frozen BK104.out 8
                        go_wp2
                        go_meet
                        case rel => exact ⟨_, (decide ((((rd_T44 l0_0 x3_2).f4).length : Int) > 30)), (by first | rfl | (simp; done) | (simp [*]; done)), H', ⟨by have := HJ1.out; have := HK2.out; first | omega | exact Nat.le_refl _⟩, ⟨by (with_reducible repeat (first | refine b1 ?_ _ | refine b2 ?_ | refine b3 ?_ _)); refine blk_far ?_ NB102_104.out _; (with_reducible repeat (first | refine b1 ?_ _ | refine b2 ?_ | refine b3 ?_ _)); refine blk_far ?_ NB102_104.out _; (with_reducible repeat (first | refine b1 ?_ _ | refine b2 ?_ | refine b3 ?_ _)); refine blk_far ?_ NB102_104.out _; (with_reducible repeat (first | refine b1 ?_ _ | refine b2 ?_ | refine b3 ?_ _)); refine blk_far ?_ NB102_104.out _; (with_reducible repeat (first | refine b1 ?_ _ | refine b2 ?_ | refine b3 ?_ _)); refine blk_far ?_ NB102_104.out _; (with_reducible repeat (first | refine b1 ?_ _ | refine b2 ?_ | refine b3 ?_ _)); refine blk_far ?_ NB102_104.out _; (with_reducible repeat (first | refine b1 ?_ _ | refine b2 ?_ | refine b3 ?_ _)); refine blk_far ?_ NB102_104.out _; (with_reducible repeat (first | refine b1 ?_ _ | refine b2 ?_ | refine b3 ?_ _)); refine blk_far ?_ NB102_104.out _; (with_reducible repeat (first | refine b1 ?_ _ | refine b2 ?_ | refine b3 ?_ _)); refine blk_far ?_ NB102_104.out _; (with_reducible repeat (first | refine b1 ?_ _ | refine b2 ?_ | refine b3 ?_ _)); exact BK102.out⟩, ⟨by (with_reducible repeat (first | refine b1 ?_ _ | refine b2 ?_ | refine b3 ?_ _)); refine blk_put (cs := #[.int .i64 ((rd_T44 l0_0 x3_2).f0), .slice A103_1 ((rd_T44 l0_0 x3_2).f1).length c103_1, .slice A103_2 ((rd_T44 l0_0 x3_2).f2).length c103_2, .slice A103_3 ((rd_T44 l0_0 x3_2).f3).length c103_3, .slice A103_4 ((rd_T44 l0_0 x3_2).f4).length c103_4, .int .i64 ((rd_T44 l0_0 x3_2).f5), .int .i64 ((rd_T44 l0_0 x3_2).f6), .int .i64 ((rd_T44 l0_0 x3_2).f7), .int .i64 0]) ?_ 8 _ rfl; (with_reducible repeat (first | refine b1 ?_ _ | refine b2 ?_ | refine b3 ?_ _)); refine blk_put (cs := #[.int .i64 ((rd_T44 l0_0 x3_2).f0), .slice A103_1 ((rd_T44 l0_0 x3_2).f1).length c103_1, .slice A103_2 ((rd_T44 l0_0 x3_2).f2).length c103_2, .slice A103_3 ((rd_T44 l0_0 x3_2).f3).length c103_3, .slice A103_4 ((rd_T44 l0_0 x3_2).f4).length c103_4, .int .i64 ((rd_T44 l0_0 x3_2).f5), .int .i64 ((rd_T44 l0_0 x3_2).f6), .int .i64 0, .int .i64 0]) ?_ 7 _ rfl; (with_reducible repeat (first | refine b1 ?_ _ | refine b2 ?_ | refine b3 ?_ _)); refine blk_put (cs := #[.int .i64 ((rd_T44 l0_0 x3_2).f0), .slice A103_1 ((rd_T44 l0_0 x3_2).f1).length c103_1, .slice A103_2 ((rd_T44 l0_0 x3_2).f2).length c103_2, .slice A103_3 ((rd_T44 l0_0 x3_2).f3).length c103_3, .slice A103_4 ((rd_T44 l0_0 x3_2).f4).length c103_4, .int .i64 ((rd_T44 l0_0 x3_2).f5), .int .i64 0, .int .i64 0, .int .i64 0]) ?_ 6 _ rfl; (with_reducible repeat (first | refine b1 ?_ _ | refine b2 ?_ | refine b3 ?_ _)); refine blk_put (cs := #[.int .i64 ((rd_T44 l0_0 x3_2).f0), .slice A103_1 ((rd_T44 l0_0 x3_2).f1).length c103_1, .slice A103_2 ((rd_T44 l0_0 x3_2).f2).length c103_2, .slice A103_3 ((rd_T44 l0_0 x3_2).f3).length c103_3, .slice A103_4 ((rd_T44 l0_0 x3_2).f4).length c103_4, .int .i64 0, .int .i64 0, .int .i64 0, .int .i64 0]) ?_ 5 _ rfl; (with_reducible repeat (first | refine b1 ?_ _ | refine b2 ?_ | refine b3 ?_ _)); refine blk_put (cs := #[.int .i64 ((rd_T44 l0_0 x3_2).f0), .slice A103_1 ((rd_T44 l0_0 x3_2).f1).length c103_1, .slice A103_2 ((rd_T44 l0_0 x3_2).f2).length c103_2, .slice A103_3 ((rd_T44 l0_0 x3_2).f3).length c103_3, .slice none 0 0, .int .i64 0, .int .i64 0, .int .i64 0, .int .i64 0]) ?_ 4 _ rfl; (with_reducible repeat (first | refine b1 ?_ _ | refine b2 ?_ | refine b3 ?_ _)); refine blk_put (cs := #[.int .i64 ((rd_T44 l0_0 x3_2).f0), .slice A103_1 ((rd_T44 l0_0 x3_2).f1).length c103_1, .slice A103_2 ((rd_T44 l0_0 x3_2).f2).length c103_2, .slice none 0 0, .slice none 0 0, .int .i64 0, .int .i64 0, .int .i64 0, .int .i64 0]) ?_ 3 _ rfl; (with_reducible repeat (first | refine b1 ?_ _ | refine b2 ?_ | refine b3 ?_ _)); refine blk_put (cs := #[.int .i64 ((rd_T44 l0_0 x3_2).f0), .slice A103_1 ((rd_T44 l0_0 x3_2).f1).length c103_1, .slice none 0 0, .slice none 0 0, .slice none 0 0, .int .i64 0, .int .i64 0, .int .i64 0, .int .i64 0]) ?_ 2 _ rfl; (with_reducible repeat (first | refine b1 ?_ _ | refine b2 ?_ | refine b3 ?_ _)); refine blk_put (cs := #[.int .i64 ((rd_T44 l0_0 x3_2).f0), .slice none 0 0, .slice none 0 0, .slice none 0 0, .slice none 0 0, .int .i64 0, .int .i64 0, .int .i64 0, .int .i64 0]) ?_ 1 _ rfl; (with_reducible repeat (first | refine b1 ?_ _ | refine b2 ?_ | refine b3 ?_ _)); refine blk_put (cs := #[.int .i64 0, .slice none 0 0, .slice none 0 0, .slice none 0 0, .slice none 0 0, .int .i64 0, .int .i64 0, .int .i64 0, .int .i64 0]) ?_ 0 _ rfl; (with_reducible repeat (first | refine b1 ?_ _ | refine b2 ?_ | refine b3 ?_ _)); exact BK104.out⟩, ⟨by repeat (first | (with_reducible first | exact HB.out | apply c1 | apply c2 | apply c3 | refine c4 ?_ GE102.out | refine c4 ?_ GE104.out) | exact HB.out)⟩⟩
                case rest =>
                  clear HC10
                  try clear c1
                  try clear p1
                  try clear q1
                  try clear hx1
                  try clear c2
                  try clear p2
                  try clear c4
                  try clear c4b0
                  try clear c4b1
                  try clear c6
                  try clear c7
                  try clear c8
                  try clear c8b0
                  try clear c9
                  try clear c9b0
                  try clear c10
                  try clear p10
                  try clear q10
                  try clear hx10
                  try clear c13
                  try clear c15
                  try clear c15b0
                  try clear c15b1
                  try clear c16
                  try clear c18
                  try clear c18b0
                  try clear c18b1
                  try clear c19
                  try clear c21
                  try clear c21b0
                  try clear c21b1
                  try clear c22
                  try clear c24
                  try clear hcz11_0
                  try clear hcz11_1
                  try clear hcz11_2
                  try clear hcz14_0
                  try clear hcz14_1
                  try clear hcz14_2
                  try clear hcz14_3
                  try clear hcz14_4
                  try clear hcz14_5
                  try clear hcz14_6
                  try clear hcz14_7
                  try clear hcz14_8
                  try clear hcz17_0
                  try clear hcz17_1
                  try clear hcz17_2
                  try clear hcz17_3
                  try clear hcz17_4
                  try clear hcz17_5
                  try clear hcz17_6
                  try clear hcz17_7
                  try clear hcz17_8
                  try clear hcz20_0
                  try clear hcz20_1
                  try clear hcz20_2
                  try clear hcz20_3
                  try clear hcz20_4
                  try clear hcz20_5
                  try clear hcz20_6
                  try clear hcz20_7
                  try clear hcz20_8
                  try clear hcz23_0
                  try clear hcz23_1
                  try clear hcz23_2
                  try clear hcz23_3
                  try clear hcz23_4
                  try clear hcz23_5
                  try clear hcz23_6
                  try clear hcz23_7
                  try clear hcz23_8
                  try clear hcz25_0
                  try clear hcz25_1
                  try clear hcz25_2
                  try clear hcz25_3
                  try clear hcz25_4
                  try clear hcz25_5
                  try clear hcz25_6
                  try clear hcz25_7
                  try clear hcz25_8
                  try clear hcz5_0
                  try clear hcz5_1
                  try clear hcz5_2
                  try clear hcz6_0
                  try clear hcz6_1
                  try clear hcz6_2
                  try clear hfz11_0
                  try clear hfz11_1
                  try clear hfz11_2
                  try clear hfz14_0
                  try clear hfz14_1
                  try clear hfz14_2
                  try clear hfz14_3
                  try clear hfz14_4
                  try clear hfz14_5
                  try clear hfz14_6
                  try clear hfz14_7
                  try clear hfz14_8
                  try clear hfz17_0
                  try clear hfz17_1
                  try clear hfz17_2
                  try clear hfz17_3
                  try clear hfz17_4
                  try clear hfz17_5
                  try clear hfz17_6
                  try clear hfz17_7
                  try clear hfz17_8
                  try clear hfz20_0
                  try clear hfz20_1
                  try clear hfz20_2
                  try clear hfz20_3
                  try clear hfz20_4
                  try clear hfz20_5
                  try clear hfz20_6
                  try clear hfz20_7
                  try clear hfz20_8
                  try clear hfz23_0
                  try clear hfz23_1
                  try clear hfz23_2
                  try clear hfz23_3
                  try clear hfz23_4
                  try clear hfz23_5
                  try clear hfz23_6
                  try clear hfz23_7
                  try clear hfz23_8
                  try clear hfz25_0
                  try clear hfz25_1
                  try clear hfz25_2
                  try clear hfz25_3
                  try clear hfz25_4
                  try clear hfz25_5
                  try clear hfz25_6
                  try clear hfz25_7
                  try clear hfz25_8
                  try clear hfz5_0
                  try clear hfz5_1
                  try clear hfz5_2
                  try clear hfz6_0
                  try clear hfz6_1
                  try clear hfz6_2
                  try clear hx103_0
                  try clear hx103_1
                  try clear hx103_2
                  try clear hx103_3
                  try clear hx103_4
                  try clear hx103_5
                  try clear hx103_6
                  try clear hx103_7
                  try clear hx103_8
                  try clear p103
                  try clear p2
                  try clear q103
                  obtain ⟨kq, x49_9, rfl, HA, HJ9, BK102, BK104, HB⟩ := hcut
                  cases kq with
                  | zero => exact absurd HA.out (by simp [runnelref16_Long.j2])
                  | succ kj9 =>
                    have H := HA.out
                    clear HA
                    simp only [runnelref16_Long.j2] at H
                    by_cases c26 : x49_9 = true
                    · subst c26
                      have H1 : (some true) = some r := by rw [if_pos rfl] at H; exact H
                      clear H
                      have H := H1
                      clear H1
                      obtain rfl := Option.some.inj H
                      go_wp2
                      go_ret
                      exact ⟨by first | rfl | (simp [errW_none, errW_some] <;> rfl) | (simp [*, errW_none, errW_some] <;> rfl), by repeat (first | (with_reducible first | exact HB.out | apply c1 | apply c2 | apply c3 | refine c4 ?_ GE102.out | refine c4 ?_ GE104.out) | exact HB.out)⟩
                    · replace c26 := Bool.eq_false_iff.mpr c26
                      subst c26
                      have H1 : (runnelref16_Long.l1 kj9 x3_2 0 l0_0 l0_1 a0_2 ((rd_T44 l0_0 x3_2).f0) ((rd_T44 l0_0 x3_2).f1) ((rd_T44 l0_0 x3_2).f2) ((rd_T44 l0_0 x3_2).f3) ((rd_T44 l0_0 x3_2).f4) ((rd_T44 l0_0 x3_2).f5) ((rd_T44 l0_0 x3_2).f6) ((rd_T44 l0_0 x3_2).f7) ((rd_T44 l0_0 x3_2).f8)) = some r := by rw [if_neg (show ¬ (false = true) by decide)] at H; exact H
                      clear H
                      have H := H1
                      clear H1
                      have H' := am H
                      clear H
                      go_wp2
                      go_loopg [5] kj9 (fun kq v5 w' => ∃ (x5_4 : Int), v5 = .int .i64 x5_4 ∧ Aside0 (runnelref16_Long.l1 kq x3_2 x5_4 l0_0 l0_1 a0_2 ((rd_T44 l0_0 x3_2).f0) ((rd_T44 l0_0 x3_2).f1) ((rd_T44 l0_0 x3_2).f2) ((rd_T44 l0_0 x3_2).f3) ((rd_T44 l0_0 x3_2).f4) ((rd_T44 l0_0 x3_2).f5) ((rd_T44 l0_0 x3_2).f6) ((rd_T44 l0_0 x3_2).f7) ((rd_T44 l0_0 x3_2).f8) = some r) ∧ Aside0 (kq ≤ kj9) ∧ Aside0 (w'.heap[gb102]? = some (.cells #[(.slice (some ad103) l0_0.length c0_0), (.slice A0_1 l0_1.length c0_1), .int .i64 a0_2] 25 (0, 0))) ∧ Aside0 (w'.heap[gb104]? = some (.cells #[.int .i64 ((rd_T44 l0_0 x3_2).f0), (.slice A103_1 ((rd_T44 l0_0 x3_2).f1).length c103_1), (.slice A103_2 ((rd_T44 l0_0 x3_2).f2).length c103_2), (.slice A103_3 ((rd_T44 l0_0 x3_2).f3).length c103_3), (.slice A103_4 ((rd_T44 l0_0 x3_2).f4).length c103_4), .int .i64 ((rd_T44 l0_0 x3_2).f5), .int .i64 ((rd_T44 l0_0 x3_2).f6), .int .i64 ((rd_T44 l0_0 x3_2).f7), .int .i64 ((rd_T44 l0_0 x3_2).f8)] 44 (0, 0))) ∧ Aside0 (Below w.heap.size w w'))
                      case atStart => exact ⟨(0), (by first | rfl | (simp; done) | (simp [*]; done)), H', ⟨Nat.le_refl _⟩, ⟨by (with_reducible repeat (first | refine b1 ?_ _ | refine b2 ?_ | refine b3 ?_ _)); exact BK102.out⟩, ⟨by (with_reducible repeat (first | refine b1 ?_ _ | refine b2 ?_ | refine b3 ?_ _)); exact BK104.out⟩, ⟨by repeat (first | (with_reducible first | exact HB.out | apply c1 | apply c2 | apply c3 | refine c4 ?_ GE102.out | refine c4 ?_ GE104.out) | exact HB.out)⟩⟩
                      case round =>
                        clear H'
                        try clear c1
                        try clear p1
                        try clear q1
                        try clear hx1
                        try clear c2
                        try clear p2
                        try clear c4
                        try clear c4b0
                        try clear c4b1
                        try clear c6
                        try clear c7
                        try clear c8
                        try clear c8b0
                        try clear c9
                        try clear c9b0
                        try clear c10
                        try clear p10
                        try clear q10
                        try clear hx10
                        try clear c13
                        try clear c15
                        try clear c15b0
                        try clear c15b1
                        try clear c16
                        try clear c18
                        try clear c18b0
                        try clear c18b1
                        try clear c19
                        try clear c21
                        try clear c21b0
                        try clear c21b1
                        try clear c22
                        try clear c24
                        try clear c26
                        try clear hcz11_0
                        try clear hcz11_1
                        try clear hcz11_2
                        try clear hcz14_0
                        try clear hcz14_1
                        try clear hcz14_2
                        try clear hcz14_3
                        try clear hcz14_4
                        try clear hcz14_5
                        try clear hcz14_6
                        try clear hcz14_7
                        try clear hcz14_8
                        try clear hcz17_0
                        try clear hcz17_1
                        try clear hcz17_2
                        try clear hcz17_3
                        try clear hcz17_4
                        try clear hcz17_5
                        try clear hcz17_6
                        try clear hcz17_7
                        try clear hcz17_8
                        try clear hcz20_0
                        try clear hcz20_1
                        try clear hcz20_2
                        try clear hcz20_3
                        try clear hcz20_4
                        try clear hcz20_5
                        try clear hcz20_6
                        try clear hcz20_7
                        try clear hcz20_8
                        try clear hcz23_0
                        try clear hcz23_1
                        try clear hcz23_2
                        try clear hcz23_3
                        try clear hcz23_4
                        try clear hcz23_5
                        try clear hcz23_6
                        try clear hcz23_7
                        try clear hcz23_8
                        try clear hcz25_0
                        try clear hcz25_1
                        try clear hcz25_2
                        try clear hcz25_3
                        try clear hcz25_4
                        try clear hcz25_5
                        try clear hcz25_6
                        try clear hcz25_7
                        try clear hcz25_8
                        try clear hcz5_0
                        try clear hcz5_1
                        try clear hcz5_2
                        try clear hcz6_0
                        try clear hcz6_1
                        try clear hcz6_2
                        try clear hfz11_0
                        try clear hfz11_1
                        try clear hfz11_2
                        try clear hfz14_0
                        try clear hfz14_1
                        try clear hfz14_2
                        try clear hfz14_3
                        try clear hfz14_4
                        try clear hfz14_5
                        try clear hfz14_6
                        try clear hfz14_7
                        try clear hfz14_8
                        try clear hfz17_0
                        try clear hfz17_1
                        try clear hfz17_2
                        try clear hfz17_3
                        try clear hfz17_4
                        try clear hfz17_5
                        try clear hfz17_6
                        try clear hfz17_7
                        try clear hfz17_8
                        try clear hfz20_0
                        try clear hfz20_1
                        try clear hfz20_2
                        try clear hfz20_3
                        try clear hfz20_4
                        try clear hfz20_5
                        try clear hfz20_6
                        try clear hfz20_7
                        try clear hfz20_8
                        try clear hfz23_0
                        try clear hfz23_1
                        try clear hfz23_2
                        try clear hfz23_3
                        try clear hfz23_4
                        try clear hfz23_5
                        try clear hfz23_6
                        try clear hfz23_7
                        try clear hfz23_8
                        try clear hfz25_0
                        try clear hfz25_1
                        try clear hfz25_2
                        try clear hfz25_3
                        try clear hfz25_4
                        try clear hfz25_5
                        try clear hfz25_6
                        try clear hfz25_7
                        try clear hfz25_8
                        try clear hfz5_0
                        try clear hfz5_1
                        try clear hfz5_2
                        try clear hfz6_0
                        try clear hfz6_1
                        try clear hfz6_2
                        try clear hx103_0
                        try clear hx103_1
                        try clear hx103_2
                        try clear hx103_3
                        try clear hx103_4
                        try clear hx103_5
                        try clear hx103_6
                        try clear hx103_7
                        try clear hx103_8
                        try clear p1
                        try clear p10
                        try clear p103
                        try clear p2
                        try clear q1
                        try clear q10
                        try clear q103
                        obtain ⟨x5_4, rfl, HA, HK4, BK102, BK104, HB⟩ := hrel
                        cases gk with
                        | zero => exact absurd HA.out (by simp [runnelref16_Long.l1])
                        | succ k4 =>
                          have H := HA.out
                          clear HA
                          simp only [runnelref16_Long.l1] at H
                          by_cases c27 : x5_4 < (((rd_T44 l0_0 x3_2).f3).length : Int)
                          · rw [if_pos c27] at H
                            have c27b0 : decide (x5_4 < (((rd_T44 l0_0 x3_2).f3).length : Int)) = true := decide_eq_true c27
                            clear c27
                            by_cases c28 : 0 ≤ x5_4
                            · rw [if_pos c28] at H
                              have c28b0 : decide (0 ≤ x5_4) = true := decide_eq_true c28
                              clear c28
                              replace H := Option.bind_eq_some_iff.mp H
                              obtain ⟨t106, A290, H⟩ := H
                              replace H : (if t106 = true then (some true) else (runnelref16_Long.l1 k4 x3_2 (wrap64 (x5_4 + 1)) l0_0 l0_1 a0_2 ((rd_T44 l0_0 x3_2).f0) ((rd_T44 l0_0 x3_2).f1) ((rd_T44 l0_0 x3_2).f2) ((rd_T44 l0_0 x3_2).f3) ((rd_T44 l0_0 x3_2).f4) ((rd_T44 l0_0 x3_2).f5) ((rd_T44 l0_0 x3_2).f6) ((rd_T44 l0_0 x3_2).f7) ((rd_T44 l0_0 x3_2).f8))) = some r := H
                              have A29 := am A290
                              clear A290
                              by_cases c30 : t106 = true
                              · subst c30
                                have H1 : (some true) = some r := by rw [if_pos rfl] at H; exact H
                                clear H
                                have H := H1
                                clear H1
                                obtain rfl := Option.some.inj H
                                have hnb31 := NB104_102.out
                                have hnc31 := NB102_104.out
                                have hcz32_0 : wr.cell? ⟨gb104, 0, none⟩ = some (.int .i64 ((rd_T44 l0_0 x3_2).f0)) := (b4 BK104.out 0).trans rfl
                                have hcz32_1 : wr.cell? ⟨gb104, 1, none⟩ = some (.slice A103_1 ((rd_T44 l0_0 x3_2).f1).length c103_1) := (b4 BK104.out 1).trans rfl
                                have hcz32_2 : wr.cell? ⟨gb104, 2, none⟩ = some (.slice A103_2 ((rd_T44 l0_0 x3_2).f2).length c103_2) := (b4 BK104.out 2).trans rfl
                                have hcz32_3 : wr.cell? ⟨gb104, 3, none⟩ = some (.slice A103_3 ((rd_T44 l0_0 x3_2).f3).length c103_3) := (b4 BK104.out 3).trans rfl
                                have hcz32_4 : wr.cell? ⟨gb104, 4, none⟩ = some (.slice A103_4 ((rd_T44 l0_0 x3_2).f4).length c103_4) := (b4 BK104.out 4).trans rfl
                                have hcz32_5 : wr.cell? ⟨gb104, 5, none⟩ = some (.int .i64 ((rd_T44 l0_0 x3_2).f5)) := (b4 BK104.out 5).trans rfl
                                have hcz32_6 : wr.cell? ⟨gb104, 6, none⟩ = some (.int .i64 ((rd_T44 l0_0 x3_2).f6)) := (b4 BK104.out 6).trans rfl
                                have hcz32_7 : wr.cell? ⟨gb104, 7, none⟩ = some (.int .i64 ((rd_T44 l0_0 x3_2).f7)) := (b4 BK104.out 7).trans rfl
                                have hcz32_8 : wr.cell? ⟨gb104, 8, none⟩ = some (.int .i64 ((rd_T44 l0_0 x3_2).f8)) := (b4 BK104.out 8).trans rfl
                                have hfz32_0 := blk_frozen BK104.out 0
                                have hfz32_1 := blk_frozen BK104.out 1
                                have hfz32_2 := blk_frozen BK104.out 2
                                have hfz32_3 := blk_frozen BK104.out 3
                                have hfz32_4 := blk_frozen BK104.out 4
                                have hfz32_5 := blk_frozen BK104.out 5
                                have hfz32_6 := blk_frozen BK104.out 6
                                have hfz32_7 := blk_frozen BK104.out 7
                                have hfz32_8 := blk_frozen BK104.out 8
                                have p105 : 0 ≤ (x5_4 : Int) := of_decide_eq_true (by first | (with_reducible assumption) | assumption)
                                have q105 : x5_4 < (((rd_T44 l0_0 x3_2).f3).length : Int) := of_decide_eq_true (by first | (with_reducible assumption) | assumption)
                                obtain ⟨ad105, A105_0, c105_0, e105, hx105_0, hl105_0, hi105_0⟩ := at_L4 HR103_3.out x5_4 p105 q105
                                cases e105
                                replace hx105_0 := (HB.out.cell (bl w _ hx105_0)).trans hx105_0
                                have HR105_0 := am hi105_0
                                have HC105_0 := am hl105_0
                                clear hi105_0 hl105_0
                                replace p105 := eq_true p105
                                replace q105 := eq_true q105
                                go_wp2_with (first | ((with_reducible refine gate_callee (f := 17) rfl ?_); refine goesL_ (some 62) rfl rfl Try.func17 (by kernel_rfl) rfl #[.slice A105_0 (rd_L4 ((rd_T44 l0_0 x3_2).f3) x5_4).length c105_0] rfl (by (try simp only [List.map_toArray, List.map_cons, List.map_nil]); first | done | rfl | (simp only [List.length_drop, List.length_take]; rfl)) ?_; (with_reducible refine (runnelref08_Long.calls k4 _ _ (rd_L4 ((rd_T44 l0_0 x3_2).f3) x5_4) true _ ?side1 ?side2 A29.out).mono ?_); (case side1 => repeat (first | exact (d1 HR105_0.out HB.out) | (with_reducible refine d2 ?_ _) | (with_reducible refine d3 ?_ _) | (with_reducible refine d4 ?_))); (case side2 => exact HC105_0.out); rintro e w' ⟨rfl, ⟨nd, rfl⟩⟩; refine ⟨_, rfl, ?_⟩))
                                go_ret
                                exact ⟨by first | rfl | (simp [errW_none, errW_some] <;> rfl) | (simp [*, errW_none, errW_some] <;> rfl), by repeat (first | (with_reducible first | exact HB.out | apply c1 | apply c2 | apply c3 | refine c4 ?_ GE102.out | refine c4 ?_ GE104.out) | exact HB.out)⟩
                              · replace c30 := Bool.eq_false_iff.mpr c30
                                subst c30
                                have H1 : (runnelref16_Long.l1 k4 x3_2 (wrap64 (x5_4 + 1)) l0_0 l0_1 a0_2 ((rd_T44 l0_0 x3_2).f0) ((rd_T44 l0_0 x3_2).f1) ((rd_T44 l0_0 x3_2).f2) ((rd_T44 l0_0 x3_2).f3) ((rd_T44 l0_0 x3_2).f4) ((rd_T44 l0_0 x3_2).f5) ((rd_T44 l0_0 x3_2).f6) ((rd_T44 l0_0 x3_2).f7) ((rd_T44 l0_0 x3_2).f8)) = some r := by rw [if_neg (show ¬ (false = true) by decide)] at H; exact H
                                clear H
                                have H := H1
                                clear H1
                                have H' := am H
                                clear H
                                have hnb33 := NB104_102.out
                                have hnc33 := NB102_104.out
                                have hcz34_0 : wr.cell? ⟨gb104, 0, none⟩ = some (.int .i64 ((rd_T44 l0_0 x3_2).f0)) := (b4 BK104.out 0).trans rfl
                                have hcz34_1 : wr.cell? ⟨gb104, 1, none⟩ = some (.slice A103_1 ((rd_T44 l0_0 x3_2).f1).length c103_1) := (b4 BK104.out 1).trans rfl
                                have hcz34_2 : wr.cell? ⟨gb104, 2, none⟩ = some (.slice A103_2 ((rd_T44 l0_0 x3_2).f2).length c103_2) := (b4 BK104.out 2).trans rfl
                                have hcz34_3 : wr.cell? ⟨gb104, 3, none⟩ = some (.slice A103_3 ((rd_T44 l0_0 x3_2).f3).length c103_3) := (b4 BK104.out 3).trans rfl
                                have hcz34_4 : wr.cell? ⟨gb104, 4, none⟩ = some (.slice A103_4 ((rd_T44 l0_0 x3_2).f4).length c103_4) := (b4 BK104.out 4).trans rfl
                                have hcz34_5 : wr.cell? ⟨gb104, 5, none⟩ = some (.int .i64 ((rd_T44 l0_0 x3_2).f5)) := (b4 BK104.out 5).trans rfl
                                have hcz34_6 : wr.cell? ⟨gb104, 6, none⟩ = some (.int .i64 ((rd_T44 l0_0 x3_2).f6)) := (b4 BK104.out 6).trans rfl
                                have hcz34_7 : wr.cell? ⟨gb104, 7, none⟩ = some (.int .i64 ((rd_T44 l0_0 x3_2).f7)) := (b4 BK104.out 7).trans rfl
                                have hcz34_8 : wr.cell? ⟨gb104, 8, none⟩ = some (.int .i64 ((rd_T44 l0_0 x3_2).f8)) := (b4 BK104.out 8).trans rfl
                                have hfz34_0 := blk_frozen BK104.out 0
                                have hfz34_1 := blk_frozen BK104.out 1
                                have hfz34_2 := blk_frozen BK104.out 2
                                have hfz34_3 := blk_frozen BK104.out 3
                                have hfz34_4 := blk_frozen BK104.out 4
                                have hfz34_5 := blk_frozen BK104.out 5
                                have hfz34_6 := blk_frozen BK104.out 6
                                have hfz34_7 := blk_frozen BK104.out 7
                                have hfz34_8 := blk_frozen BK104.out 8
                                have p105 : 0 ≤ (x5_4 : Int) := of_decide_eq_true (by first | (with_reducible assumption) | assumption)
                                have q105 : x5_4 < (((rd_T44 l0_0 x3_2).f3).length : Int) := of_decide_eq_true (by first | (with_reducible assumption) | assumption)
                                obtain ⟨ad105, A105_0, c105_0, e105, hx105_0, hl105_0, hi105_0⟩ := at_L4 HR103_3.out x5_4 p105 q105
                                cases e105
                                replace hx105_0 := (HB.out.cell (bl w _ hx105_0)).trans hx105_0
                                have HR105_0 := am hi105_0
                                have HC105_0 := am hl105_0
                                clear hi105_0 hl105_0
                                replace p105 := eq_true p105
                                replace q105 := eq_true q105
                                go_wp2_with (first | ((with_reducible refine gate_callee (f := 17) rfl ?_); refine goesL_ (some 62) rfl rfl Try.func17 (by kernel_rfl) rfl #[.slice A105_0 (rd_L4 ((rd_T44 l0_0 x3_2).f3) x5_4).length c105_0] rfl (by (try simp only [List.map_toArray, List.map_cons, List.map_nil]); first | done | rfl | (simp only [List.length_drop, List.length_take]; rfl)) ?_; (with_reducible refine (runnelref08_Long.calls k4 _ _ (rd_L4 ((rd_T44 l0_0 x3_2).f3) x5_4) false _ ?side1 ?side2 A29.out).mono ?_); (case side1 => repeat (first | exact (d1 HR105_0.out HB.out) | (with_reducible refine d2 ?_ _) | (with_reducible refine d3 ?_ _) | (with_reducible refine d4 ?_))); (case side2 => exact HC105_0.out); rintro e w' ⟨rfl, ⟨nd, rfl⟩⟩; refine ⟨_, rfl, ?_⟩))
                                go_roundg k4
                                case measure => have := HJ1.out; have := HK2.out; have := HJ9.out; have := HK4.out; omega
                                case rel => exact ⟨(wrap64 (x5_4 + 1)), (by first | rfl | (simp; done) | (simp [*]; done)), H', ⟨by have := HJ1.out; have := HK2.out; have := HJ9.out; have := HK4.out; omega⟩, ⟨by (with_reducible repeat (first | refine b1 ?_ _ | refine b2 ?_ | refine b3 ?_ _)); exact BK102.out⟩, ⟨by (with_reducible repeat (first | refine b1 ?_ _ | refine b2 ?_ | refine b3 ?_ _)); exact BK104.out⟩, ⟨by repeat (first | (with_reducible first | exact HB.out | apply c1 | apply c2 | apply c3 | refine c4 ?_ GE102.out | refine c4 ?_ GE104.out) | exact HB.out)⟩⟩
                            · rw [if_neg c28] at H
                              exact absurd H (by simp)
                          · rw [if_neg c27] at H
                            have c27b0 : decide (x5_4 < (((rd_T44 l0_0 x3_2).f3).length : Int)) = false := decide_eq_false c27
                            clear c27
                            have H' := am H
                            clear H
                            have hnb35 := NB104_102.out
                            have hnc35 := NB102_104.out
                            have hcz36_0 : wr.cell? ⟨gb104, 0, none⟩ = some (.int .i64 ((rd_T44 l0_0 x3_2).f0)) := (b4 BK104.out 0).trans rfl
                            have hcz36_1 : wr.cell? ⟨gb104, 1, none⟩ = some (.slice A103_1 ((rd_T44 l0_0 x3_2).f1).length c103_1) := (b4 BK104.out 1).trans rfl
                            have hcz36_2 : wr.cell? ⟨gb104, 2, none⟩ = some (.slice A103_2 ((rd_T44 l0_0 x3_2).f2).length c103_2) := (b4 BK104.out 2).trans rfl
                            have hcz36_3 : wr.cell? ⟨gb104, 3, none⟩ = some (.slice A103_3 ((rd_T44 l0_0 x3_2).f3).length c103_3) := (b4 BK104.out 3).trans rfl
                            have hcz36_4 : wr.cell? ⟨gb104, 4, none⟩ = some (.slice A103_4 ((rd_T44 l0_0 x3_2).f4).length c103_4) := (b4 BK104.out 4).trans rfl
                            have hcz36_5 : wr.cell? ⟨gb104, 5, none⟩ = some (.int .i64 ((rd_T44 l0_0 x3_2).f5)) := (b4 BK104.out 5).trans rfl
                            have hcz36_6 : wr.cell? ⟨gb104, 6, none⟩ = some (.int .i64 ((rd_T44 l0_0 x3_2).f6)) := (b4 BK104.out 6).trans rfl
                            have hcz36_7 : wr.cell? ⟨gb104, 7, none⟩ = some (.int .i64 ((rd_T44 l0_0 x3_2).f7)) := (b4 BK104.out 7).trans rfl
                            have hcz36_8 : wr.cell? ⟨gb104, 8, none⟩ = some (.int .i64 ((rd_T44 l0_0 x3_2).f8)) := (b4 BK104.out 8).trans rfl
                            have hfz36_0 := blk_frozen BK104.out 0
                            have hfz36_1 := blk_frozen BK104.out 1
                            have hfz36_2 := blk_frozen BK104.out 2
                            have hfz36_3 := blk_frozen BK104.out 3
                            have hfz36_4 := blk_frozen BK104.out 4
                            have hfz36_5 := blk_frozen BK104.out 5
                            have hfz36_6 := blk_frozen BK104.out 6
                            have hfz36_7 := blk_frozen BK104.out 7
                            have hfz36_8 := blk_frozen BK104.out 8
                            go_wp2
                            go_roundg k4
                            case measure => have := HJ1.out; have := HK2.out; have := HJ9.out; have := HK4.out; omega
                            case rel => exact ⟨(wrap64 (x3_2 + 1)), (by first | rfl | (simp; done) | (simp [*]; done)), H', ⟨by have := HJ1.out; have := HK2.out; have := HJ9.out; have := HK4.out; omega⟩, ⟨by (with_reducible repeat (first | refine b1 ?_ _ | refine b2 ?_ | refine b3 ?_ _)); exact BK102.out⟩, ⟨by repeat (first | (with_reducible first | exact HB.out | apply c1 | apply c2 | apply c3 | refine c4 ?_ GE102.out | refine c4 ?_ GE104.out) | exact HB.out)⟩⟩
              · rw [if_neg c9] at H
                exact absurd H (by simp)
            · rw [if_neg c8] at H
              have c8b0 : decide (x3_2 < (l0_0.length : Int)) = false := decide_eq_false c8
              clear c8
              obtain rfl := Option.some.inj H
              have hcz37_0 : wr.cell? ⟨gb102, 0, none⟩ = some (.slice A0_0 l0_0.length c0_0) := (b4 BK102.out 0).trans rfl
              have hcz37_1 : wr.cell? ⟨gb102, 1, none⟩ = some (.slice A0_1 l0_1.length c0_1) := (b4 BK102.out 1).trans rfl
              have hcz37_2 : wr.cell? ⟨gb102, 2, none⟩ = some (.int .i64 a0_2) := (b4 BK102.out 2).trans rfl
              have hfz37_0 := blk_frozen BK102.out 0
              have hfz37_1 := blk_frozen BK102.out 1
              have hfz37_2 := blk_frozen BK102.out 2
              go_wp2
              go_ret
              exact ⟨by first | rfl | (simp [errW_none, errW_some] <;> rfl) | (simp [*, errW_none, errW_some] <;> rfl), by repeat (first | (with_reducible first | exact HB.out | apply c1 | apply c2 | apply c3 | refine c4 ?_ GE102.out) | exact HB.out)⟩

end Go.Proofs.Ytbdpnecnnokkkaa.PSheetSame
