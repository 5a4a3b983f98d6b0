/- One piece of the machine's side of the law, written by a program over the translation; Lean checks it. -/
import Derived.Test.YtednmkmhileikaaOHoldPlaysx0
import Derived.Test.YtednmkmhileikaaOHoldPlaysx1
import Derived.WalkSpells
import Derived.Shelf.SlSortCmp.NoneTotal
import Derived.Shelf.SlicesG.Cmp
import Derived.Test.YtednmkmhileikaaShort
namespace Go.Proofs.Ytednmkmhileikaa.PHoldPlays
open Go.RowKit Go.Proofs.YtednmkmhileikaaW.PrintWords Go.Proofs.YtednmkmhileikaaW.PrintLast Go.Proofs.YtednmkmhileikaaW.PrintMore
attribute [local go_sem] max2_int min2_int max_two min_two max_three min_three max_four min_four   -- for this text's walks alone
set_option linter.unusedVariables false
set_option linter.unusedSimpArgs false

attribute [local go_sem high] eqA24
/-! ### runnelref04_Same: function 21 -/
def runnelref04_Same.l0 : Nat → List (S24) → List (S24) → Int → Option (Bool)
 | 0, _, _, _ => none
 | k + 1, x0, x1, x5 => if x5 < (x0.length : Int) then (if 0 ≤ x5 then (if x5 < (x1.length : Int) then (if (!(((rd_T24 x0 x5).f0) == ((rd_T24 x1 x5).f0)) || (!(((rd_T24 x0 x5).f1) == ((rd_T24 x1 x5).f1)))) = true then (some false) else (runnelref04_Same.l0 k x0 x1 (wrap64 (x5 + 1)))) else (none)) else (none)) else (some true)
def runnelref04_Same.f (k : Nat) (l0 : List (S24)) (l1 : List (S24)) : Option (Bool) := if (l0.length : Int) = (l1.length : Int) then (runnelref04_Same.l0 k l0 l1 0) else (some false)
set_option maxHeartbeats 8000000 in
set_option maxRecDepth 100000 in
theorem runnelref04_Same.calls (k : Nat) (A0 : Option Addr) (c0 : Nat) (l0 : List (S24)) (A1 : Option Addr) (c1 : Nat) (l1 : List (S24)) (r : Bool) (w : World) (hr0 : Kd.C k24 w A0 l0.length l0) (hc0 : l0.length ≤ c0) (hr1 : Kd.C k24 w A1 l1.length l1) (hc1 : l1.length ≤ c1) (h : runnelref04_Same.f k l0 l1 = some r) :
  Calls Try.prog 21 #[.slice A0 l0.length c0, .slice A1 l1.length c1] w fun e w' => e = .returned (.bool r) ∧ Drawn0 w w' := by
 have hu24 := Try.underlying24
 have HR0 := Aside0.mk hr0
 have HC0 := Aside0.mk hc0
 clear hr0 hc0
 have HR1 := Aside0.mk hr1
 have HC1 := Aside0.mk hc1
 clear hr1 hc1
 have H : (if (l0.length : Int) = (l1.length : Int) then (runnelref04_Same.l0 k l0 l1 0) else (some false)) = some r := h
 clear h
 by_cases c3 : (l0.length : Int) = (l1.length : Int)
 ·
  rw [if_pos c3] at H
  have c3b0 : ((l0.length : Int) == (l1.length : Int)) = true := beq_iff_eq.mpr c3
  have c3b1 : ((l0.length : Int) != (l1.length : Int)) = false := bne_eq_false_iff_eq.mpr c3
  have c3b2 : (l0.length == l1.length) = true := by first | simpa using c3 | (simp at c3 ⊢; omega)
  clear c3
  have H' := Aside0.mk H
  clear H
  go_enter Try.func21, Try.ntmps21
  go_wp2
  repeat (go_quiet (fail); try go_wp2)
  go_loopg [5] k (fun kq v5 w' => ∃ (x5_1 : Int), v5 = .int .i64 x5_1 ∧ Aside0 (runnelref04_Same.l0 kq l0 l1 x5_1 = some r) ∧ Aside0 (kq ≤ k) ∧ Drawn0 w w')
  case atStart => exact ⟨(0), (by first | rfl | (simp; done) | (simp [*]; done)), H', ⟨Nat.le_refl _⟩, by repeat (first | exact Drawn0.refl _ | apply Drawn0.step)⟩
  case round =>
   clear H'
   (try clear c1); (try clear c3); (try clear c3b0); (try clear c3b1); (try clear c3b2)
   obtain ⟨x5_1, rfl, HA, HK1, ⟨m1, rfl⟩⟩ := hrel
   cases gk with
   | zero => exact absurd HA.out (by simp [runnelref04_Same.l0])
   | succ k1 =>
    have H := HA.out
    clear HA
    simp only [runnelref04_Same.l0] at H
    by_cases c4 : x5_1 < (l0.length : Int)
    ·
     rw [if_pos c4] at H
     have c4b0 : decide (x5_1 < (l0.length : Int)) = true := decide_eq_true c4
     clear c4
     by_cases c5 : 0 ≤ x5_1
     ·
      rw [if_pos c5] at H
      have c5b0 : decide (0 ≤ x5_1) = true := decide_eq_true c5
      clear c5
      by_cases c6 : x5_1 < (l1.length : Int)
      ·
       rw [if_pos c6] at H
       have c6b0 : decide (x5_1 < (l1.length : Int)) = true := decide_eq_true c6
       clear c6
       by_cases c7 : (!(((rd_T24 l0 x5_1).f0) == ((rd_T24 l1 x5_1).f0)) || (!(((rd_T24 l0 x5_1).f1) == ((rd_T24 l1 x5_1).f1)))) = true
       ·
        rw [if_pos c7] at H
        have c7b0 : (!(((rd_T24 l0 x5_1).f0) == ((rd_T24 l1 x5_1).f0)) || (!(((rd_T24 l0 x5_1).f1) == ((rd_T24 l1 x5_1).f1)))) = true := c7
        clear c7
        obtain rfl := Option.some.inj H
        have p302 : 0 ≤ (x5_1 : Int) := of_decide_eq_true (by first | (with_reducible assumption) | assumption)
        have q302 : x5_1 < (l0.length : Int) := of_decide_eq_true (by first | (with_reducible assumption) | assumption)
        obtain ⟨ad302, e302, hx302_0, hx302_1⟩ := at_T24 HR0.out x5_1 p302 q302
        cases e302
        replace p302 := eq_true p302
        replace q302 := eq_true q302
        have p303 : 0 ≤ (x5_1 : Int) := of_decide_eq_true (by first | (with_reducible assumption) | assumption)
        have q303 : x5_1 < (l1.length : Int) := of_decide_eq_true (by first | (with_reducible assumption) | assumption)
        obtain ⟨ad303, e303, hx303_0, hx303_1⟩ := at_T24 HR1.out x5_1 p303 q303
        cases e303
        replace p303 := eq_true p303
        replace q303 := eq_true q303
        go_wp2
        repeat (go_quiet (fail); try go_wp2)
        go_ret
        exact ⟨by first | rfl | (simp; done) | (simp [*]; done), by repeat (first | exact Drawn0.refl _ | apply Drawn0.step)⟩
       ·
        rw [if_neg c7] at H
        have c7b0 : (!(((rd_T24 l0 x5_1).f0) == ((rd_T24 l1 x5_1).f0)) || (!(((rd_T24 l0 x5_1).f1) == ((rd_T24 l1 x5_1).f1)))) = false := by simpa using c7
        clear c7
        have H' := Aside0.mk H
        clear H
        have p302 : 0 ≤ (x5_1 : Int) := of_decide_eq_true (by first | (with_reducible assumption) | assumption)
        have q302 : x5_1 < (l0.length : Int) := of_decide_eq_true (by first | (with_reducible assumption) | assumption)
        obtain ⟨ad302, e302, hx302_0, hx302_1⟩ := at_T24 HR0.out x5_1 p302 q302
        cases e302
        replace p302 := eq_true p302
        replace q302 := eq_true q302
        have p303 : 0 ≤ (x5_1 : Int) := of_decide_eq_true (by first | (with_reducible assumption) | assumption)
        have q303 : x5_1 < (l1.length : Int) := of_decide_eq_true (by first | (with_reducible assumption) | assumption)
        obtain ⟨ad303, e303, hx303_0, hx303_1⟩ := at_T24 HR1.out x5_1 p303 q303
        cases e303
        replace p303 := eq_true p303
        replace q303 := eq_true q303
        go_wp2
        repeat (go_quiet (fail); try go_wp2)
        go_roundg k1
        case measure => have := HK1.out; omega
        case rel => exact ⟨(wrap64 (x5_1 + 1)), (by first | rfl | (simp; done) | (simp [*]; done)), H', ⟨by have := HK1.out; omega⟩, by repeat (first | exact Drawn0.refl _ | apply Drawn0.step)⟩
      ·
       rw [if_neg c6] at H
       exact absurd H (by simp)
     ·
      rw [if_neg c5] at H
      exact absurd H (by simp)
    ·
     rw [if_neg c4] at H
     have c4b0 : decide (x5_1 < (l0.length : Int)) = false := decide_eq_false c4
     clear c4
     obtain rfl := Option.some.inj H
     go_wp2
     repeat (go_quiet (fail); try go_wp2)
     go_ret
     exact ⟨by first | rfl | (simp; done) | (simp [*]; done), by repeat (first | exact Drawn0.refl _ | apply Drawn0.step)⟩
 ·
  rw [if_neg c3] at H
  have c3b0 : ((l0.length : Int) == (l1.length : Int)) = false := beq_eq_false_iff_ne.mpr c3
  have c3b1 : ((l0.length : Int) != (l1.length : Int)) = true := bne_iff_ne.mpr c3
  have c3b2 : (l0.length == l1.length) = false := by first | simpa using c3 | (simp at c3 ⊢; omega)
  obtain rfl := Option.some.inj H
  go_enter Try.func21, Try.ntmps21
  go_wp2
  repeat (go_quiet (fail); try go_wp2)
  go_ret
  exact ⟨by first | rfl | (simp; done) | (simp [*]; done), by repeat (first | exact Drawn0.refl _ | apply Drawn0.step)⟩

/-! ### api_Time: function 55 -/
def api_Time.f (l0 : List (S24)) : Option ((List (S24))) := (some (([] : List (S24)) : List (S24))).bind fun y304 => (if y304.length + l0.length < 8796093022208 then (some (y304 ++ l0)) else (none))
set_option maxHeartbeats 8000000 in
set_option maxRecDepth 100000 in
theorem api_Time.calls (A0 : Option Addr) (c0 : Nat) (l0 : List (S24)) (r : List (S24)) (w : World) (hr0 : Kd.C k24 w A0 l0.length l0) (hc0 : l0.length ≤ c0) (h : api_Time.f l0 = some r) :
  Calls Try.prog 55 #[.slice A0 l0.length c0] w fun e w' => ∃ v0_ : Value, e = .returned (v0_) ∧ Kd.R k24 24 w' w.heap.size (fun _ => True) v0_ r ∧ Below w.heap.size w w' := by
 have HR0 := Aside0.mk hr0
 have HC0 := Aside0.mk hc0
 clear hr0 hc0
 have HB := Aside0.mk (Below.refl w.heap.size w)
 have H : ((some (([] : List (S24)) : List (S24))).bind fun y304 => (if y304.length + l0.length < 8796093022208 then (some (y304 ++ l0)) else (none))) = some r := h
 clear h
 obtain ⟨y304, hy304⟩ : ∃ y_ : List (S24), y_ = (([] : List (S24))) := ⟨_, rfl⟩
 replace H : (if y304.length + l0.length < 8796093022208 then (some (y304 ++ l0)) else (none)) = some r := by first | (rw [hy304]; with_reducible exact H) | (have H2_ := (Option.bind_some _ _).symm.trans H; rw [hy304]; with_reducible exact H2_) | (have H2_ := (Option.bind_some _ _).symm.trans H; with_reducible exact H2_) | with_reducible exact H | (rw [hy304]; exact H) | exact H
 have Ny304 := Aside0.mk hy304
 clear hy304
 by_cases c2 : y304.length + l0.length < 8796093022208
 ·
  rw [if_pos c2] at H
  have LMc2 := Aside0.mk c2
  clear c2
  obtain ⟨y307, hy307⟩ : ∃ y_ : List (S24), y_ = (y304 ++ l0) := ⟨_, rfl⟩
  replace H : (some y307) = some r := by first | (rw [hy307]; with_reducible exact H) | (have H2_ := (Option.bind_some _ _).symm.trans H; rw [hy307]; with_reducible exact H2_) | (have H2_ := (Option.bind_some _ _).symm.trans H; with_reducible exact H2_) | with_reducible exact H | (rw [hy307]; exact H) | exact H
  have Ny307 := Aside0.mk hy307
  clear hy307
  obtain rfl := Option.some.inj H
  rcases A0 with _ | ad0
  ·
   have hnil : Aside0 (l0 = []) := Aside0.mk (by
    rcases Nat.eq_zero_or_pos l0.length with h0 | h0
    ·
     exact List.eq_nil_of_length_eq_zero h0
    ·
     obtain ⟨ad, he, _⟩ := HR0.out.2.2 h0; cases he)
   have hne : ∀ W, (binOp .eql 34 (.slice none l0.length c0) (.slice none 0 0)).run Try.prog W = .ok (.bool true) W := fun W => Lib.run_eql_slice_nil (P := Try.prog) W 34 24 none _ _ 0 0 Try.underlying34
   go_enter Try.func55, Try.ntmps55
   go_wp2
   go_ret
   exact ⟨_, rfl, (by rw [Ny307.out, Ny304.out, hnil.out]; exact Kd.R_nil _ _ _ _ _), by repeat (first | (with_reducible first | exact HB.out | apply below_alloc | apply pw_below_drewN | apply below_drew1) | exact HB.out)⟩
  ·
   have hne : ∀ W, (binOp .eql 34 (.slice (some ad0) l0.length c0) (.slice none 0 0)).run Try.prog W = .ok (.bool false) W := fun W => Lib.run_eql_slice_nil (P := Try.prog) W 34 24 (some ad0) _ _ 0 0 Try.underlying34
   go_enter Try.func55, Try.ntmps55
   go_wp2_with (first | ((with_reducible refine gate_dst (N := 5) rfl ?_); refine Kd.R_lit k24 _ 24 ?hg (N := 5) ?hd (xs := ([] : List (S24))) (inner := []) (ok := fun _ => True) (okp := fun _ => True) ?hr ?hp (fun _ hk => hk) trivial (Below.refl _ _) (Nat.le_refl _) (by simp) ?_; (case hd => rfl); (case hg => rfl); (case hr => first | (go_simp; done) | (go_simp; rfl)); (case hp => exact (Reps.none _ _)); intro v305 w3 ho4 hb hg_ hnew_; clear hg_ hnew_; (first | rw [← Ny304.out] at ho4 | (simp only [Int.reduceToNat] at ho4; rw [← Ny304.out] at ho4)); have n0_ := Aside0.mk (Kd.R_lower ho4 (below_size bl)); have n1_ := Aside0.mk (below_step bl hb); clear HB; have HO306 := n0_; have HB := n1_; clear n0_ n1_; clear hb ho4) | ((with_reducible refine gate_builtin (b := .append) (xs := #[.tmp 5, .tmp 6]) rfl ?_); at_builtin; refine Kd.R_append_rows k24 (w0 := w) w.heap.size rfl (.tmp 5) (.tmp 6) 34 24 (.agg #[(.int .i64 0), (.int .i64 0)]) 16 rfl Try.underlying34 info24 rfl (by decide) (by omega) v305 y304 l0 _ _ _ (fun _ => True) (fun _ => False) rfl rfl ?aO ?aR (fun _ _ h => h) (fun _ h => h.elim) ?aF ?aB ?aS ?aL ?_; (case aR => repeat (first | exact (Kd.C_below HR0.out HB.out) | (with_reducible refine Kd.C_alloc ?_ _) | (with_reducible refine Kd.C_drewN ?_ _) | (with_reducible refine Kd.C_drew ?_))); (case aB => exact bl); (case aF => exact (fun _ _ => trivial)); (case aO => exact (rp HO306.out)); (case aS => exact (below_size bl)); (case aL => have := LMc2.out; omega); intro v308 w5 ho hb hg hat; rw [← Ny307.out] at ho; have n0_ := Aside0.mk (hb); have n1_ := Aside0.mk (ho); clear HB; clear HO306; have HB := n0_; have HO309 := n1_; clear n0_ n1_; clear ho hb hg hat))
   go_ret
   exact ⟨_, erq, by (with_reducible repeat (first | apply Kd.R_alloc | apply Kd.R_drewN | apply Kd.R_drew)); exact HO309.out, by repeat (first | (with_reducible first | exact HB.out | apply below_alloc | apply pw_below_drewN | apply below_drew1) | exact HB.out)⟩
 ·
  rw [if_neg c2] at H
  exact absurd H (by simp)

/-! ### front_antichain_ahead: function 57 -/
def front_antichain_ahead.l0 : Nat → List (S24) → Int → Int → Int → Int → Option (Bool)
 | 0, _, _, _, _, _ => none
 | k + 1, x7, x8, x9, x311000, x311001 => if x9 < x8 then (if 0 ≤ x9 then (if x9 < (x7.length : Int) then (if ((rd_T24 x7 x9).f0) > x311000 then (some false) else (if ((rd_T24 x7 x9).f1) ≤ x311001 then (some true) else (front_antichain_ahead.l0 k x7 x8 (wrap64 (x9 + 1)) x311000 x311001))) else (none)) else (none)) else (some false)
def front_antichain_ahead.f (k : Nat) (l0 : List (S24)) (a1_0 : Int) (a1_1 : Int) : Option (Bool) := front_antichain_ahead.l0 k l0 (l0.length : Int) 0 a1_0 a1_1
set_option maxHeartbeats 8000000 in
set_option maxRecDepth 100000 in
theorem front_antichain_ahead.calls (k : Nat) (A0 : Option Addr) (c0 : Nat) (l0 : List (S24)) (a1_0 : Int) (a1_1 : Int) (r : Bool) (w : World) (hr0 : Kd.C k24 w A0 l0.length l0) (hc0 : l0.length ≤ c0) (h : front_antichain_ahead.f k l0 a1_0 a1_1 = some r) :
  Calls Try.prog 57 #[.slice A0 l0.length c0, .agg #[.int .i64 a1_0, .int .i64 a1_1]] w fun e w' => e = .returned (.bool r) ∧ Below w.heap.size w w' := by
 have hu24 := Try.underlying24
 have HR0 := Aside0.mk hr0
 have HC0 := Aside0.mk hc0
 clear hr0 hc0
 have HB := Aside0.mk (Below.refl w.heap.size w)
 have H : (front_antichain_ahead.l0 k l0 (l0.length : Int) 0 a1_0 a1_1) = some r := h
 clear h
 have H' := Aside0.mk H
 clear H
 go_enter Try.func57, Try.ntmps57
 go_wp2_with (first | ((with_reducible refine gate_dst (N := 3) rfl ?_); refine box_event ?hg (N := 3) ?hd (cs := #[.int .i64 a1_0, .int .i64 a1_1]) (t := 24) ?hr ?_; (case hd => rfl); (case hg => rfl); (case hr => first | (go_simp; done) | (go_simp; rfl)); intro gb310 hg w3 hbox hb; have n0_ := Aside0.mk (below_step bl hb); have n1_ := Aside0.mk (hbox); have n2_ := Aside0.mk ((by rw [hg]; exact (below_size bl) : w.heap.size ≤ gb310)); have n3_ := Aside0.mk ((by rw [hg]; exact (below_size bl) : w.heap.size ≤ gb310)); clear HB; have HB := n0_; have BK310 := n1_; have GW310 := n2_; have GE310 := n3_; clear n0_ n1_ n2_ n3_; clear hb hbox hg))
 go_loopg [9] k (fun kq v9 w' => ∃ (x9_1 : Int), v9 = .int .i64 x9_1 ∧ Aside0 (front_antichain_ahead.l0 kq l0 (l0.length : Int) x9_1 a1_0 a1_1 = some r) ∧ Aside0 (kq ≤ k) ∧ Aside0 (w'.heap[gb310]? = some (.cells #[.int .i64 a1_0, .int .i64 a1_1] 24 (0, 0))) ∧ Aside0 (Below w.heap.size w w'))
 case atStart => exact ⟨(0), (by first | rfl | (simp; done) | (simp [*]; done)), H', ⟨Nat.le_refl _⟩, ⟨by (with_reducible repeat (first | refine blk_drewN ?_ _ | refine blk_drew ?_ | refine blk_alloc ?_ _)); exact BK310.out⟩, ⟨bl⟩⟩
 case round =>
  clear H'
  obtain ⟨x9_1, rfl, HA, HK1, BK310, HB⟩ := hrel
  cases gk with
  | zero => exact absurd HA.out (by simp [front_antichain_ahead.l0])
  | succ k1 =>
   have H := HA.out
   clear HA
   simp only [front_antichain_ahead.l0] at H
   by_cases c4 : x9_1 < (l0.length : Int)
   ·
    rw [if_pos c4] at H
    have c4b0 : decide (x9_1 < (l0.length : Int)) = true := decide_eq_true c4
    clear c4
    by_cases c5 : 0 ≤ x9_1
    ·
     rw [if_pos c5] at H
     have c5b0 : decide (0 ≤ x9_1) = true := decide_eq_true c5
     clear c5
     by_cases c6 : x9_1 < (l0.length : Int)
     ·
      rw [if_pos c6] at H
      have c6b0 : decide (x9_1 < (l0.length : Int)) = true := decide_eq_true c6
      clear c6
      by_cases c7 : ((rd_T24 l0 x9_1).f0) > a1_0
      ·
       rw [if_pos c7] at H
       have c7b0 : decide (a1_0 < ((rd_T24 l0 x9_1).f0)) = true := decide_eq_true c7
       clear c7
       obtain rfl := Option.some.inj H
       have p311 : 0 ≤ (x9_1 : Int) := of_decide_eq_true (by first | (with_reducible assumption) | assumption)
       have q311 : x9_1 < (l0.length : Int) := of_decide_eq_true (by first | (with_reducible assumption) | assumption)
       obtain ⟨ad311, e311, hx311_0, hx311_1⟩ := at_T24 HR0.out x9_1 p311 q311
       cases e311
       replace hx311_0 := bc HB.out hx311_0
       replace hx311_1 := bc HB.out hx311_1
       replace p311 := eq_true p311
       replace q311 := eq_true q311
       go_wp2_with (first | ((with_reducible refine gate_dst (N := 6) rfl ?_); refine box_event ?hg (N := 6) ?hd (cs := #[.int .i64 0, .int .i64 0]) (t := 24) ?hr ?_; (case hd => rfl); (case hg => rfl); (case hr => first | (go_simp; done) | (go_simp; rfl)); intro gb312 hg w8 hbox hb; have n0_ := Aside0.mk (blk_below (g := gb310) (o := .cells #[.int .i64 a1_0, .int .i64 a1_1] 24 (0, 0)) bk hb); have n1_ := Aside0.mk (below_step bl hb); have n2_ := Aside0.mk (hbox); have n3_ := Aside0.mk ((by rw [hg]; exact (below_size bl) : w.heap.size ≤ gb312)); have n4_ := Aside0.mk ((by rw [hg]; exact (below_size bl) : w.heap.size ≤ gb312)); have n5_ := Aside0.mk ((by rw [hg]; exact Nat.ne_of_lt blt : gb310 ≠ gb312)); have n6_ := Aside0.mk ((by rw [hg]; exact Nat.ne_of_gt blt : gb312 ≠ gb310)); clear BK310; clear HB; have BK310 := n0_; have HB := n1_; have BK312 := n2_; have GW312 := n3_; have GE312 := n4_; have NB310_312 := n5_; have NB312_310 := n6_; clear n0_ n1_ n2_ n3_ n4_ n5_ n6_; clear hb hbox hg; have hnb9 := NB312_310.out; have hnc9 := NB310_312.out; obtain ⟨hcz10_0, hcz10_1⟩ := cells2 BK312.out; obtain ⟨hfz10_0, hfz10_1⟩ := frz2 BK312.out; obtain ⟨hcz11_0, hcz11_1⟩ := cells2 BK310.out; obtain ⟨hfz11_0, hfz11_1⟩ := frz2 BK310.out))
       go_ret
       exact ⟨erq, by repeat (first | (with_reducible first | exact HB.out | apply below_alloc | apply pw_below_drewN | apply below_drew1 | refine below_set ?_ GE310.out | refine below_set ?_ GE312.out) | exact HB.out)⟩
      ·
       rw [if_neg c7] at H
       have c7b0 : decide (a1_0 < ((rd_T24 l0 x9_1).f0)) = false := decide_eq_false c7
       clear c7
       by_cases c12 : ((rd_T24 l0 x9_1).f1) ≤ a1_1
       ·
        rw [if_pos c12] at H
        have c12b0 : decide (((rd_T24 l0 x9_1).f1) ≤ a1_1) = true := decide_eq_true c12
        clear c12
        obtain rfl := Option.some.inj H
        have p311 : 0 ≤ (x9_1 : Int) := of_decide_eq_true (by first | (with_reducible assumption) | assumption)
        have q311 : x9_1 < (l0.length : Int) := of_decide_eq_true (by first | (with_reducible assumption) | assumption)
        obtain ⟨ad311, e311, hx311_0, hx311_1⟩ := at_T24 HR0.out x9_1 p311 q311
        cases e311
        replace hx311_0 := bc HB.out hx311_0
        replace hx311_1 := bc HB.out hx311_1
        replace p311 := eq_true p311
        replace q311 := eq_true q311
        go_wp2_with (first | ((with_reducible refine gate_dst (N := 6) rfl ?_); refine box_event ?hg (N := 6) ?hd (cs := #[.int .i64 0, .int .i64 0]) (t := 24) ?hr ?_; (case hd => rfl); (case hg => rfl); (case hr => first | (go_simp; done) | (go_simp; rfl)); intro gb312 hg w13 hbox hb; have n0_ := Aside0.mk (blk_below (g := gb310) (o := .cells #[.int .i64 a1_0, .int .i64 a1_1] 24 (0, 0)) bk hb); have n1_ := Aside0.mk (below_step bl hb); have n2_ := Aside0.mk (hbox); have n3_ := Aside0.mk ((by rw [hg]; exact (below_size bl) : w.heap.size ≤ gb312)); have n4_ := Aside0.mk ((by rw [hg]; exact (below_size bl) : w.heap.size ≤ gb312)); have n5_ := Aside0.mk ((by rw [hg]; exact Nat.ne_of_lt blt : gb310 ≠ gb312)); have n6_ := Aside0.mk ((by rw [hg]; exact Nat.ne_of_gt blt : gb312 ≠ gb310)); clear BK310; clear HB; have BK310 := n0_; have HB := n1_; have BK312 := n2_; have GW312 := n3_; have GE312 := n4_; have NB310_312 := n5_; have NB312_310 := n6_; clear n0_ n1_ n2_ n3_ n4_ n5_ n6_; clear hb hbox hg; have hnb14 := NB312_310.out; have hnc14 := NB310_312.out; obtain ⟨hcz15_0, hcz15_1⟩ := cells2 BK312.out; obtain ⟨hfz15_0, hfz15_1⟩ := frz2 BK312.out; obtain ⟨hcz16_0, hcz16_1⟩ := cells2 BK310.out; obtain ⟨hfz16_0, hfz16_1⟩ := frz2 BK310.out))
        go_ret
        exact ⟨erq, by repeat (first | (with_reducible first | exact HB.out | apply below_alloc | apply pw_below_drewN | apply below_drew1 | refine below_set ?_ GE310.out | refine below_set ?_ GE312.out) | exact HB.out)⟩
       ·
        rw [if_neg c12] at H
        have c12b0 : decide (((rd_T24 l0 x9_1).f1) ≤ a1_1) = false := decide_eq_false c12
        clear c12
        have H' := Aside0.mk H
        clear H
        have p311 : 0 ≤ (x9_1 : Int) := of_decide_eq_true (by first | (with_reducible assumption) | assumption)
        have q311 : x9_1 < (l0.length : Int) := of_decide_eq_true (by first | (with_reducible assumption) | assumption)
        obtain ⟨ad311, e311, hx311_0, hx311_1⟩ := at_T24 HR0.out x9_1 p311 q311
        cases e311
        replace hx311_0 := bc HB.out hx311_0
        replace hx311_1 := bc HB.out hx311_1
        replace p311 := eq_true p311
        replace q311 := eq_true q311
        go_wp2_with (first | ((with_reducible refine gate_dst (N := 6) rfl ?_); refine box_event ?hg (N := 6) ?hd (cs := #[.int .i64 0, .int .i64 0]) (t := 24) ?hr ?_; (case hd => rfl); (case hg => rfl); (case hr => first | (go_simp; done) | (go_simp; rfl)); intro gb312 hg w17 hbox hb; have n0_ := Aside0.mk (blk_below (g := gb310) (o := .cells #[.int .i64 a1_0, .int .i64 a1_1] 24 (0, 0)) bk hb); have n1_ := Aside0.mk (below_step bl hb); have n2_ := Aside0.mk (hbox); have n3_ := Aside0.mk ((by rw [hg]; exact (below_size bl) : w.heap.size ≤ gb312)); have n4_ := Aside0.mk ((by rw [hg]; exact (below_size bl) : w.heap.size ≤ gb312)); have n5_ := Aside0.mk ((by rw [hg]; exact Nat.ne_of_lt blt : gb310 ≠ gb312)); have n6_ := Aside0.mk ((by rw [hg]; exact Nat.ne_of_gt blt : gb312 ≠ gb310)); clear BK310; clear HB; have BK310 := n0_; have HB := n1_; have BK312 := n2_; have GW312 := n3_; have GE312 := n4_; have NB310_312 := n5_; have NB312_310 := n6_; clear n0_ n1_ n2_ n3_ n4_ n5_ n6_; clear hb hbox hg; have hnb18 := NB312_310.out; have hnc18 := NB310_312.out; obtain ⟨hcz19_0, hcz19_1⟩ := cells2 BK312.out; obtain ⟨hfz19_0, hfz19_1⟩ := frz2 BK312.out; obtain ⟨hcz20_0, hcz20_1⟩ := cells2 BK310.out; obtain ⟨hfz20_0, hfz20_1⟩ := frz2 BK310.out))
        go_roundg k1
        case measure => have := HK1.out; omega
        case rel => exact ⟨(wrap64 (x9_1 + 1)), (by first | rfl | (simp; done) | (simp [*]; done)), H', ⟨by have := HK1.out; omega⟩, ⟨by (iterate 2 ((with_reducible repeat (first | refine blk_drewN ?_ _ | refine blk_drew ?_ | refine blk_alloc ?_ _)); refine blk_far ?_ NB310_312.out _)); (with_reducible repeat (first | refine blk_drewN ?_ _ | refine blk_drew ?_ | refine blk_alloc ?_ _)); exact BK310.out⟩, ⟨bl⟩⟩
     ·
      rw [if_neg c6] at H
      exact absurd H (by simp)
    ·
     rw [if_neg c5] at H
     exact absurd H (by simp)
   ·
    rw [if_neg c4] at H
    have c4b0 : decide (x9_1 < (l0.length : Int)) = false := decide_eq_false c4
    clear c4
    obtain rfl := Option.some.inj H
    go_wp2
    go_ret
    exact ⟨erq, by repeat (first | (with_reducible first | exact HB.out | apply below_alloc | apply pw_below_drewN | apply below_drew1 | refine below_set ?_ GE310.out) | exact HB.out)⟩

def sortT_ren : Go.Shelf.Ren := ⟨fun | 6 => 56 | 15 => 66 | 14 => 65 | 28 => 78 | 29 => 79 | 20 => 70 | 21 => 71 | 22 => 72 | 23 => 73 | 24 => 74 | 25 => 75 | 26 => 76 | 27 => 77 | 46 => 82 | 47 => 83 | 48 => 84 | 49 => 85 | 50 => 86 | 57 => 87 | n => n, fun | 22 => 34 | 24 => 24 | 25 => 84 | 3 => 3 | 39 => 83 | 0 => 0 | 53 => 115 | 55 => 106 | 4 => 4 | 46 => 109 | 45 => 108 | 50 => 64 | 5 => 5 | 9 => 9 | 66 => 119 | 70 => 123 | 76 => 125 | 77 => 79 | n => n, fun | n => n⟩
theorem sortT : Go.Proofs.SlLaysF0.n6 Try.prog sortT_ren := {
 mixed := by kernel_rfl,
 f6 := ⟨Try.f56.name, by decide, Try.func56.trans (congrArg some (by kernel_rfl))⟩,
 f14 := ⟨Try.f65.name, by decide, Try.func65.trans (congrArg some (by kernel_rfl))⟩,
 f15 := Try.func66.trans (congrArg some (by kernel_rfl)),
 f20 := ⟨Try.f70.name, by decide, Try.func70.trans (congrArg some (by kernel_rfl))⟩,
 f21 := ⟨Try.f71.name, by decide, Try.func71.trans (congrArg some (by kernel_rfl))⟩,
 f22 := ⟨Try.f72.name, by decide, Try.func72.trans (congrArg some (by kernel_rfl))⟩,
 f23 := ⟨Try.f73.name, by decide, Try.func73.trans (congrArg some (by kernel_rfl))⟩,
 f24 := ⟨Try.f74.name, by decide, Try.func74.trans (congrArg some (by kernel_rfl))⟩,
 f25 := ⟨Try.f75.name, by decide, Try.func75.trans (congrArg some (by kernel_rfl))⟩,
 f26 := ⟨Try.f76.name, by decide, Try.func76.trans (congrArg some (by kernel_rfl))⟩,
 f27 := ⟨Try.f77.name, by decide, Try.func77.trans (congrArg some (by kernel_rfl))⟩,
 f28 := Try.func78.trans (congrArg some (by kernel_rfl)),
 f29 := Try.func79.trans (congrArg some (by kernel_rfl)),
 f46 := ⟨Try.f82.name, by decide, Try.func82.trans (congrArg some (by kernel_rfl))⟩,
 f47 := Try.func83.trans (congrArg some (by kernel_rfl)),
 f48 := Try.func84.trans (congrArg some (by kernel_rfl)),
 f49 := ⟨Try.f85.name, by decide, Try.func85.trans (congrArg some (by kernel_rfl))⟩,
 f50 := ⟨Try.f86.name, by decide, Try.func86.trans (congrArg some (by kernel_rfl))⟩,
 f57 := ⟨Try.f87.name, by decide, Try.func87.trans (congrArg some (by kernel_rfl))⟩,
 t0 := Try.underlying0,
 a0 := Try.isAgg0,
 z0 := Try.sizeOf0,
 v0 := Try.zeroValue0,
 t3 := Try.underlying3,
 a3 := Try.isAgg3,
 z3 := Try.sizeOf3,
 v3 := Try.zeroValue3,
 t4 := Try.underlying4,
 a4 := Try.isAgg4,
 z4 := Try.sizeOf4,
 v4 := Try.zeroValue4,
 t5 := Try.underlying5,
 a5 := Try.isAgg5,
 z5 := Try.sizeOf5,
 v5 := Try.zeroValue5,
 t9 := Try.underlying9,
 a9 := Try.isAgg9,
 z9 := Try.sizeOf9,
 v9 := Try.zeroValue9,
 t22 := Try.underlying34,
 a22 := Try.isAgg34,
 z22 := Try.sizeOf34,
 v22 := Try.zeroValue34,
 t25 := Try.underlying84,
 a25 := Try.isAgg84,
 z25 := Try.sizeOf84,
 v25 := Try.zeroValue84,
 t39 := Try.underlying83,
 a39 := Try.isAgg83,
 z39 := Try.sizeOf83,
 v39 := Try.zeroValue83,
 t45 := Try.underlying108,
 a45 := Try.isAgg108,
 z45 := Try.sizeOf108,
 v45 := Try.zeroValue108,
 t46 := Try.underlying109,
 a46 := Try.isAgg109,
 z46 := Try.sizeOf109,
 v46 := Try.zeroValue109,
 t50 := Try.underlying64,
 a50 := Try.isAgg64,
 z50 := Try.sizeOf64,
 v50 := Try.zeroValue64,
 t53 := Try.underlying115,
 a53 := Try.isAgg115,
 z53 := Try.sizeOf115,
 v53 := Try.zeroValue115,
 t55 := Try.underlying106,
 a55 := Try.isAgg106,
 z55 := Try.sizeOf106,
 v55 := Try.zeroValue106,
 t66 := Try.underlying119,
 a66 := Try.isAgg119,
 z66 := Try.sizeOf119,
 v66 := Try.zeroValue119,
 t70 := Try.underlying123,
 a70 := Try.isAgg123,
 z70 := Try.sizeOf123,
 v70 := Try.zeroValue123,
 t76 := Try.underlying125,
 a76 := Try.isAgg125,
 z76 := Try.sizeOf125,
 v76 := Try.zeroValue125,
 t77 := Try.underlying79,
 a77 := Try.isAgg79,
 z77 := Try.sizeOf79,
 v77 := Try.zeroValue79 }

def cmpT_ren : Go.Shelf.Ren := ⟨fun | 5 => 67 | 7 => 80 | n => n, fun | 22 => 3 | 3 => 3 | 4 => 4 | n => n, fun | n => n⟩
theorem cmpT : Go.Proofs.SlLaysC2.n5 Try.prog cmpT_ren := {
 mixed := by kernel_rfl,
 f5 := ⟨Try.f67.name, by decide, Try.func67.trans (congrArg some (by kernel_rfl))⟩,
 f7 := ⟨Try.f80.name, by decide, Try.func80.trans (congrArg some (by kernel_rfl))⟩,
 t3 := Try.underlying3,
 a3 := Try.isAgg3,
 z3 := Try.sizeOf3,
 v3 := Try.zeroValue3,
 t4 := Try.underlying4,
 a4 := Try.isAgg4,
 z4 := Try.sizeOf4,
 v4 := Try.zeroValue4,
 t22 := Try.underlying3,
 a22 := Try.isAgg3,
 z22 := Try.sizeOf3,
 v22 := Try.zeroValue3 }

/-- The order of two times, as a number. -/
def ordI (x y : S24) : Int := if x.f0 = y.f0 then Lib.compareInt x.f1 y.f1 else Lib.compareInt x.f0 y.f0
instance : Inhabited S24 := ⟨z24⟩
def encT (x : S24) : List Value := [.int .i64 x.f0, .int .i64 x.f1]
set_option maxHeartbeats 1000000 in
theorem against_grow (x y : S24) (W : World) : Calls Try.prog 59 #[.agg #[.int .i64 x.f0, .int .i64 x.f1], .agg #[.int .i64 y.f0, .int .i64 y.f1]] W fun e w' => e = .returned (.int .i64 (ordI x y)) ∧ ∃ q os', w' = Go.Sort.grow (W.drewN q) os' := by
 have hcon := fun (a b : Int) W' => AnyG.cmp_Compare_int cmpT a b W'
 change ∀ a b W', Calls Try.prog 67 _ _ _ at hcon
 by_cases h : x.f0 = y.f0
 ·
  have e : ordI x y = Lib.compareInt x.f1 y.f1 := if_pos h
  rw [e]
  have hb : (x.f0 == y.f0) = true := beq_iff_eq.mpr h
  have hb' : (x.f0 != y.f0) = false := bne_eq_false_iff_eq.mpr h
  clear h
  generalize hr : Lib.compareInt x.f1 y.f1 = r
  have hc : ∀ W', Calls Try.prog 67 #[.int .i64 x.f1, .int .i64 y.f1] W' fun e w' => e = .returned (.int .i64 r) ∧ w' = W' := fun W' => by rw [← hr]; exact hcon x.f1 y.f1 W'
  clear hcon hr e
  go_enter Try.func59, Try.ntmps59
  go_wp2_with (go_at_call 67; refine (hc _).mono ?_; rintro e w' ⟨rfl, rfl⟩)
  go_ret
  exact ⟨rfl, 0, _, by rw [Go.Sort.alloc_eq_grow, Go.Sort.alloc_eq_grow, Go.Sort.grow_grow]; rfl⟩
 ·
  have e : ordI x y = Lib.compareInt x.f0 y.f0 := if_neg h
  rw [e]
  have hb : (x.f0 == y.f0) = false := beq_eq_false_iff_ne.mpr h
  have hb' : (x.f0 != y.f0) = true := bne_iff_ne.mpr h
  clear h
  generalize hr : Lib.compareInt x.f0 y.f0 = r
  have hc : ∀ W', Calls Try.prog 67 #[.int .i64 x.f0, .int .i64 y.f0] W' fun e w' => e = .returned (.int .i64 r) ∧ w' = W' := fun W' => by rw [← hr]; exact hcon x.f0 y.f0 W'
  clear hcon hr e
  go_enter Try.func59, Try.ntmps59
  go_wp2_with (go_at_call 67; refine (hc _).mono ?_; rintro e w' ⟨rfl, rfl⟩)
  go_ret
  exact ⟨rfl, 0, _, by rw [Go.Sort.alloc_eq_grow, Go.Sort.alloc_eq_grow, Go.Sort.grow_grow]; rfl⟩
set_option maxHeartbeats 1000000 in
theorem order_grow (x y : S24) (W : World) : Calls Try.prog 43 #[.agg #[.int .i64 x.f0, .int .i64 x.f1], .agg #[.int .i64 y.f0, .int .i64 y.f1]] W fun e w' => e = .returned (.int .i64 (ordI x y)) ∧ ∃ q os', w' = Go.Sort.grow (W.drewN q) os' := by
 have hcon := fun W' => against_grow x y W'
 generalize ordI x y = r at hcon ⊢
 go_enter Try.func43, Try.ntmps43
 go_wp2_with (go_at_call 59; refine (hcon _).mono ?_; rintro e w' ⟨rfl, q, os, rfl⟩)
 go_ret
 exact ⟨rfl, q, _, by rw [Go.Sort.alloc_eq_grow, Go.Sort.alloc_eq_grow, Go.Sort.grow_grow]; exact Go.Sort.grow_grow (W.drewN q) _ _⟩

/-! ### The sort of a row of the call's own -/
def srt (xs : List S24) : List S24 := xs.mergeSort fun x y => !(ltOf ordI y x)
theorem holds_of_own {W : World} {base : Nat} {ok : Nat → Prop} {A : Option Addr} {n c : Nat} {xs : List S24} (hn : n = xs.length) (h : Kd.R k24 24 W base ok (.slice A n c) xs) (h0 : 0 < xs.length) :
  ∃ g cur, A = some ⟨g, 0, none⟩ ∧ base ≤ g ∧ W.heap[g]? = some (.cells cur 24 (0, 0)) ∧ n ≤ c ∧ c ≤ maxLen ∧ cur.size = c * 2 ∧ Go.Sort.HoldsK encT 2 W g 0 xs.toArray := by
 subst hn
 obtain ⟨_, inner, ⟨hl, ho⟩, hr⟩ := h
 rcases ho with ⟨_, hz⟩ | ⟨g, cap, cur, he, hg, hh, h1, h2, h3, h4⟩
 ·
  omega
 obtain ⟨rfl, rfl⟩ : A = some ⟨g, 0, none⟩ ∧ c = cap := by
  injection he with e1 _ e3
  exact ⟨e1, e3⟩
 refine ⟨g, cur, rfl, hg, hh, h1, h2, h3, fun j hj => ?_⟩
 have hj' : j < xs.length * 2 := by simpa using hj
 rw [Nat.zero_add]
 refine ⟨?_, blk_frozen hh j⟩
 rw [blk_cell hh j, Go.Sort.get_flatK _ _ _ _ (by simpa using hj')]
 have hi : j / 2 < xs.length := by omega
 have hrr := k24_openM (hr.2 (j / 2) xs[j / 2] (List.getElem?_eq_getElem hi))
 have hx : (xs.toArray)[j / 2]! = xs[j / 2] := by simp [hi]
 rw [hx]
 have hc : inner[j]? = some ((encT xs[j / 2])[j % 2]!) := by
  have h5 : ((inner.drop (j / 2 * 2)).take 2)[j % 2]? = (encT xs[j / 2])[j % 2]? := by
   have h6 : k24.sz = 2 := rfl
   rw [h6] at hrr
   rw [hrr]; rfl
  have h7 : j % 2 < 2 := by omega
  rw [List.getElem?_take, if_pos h7, List.getElem?_drop, show j / 2 * 2 + j % 2 = j by omega] at h5
  rw [h5]
  have h8 : j % 2 = 0 ∨ j % 2 = 1 := by omega
  rcases h8 with h8 | h8 <;> rw [h8] <;> rfl
 have h9 : cur[j]? = inner[j]? := by
  have hsz : k24.sz = 2 := rfl
  rw [← h4, List.getElem?_take, hsz, if_pos hj']
  simp
 rw [h9, hc]
 rfl
theorem own_of_sorted {W : World} {base : Nat} {g c m : Nat} {cur : Array Value} {d : List S24} {n : Nat} {os : Array Obj} (hn : n = d.length) (hg : base ≤ g) (hh : W.heap[g]? = some (.cells cur 24 (0, 0))) (h1 : n ≤ c) (h2 : c ≤ maxLen) (h3 : cur.size = c * 2) :
  Kd.R k24 24 (sortWorldK encT 2 W g 0 m d.toArray os) base (fun _ => True) (.slice (some ⟨g, 0, none⟩) n c) d ∧ Below base W (sortWorldK encT 2 W g 0 m d.toArray os) := by
 subst hn
 have hlt : g < W.heap.size := (Array.getElem?_eq_some_iff.1 hh).1
 have hhp : (sortWorldK encT 2 W g 0 m d.toArray os).heap[g]? = some (.cells (Go.Sort.putCells id 0 (Go.Sort.flatK encT 2 d.toArray) cur) 24 (0, 0)) := by
  unfold sortWorldK
  rw [Go.Sort.heap_grow_old _ _ (by simp [Go.Sort.putRowK]; exact hlt)]
  show (W.heap.modify g (Go.Sort.onCells _))[g]? = _
  rw [Array.getElem?_modify, if_pos rfl, hh]
  rfl
 refine ⟨⟨fun _ _ => trivial, (Go.Sort.flatK encT 2 d.toArray).toList, ⟨by simp; rfl, .inr ⟨g, c, _, rfl, hg, hhp, h1, h2, by simp [Go.Sort.putCells, h3]; rfl, ?_⟩⟩, ⟨by simp; rfl, ?_⟩⟩, rfl, rfl, rfl, ?_, fun i hi => ?_⟩
 ·
  have hsz : k24.sz = 2 := rfl
  rw [hsz]
  apply List.ext_getElem?
  intro j
  rw [List.getElem?_take]
  by_cases hj : j < d.length * 2
  ·
   rw [if_pos hj]
   have hjc : j < cur.size := by omega
   simp only [Array.getElem?_toList]
   rw [Array.getElem?_eq_getElem (by simpa [Go.Sort.putCells] using hjc), Array.getElem?_eq_getElem (by simpa using hj)]
   simp only [Go.Sort.putCells, Array.getElem_mapIdx]
   rw [if_pos ⟨Nat.zero_le _, by simpa using hj⟩, Nat.sub_zero, getElem!_pos _ j (by simpa using hj)]
   rfl
  ·
   rw [if_neg hj, List.getElem?_eq_none (by simp; omega)]
 ·
  intro j p hp
  obtain ⟨hj, rfl⟩ := List.getElem?_eq_some_iff.1 hp
  have hsz : k24.sz = 2 := rfl
  have : ((Go.Sort.flatK encT 2 d.toArray).toList.drop (j * k24.sz)).take k24.sz = [.int .i64 d[j].f0, .int .i64 d[j].f1] := by
   rw [hsz]
   apply List.ext_getElem?
   intro i
   rw [List.getElem?_take]
   by_cases hi : i < 2
   ·
    rw [if_pos hi, List.getElem?_drop, Array.getElem?_toList, Array.getElem?_eq_getElem (by simp; omega), ← getElem!_pos, Go.Sort.get_flatK _ _ _ _ (by simp; omega)]
    have e1 : (j * 2 + i) / 2 = j := by omega
    have e2 : (j * 2 + i) % 2 = i := by omega
    rw [e1, e2]
    have hx : (d.toArray)[j]! = d[j] := by simp [hj]
    rw [hx]
    have h8 : i = 0 ∨ i = 1 := by omega
    rcases h8 with rfl | rfl <;> rfl
   ·
    rw [if_neg hi, List.getElem?_eq_none (by simp; omega)]
  rw [this]
  exact k24_mkM _ _ _ _
 ·
  simp [sortWorldK, Go.Sort.putRowK]
 ·
  have hi' : i < W.heap.size := by omega
  unfold sortWorldK
  rw [Go.Sort.heap_grow_old _ _ (by simp [Go.Sort.putRowK]; exact hi')]
  show (W.heap.modify g (Go.Sort.onCells _))[i]? = _
  rw [Array.getElem?_modify, if_neg (by omega)]

theorem ltOrd (x y : S24) : ltOf ordI x y = decide (x.f0 < y.f0 ∨ x.f0 = y.f0 ∧ x.f1 < y.f1) := by
 unfold ltOf ordI Lib.compareInt
 rw [decide_eq_decide]
 (repeat' split) <;> omega
theorem swoOrd : Go.Sort.SWO (ltOf ordI) where
 irrefl x := by rw [ltOrd]; simp
 trans x y z h1 h2 := by rw [ltOrd] at *; simp only [decide_eq_true_eq] at *; omega
 ntrans x y z h1 h2 := by rw [ltOrd] at *; simp only [decide_eq_false_iff_not] at *; omega
theorem totOrd (x y : S24) (h1 : ltOf ordI x y = false) (h2 : ltOf ordI y x = false) : x = y := by
 rw [ltOrd] at *
 simp only [decide_eq_false_iff_not] at *
 cases x; cases y
 simp only [S24.mk.injEq]
 simp only at h1 h2
 omega
theorem sort_own {W : World} {base : Nat} {A : Option Addr} {n c : Nat} {xs : List S24} (hn : n = xs.length) (h : Kd.R k24 24 W base (fun _ => True) (.slice A n c) xs) (hlen : xs.length < 4611686018427387904) :
  Calls Try.prog 56 #[.slice A n c, .func (.func 43) #[] #[]] W fun e w' => e = .returned (.tuple #[]) ∧ Kd.R k24 24 w' base (fun _ => True) (.slice A n c) (srt xs) ∧ Below base W w' := by
 rcases Nat.eq_zero_or_pos xs.length with h0 | h0
 ·
  obtain rfl := List.eq_nil_of_length_eq_zero h0
  subst hn
  refine (AnyF.slices_SortFunc_none { sortT with } A c _ W).mono ?_
  rintro e w' ⟨rfl, rfl⟩
  have es : srt [] = [] := by simp [srt]
  rw [es]
  exact ⟨rfl, h, Below.refl _ _⟩
 ·
  obtain ⟨g, cur, rfl, hg, hh, h1, h2, h3, hH⟩ := holds_of_own hn h h0
  have eg : ∀ args w, (callFunc 43 args).run Try.prog w = .ok (.enter 43 args) w := enters_of Try.func43 (by kernel_rfl) rfl
  subst hn
  have hc := AnyQ.slices_SortFunc_total sortT 2 Try.isAgg24 Try.sizeOf24 encT (fun _ => rfl) (fun x v hv => by simp [encT] at hv; rcases hv with rfl | rfl <;> rfl) ordI swoOrd 43 #[] g 0 c xs.toArray W eg
   (fun m os dk _ x y => order_grow x y _) hH (Array.getElem?_eq_some_iff.1 hh).1 (by simpa using hlen) totOrd
  refine Calls.mono (P := Try.prog) hc ?_
  rintro e w' ⟨rfl, m, os, rfl⟩
  have := own_of_sorted (base := base) (d := srt xs) (m := m) (os := os) (n := xs.length) (by simp [srt]) hg hh h1 h2 h3
  exact ⟨rfl, this⟩

/-! ### front_New: function 40 -/
def front_New.l0 : Nat → List (S24) → List (S24) → Int → Int → Option ((List (S24)))
 | 0, _, _, _, _ => none
 | k + 1, x3, x11, x12, x13 => if x13 < x12 then (if 0 ≤ x13 then (if x13 < (x11.length : Int) then ((front_antichain_ahead.f k x3 ((rd_T24 x11 x13).f0) ((rd_T24 x11 x13).f1)).bind fun t318 => (if t318 = true then (front_New.l0 k x3 x11 x12 (wrap64 (x13 + 1))) else (if x3.length < 8796093022208 then (front_New.l0 k (x3 ++ [(⟨(rd_T24 x11 x13).f0, (rd_T24 x11 x13).f1⟩ : S24)]) x11 x12 (wrap64 (x13 + 1))) else (none)))) else (none)) else (none)) else (some x3)
def front_New.f (k : Nat) (l0 : List (S24)) : Option ((List (S24))) := (api_Time.f l0).bind fun t313 => (front_New.l0 k ([] : List (S24)) (srt t313) ((srt t313).length : Int) 0)
set_option maxHeartbeats 8000000 in
set_option maxRecDepth 100000 in
theorem front_New.calls (k : Nat) (A0 : Option Addr) (c0 : Nat) (l0 : List (S24)) (r : List (S24)) (w : World) (hr0 : Kd.C k24 w A0 l0.length l0) (hc0 : l0.length ≤ c0) (h : front_New.f k l0 = some r) :
  Calls Try.prog 40 #[.slice A0 l0.length c0] w fun e w' => ∃ v0_ : Value, e = .returned (v0_) ∧ Kd.R k24 24 w' w.heap.size (fun _ => True) v0_ r ∧ Below w.heap.size w w' := by
 have hu24 := Try.underlying24
 have HR0 := Aside0.mk hr0
 have HC0 := Aside0.mk hc0
 clear hr0 hc0
 have HB := Aside0.mk (Below.refl w.heap.size w)
 have H : ((api_Time.f l0).bind fun t313 => (front_New.l0 k ([] : List (S24)) (srt t313) ((srt t313).length : Int) 0)) = some r := h
 clear h
 replace H := Option.bind_eq_some_iff.mp H
 obtain ⟨t313, A20, H⟩ := H
 replace H : (front_New.l0 k ([] : List (S24)) (srt t313) ((srt t313).length : Int) 0) = some r := H
 have hlen : t313.length < 4611686018427387904 := by
  have h1 := A20
  simp [api_Time.f] at h1
  obtain ⟨h2, rfl⟩ := h1
  omega
 obtain ⟨s313, hs0⟩ : ∃ y_, y_ = srt t313 := ⟨_, rfl⟩
 rw [← hs0] at H
 have HS := Aside0.mk hs0
 have LL : Aside0 (t313.length = s313.length) := ⟨by rw [hs0]; simp [srt]⟩
 have HLEN := Aside0.mk hlen
 clear hs0 hlen
 have A2 := Aside0.mk A20
 clear A20
 have H' := Aside0.mk H
 clear H
 go_enter Try.func40, Try.ntmps40
 go_wp2_with (first | ((with_reducible refine gate_callee (f := 55) rfl ?_); refine goesL_ (some 8) rfl rfl Try.func55 (by kernel_rfl) rfl #[.slice A0 l0.length c0] rfl mpq ?_; (with_reducible refine (api_Time.calls _ _ l0 t313 _ ?side1 ?side2 A2.out).mono ?_); (case side1 => repeat (first | exact HR0.out | (with_reducible refine Kd.C_alloc ?_ _) | (with_reducible refine Kd.C_drewN ?_ _) | (with_reducible refine Kd.C_drew ?_))); (case side2 => exact HC0.out); rintro e w3 ⟨v314, rfl, ho0, hb⟩; refine ⟨_, rfl, ?_⟩; have n0_ := Aside0.mk (Kd.R_lower ho0 (below_size bl)); have n1_ := Aside0.mk (below_step bl hb); clear HB; have HO315 := n0_; have HB := n1_; clear n0_ n1_; (try clear hb); (try clear hb2); (try clear hk); (try clear hi); (try clear ho0); obtain ⟨Ao4, co4, eo4⟩ := Kd.R_slice HO315.out; rw [LL.out] at eo4; subst eo4) | (go_at_call 56; refine (sort_own LL.out.symm HO315.out HLEN.out).mono ?_; rintro e w4 ⟨rfl, hos, hbs⟩; rw [← HS.out] at hos; have n0_ := Aside0.mk hos; have n1_ := Aside0.mk (HB.out.trans hbs); clear HO315; clear HB; have HO315 := n0_; have HB := n1_; clear n0_ n1_; clear hos hbs))
 go_loopg [3, 13] k (fun kq v3 v13 w' => ∃ (x3_1 : List (S24)) (x13_1 : Int), v13 = .int .i64 x13_1 ∧ Aside0 (front_New.l0 kq x3_1 s313 (s313.length : Int) x13_1 = some r) ∧ Aside0 (kq ≤ k) ∧ Aside0 (Kd.R k24 24 w' w.heap.size (fun k_ => some k_ ≠ ((.slice Ao4 s313.length co4) : Value).ownBlock) v3 x3_1) ∧ Aside0 (Kd.R k24 24 w' w.heap.size (fun k_ => some k_ ≠ (v3 : Value).ownBlock) (.slice Ao4 s313.length co4) s313) ∧ Aside0 (Below w.heap.size w w'))
 case atStart => exact ⟨(([] : List (S24))), (0), (by first | rfl | (simp; done) | (simp [*]; done)), H', ⟨Nat.le_refl _⟩, ⟨nlq⟩, ⟨by (with_reducible repeat (first | apply Kd.R_alloc | apply Kd.R_drewN | apply Kd.R_drew)); exact Kd.R_mono HO315.out (fun _ hk => (by simp [Value.ownBlock]))⟩, ⟨bl⟩⟩
 case round =>
  clear H'
  obtain ⟨x3_1, x13_1, rfl, HA, HK1, HO_3, HO_11, HB⟩ := hrel
  cases gk with
  | zero => exact absurd HA.out (by simp [front_New.l0])
  | succ k1 =>
   have H := HA.out
   clear HA
   simp only [front_New.l0] at H
   by_cases c5 : x13_1 < (s313.length : Int)
   ·
    rw [if_pos c5] at H
    have c5b0 : decide (x13_1 < (s313.length : Int)) = true := decide_eq_true c5
    clear c5
    by_cases c6 : 0 ≤ x13_1
    ·
     rw [if_pos c6] at H
     have c6b0 : decide (0 ≤ x13_1) = true := decide_eq_true c6
     clear c6
     by_cases c7 : x13_1 < (s313.length : Int)
     ·
      rw [if_pos c7] at H
      have c7b0 : decide (x13_1 < (s313.length : Int)) = true := decide_eq_true c7
      clear c7
      replace H := Option.bind_eq_some_iff.mp H
      obtain ⟨t318, A80, H⟩ := H
      replace H : (if t318 = true then (front_New.l0 k1 x3_1 s313 (s313.length : Int) (wrap64 (x13_1 + 1))) else (if x3_1.length < 8796093022208 then (front_New.l0 k1 (x3_1 ++ [(⟨(rd_T24 s313 x13_1).f0, (rd_T24 s313 x13_1).f1⟩ : S24)]) s313 (s313.length : Int) (wrap64 (x13_1 + 1))) else (none))) = some r := H
      have A8 := Aside0.mk A80
      clear A80
      by_cases c9 : t318 = true
      ·
       subst c9
       have H1 : (front_New.l0 k1 x3_1 s313 (s313.length : Int) (wrap64 (x13_1 + 1))) = some r := by rw [if_pos rfl] at H; exact H
       clear H
       have H := H1
       clear H1
       have H' := Aside0.mk H
       clear H
       have p316 : 0 ≤ (x13_1 : Int) := of_decide_eq_true (by first | (with_reducible assumption) | assumption)
       have q316 : x13_1 < (s313.length : Int) := of_decide_eq_true (by first | (with_reducible assumption) | assumption)
       obtain ⟨ad316, e316, hx316_0, hx316_1⟩ := at_T24 (Kd.R_reads' HO_11.out).2.2 x13_1 p316 q316
       cases e316
       replace p316 := eq_true p316
       replace q316 := eq_true q316
       go_wp2_with (first | ((with_reducible refine gate_dst (N := 5) rfl ?_); refine box_event ?hg (N := 5) ?hd (cs := #[.int .i64 0, .int .i64 0]) (t := 24) ?hr ?_; (case hd => rfl); (case hg => rfl); (case hr => first | (go_simp; done) | (go_simp; rfl)); intro gb317 hg w10 hbox hb; have n0_ := Aside0.mk (Kd.R_below (Kd.R_elderB (rp HO_3.out) gb317 (Nat.le_of_eq hg.symm)) hb); have n1_ := Aside0.mk (Kd.R_below (Kd.R_elderB (rp HO_11.out) gb317 (Nat.le_of_eq hg.symm)) hb); have n2_ := Aside0.mk (below_step bl hb); have n3_ := Aside0.mk (hbox); have n4_ := Aside0.mk ((by rw [hg]; exact (below_size bl) : w.heap.size ≤ gb317)); have n5_ := Aside0.mk ((by rw [hg]; exact (below_size bl) : w.heap.size ≤ gb317)); clear HO_3; clear HO_11; clear HB; have HO_3 := n0_; have HO_11 := n1_; have HB := n2_; have BK317 := n3_; have GW317 := n4_; have GE317 := n5_; clear n0_ n1_ n2_ n3_ n4_ n5_; clear hb hbox hg; obtain ⟨hcz11_0, hcz11_1⟩ := cells2 BK317.out; obtain ⟨hfz11_0, hfz11_1⟩ := frz2 BK317.out; obtain ⟨Ao12, co12, eo12⟩ := Kd.R_slice HO_3.out; subst eo12) | (go_at_call 57; (with_reducible refine (front_antichain_ahead.calls k1 _ _ x3_1 ((rd_T24 s313 x13_1).f0) ((rd_T24 s313 x13_1).f1) true _ ?side1 ?side2 A8.out).mono ?_); (case side1 => refine (Kd.R_reads' (e := 24) (base := w.heap.size) (ok := fun k_ => (some k_ ≠ (.slice (some ad316) s313.length co4 : Value).ownBlock ∧ k_ ≠ gb317)) (n := x3_1.length) (c := co12) ?_).2.2; exact (rp (Kd.R_mono (Kd.R_far (p := ⟨gb317, 1, none⟩) (Kd.R_far (p := ⟨gb317, 0, none⟩) (Kd.R_mono HO_3.out (fun k_ hk => (⟨hk, hk.2⟩ : _ ∧ k_ ≠ gb317))) (fun _ hk => hk.2) (.int .i64 ((rd_T24 s313 x13_1).f0))) (fun _ hk => hk.2) (.int .i64 ((rd_T24 s313 x13_1).f1))) (fun _ h_ => h_.1)))); (case side2 => exact (Kd.R_reads' HO_3.out).2.1); rintro e w13 ⟨rfl, hb⟩; have n0_ := Aside0.mk (Kd.R_below (rp (Kd.R_mono (Kd.R_far (p := ⟨gb317, 1, none⟩) (Kd.R_far (p := ⟨gb317, 0, none⟩) (Kd.R_mono HO_3.out (fun k_ hk => (⟨hk, hk.2⟩ : _ ∧ k_ ≠ gb317))) (fun _ hk => hk.2) (.int .i64 ((rd_T24 s313 x13_1).f0))) (fun _ hk => hk.2) (.int .i64 ((rd_T24 s313 x13_1).f1))) (fun _ h_ => h_.1))) hb); have n1_ := Aside0.mk (Kd.R_below (rp (Kd.R_mono (Kd.R_far (p := ⟨gb317, 1, none⟩) (Kd.R_far (p := ⟨gb317, 0, none⟩) (Kd.R_mono HO_11.out (fun k_ hk => (⟨hk, hk.2⟩ : _ ∧ k_ ≠ gb317))) (fun _ hk => hk.2) (.int .i64 ((rd_T24 s313 x13_1).f0))) (fun _ hk => hk.2) (.int .i64 ((rd_T24 s313 x13_1).f1))) (fun _ h_ => h_.1))) hb); have n2_ := Aside0.mk (blk_below (g := gb317) (o := .cells #[.int .i64 ((rd_T24 s313 x13_1).f0), .int .i64 ((rd_T24 s313 x13_1).f1)] 24 (0, 0)) bk hb); have n3_ := Aside0.mk (below_step bl hb); clear HO_3; clear HO_11; clear BK317; clear HB; have HO_3 := n0_; have HO_11 := n1_; have BK317 := n2_; have HB := n3_; clear n0_ n1_ n2_ n3_; (try clear hb); (try clear hb2); (try clear hk); (try clear hi)))
       go_roundg k1
       case measure => have := HK1.out; omega
       case rel => exact ⟨(x3_1), (wrap64 (x13_1 + 1)), (by first | rfl | (simp; done) | (simp [*]; done)), H', ⟨by have := HK1.out; omega⟩, ⟨by (with_reducible repeat (first | apply Kd.R_alloc | apply Kd.R_drewN | apply Kd.R_drew)); exact Kd.R_mono HO_3.out (fun _ hk => hk.1)⟩, ⟨by (with_reducible repeat (first | apply Kd.R_alloc | apply Kd.R_drewN | apply Kd.R_drew)); exact Kd.R_mono HO_11.out (fun _ hk => hk.1)⟩, ⟨bl⟩⟩
      ·
       replace c9 := Bool.eq_false_iff.mpr c9
       subst c9
       have H1 : (if x3_1.length < 8796093022208 then (front_New.l0 k1 (x3_1 ++ [(⟨(rd_T24 s313 x13_1).f0, (rd_T24 s313 x13_1).f1⟩ : S24)]) s313 (s313.length : Int) (wrap64 (x13_1 + 1))) else (none)) = some r := by rw [if_neg (show ¬ (false = true) by decide)] at H; exact H
       clear H
       have H := H1
       clear H1
       by_cases c14 : x3_1.length < 8796093022208
       ·
        rw [if_pos c14] at H
        have LMc14 := Aside0.mk c14
        clear c14
        obtain ⟨y319, hy319⟩ : ∃ y_ : List (S24), y_ = (x3_1 ++ [(⟨(rd_T24 s313 x13_1).f0, (rd_T24 s313 x13_1).f1⟩ : S24)]) := ⟨_, rfl⟩
        replace H : (front_New.l0 k1 y319 s313 (s313.length : Int) (wrap64 (x13_1 + 1))) = some r := by first | (rw [hy319]; with_reducible exact H) | (have H2_ := (Option.bind_some _ _).symm.trans H; rw [hy319]; with_reducible exact H2_) | (have H2_ := (Option.bind_some _ _).symm.trans H; with_reducible exact H2_) | with_reducible exact H | (rw [hy319]; exact H) | exact H
        have Ny319 := Aside0.mk hy319
        clear hy319
        have H' := Aside0.mk H
        clear H
        have p316 : 0 ≤ (x13_1 : Int) := of_decide_eq_true (by first | (with_reducible assumption) | assumption)
        have q316 : x13_1 < (s313.length : Int) := of_decide_eq_true (by first | (with_reducible assumption) | assumption)
        obtain ⟨ad316, e316, hx316_0, hx316_1⟩ := at_T24 (Kd.R_reads' HO_11.out).2.2 x13_1 p316 q316
        cases e316
        replace p316 := eq_true p316
        replace q316 := eq_true q316
        go_wp2_with (first | ((with_reducible refine gate_dst (N := 5) rfl ?_); refine box_event ?hg (N := 5) ?hd (cs := #[.int .i64 0, .int .i64 0]) (t := 24) ?hr ?_; (case hd => rfl); (case hg => rfl); (case hr => first | (go_simp; done) | (go_simp; rfl)); intro gb317 hg w15 hbox hb; have n0_ := Aside0.mk (Kd.R_below (Kd.R_elderB (rp HO_3.out) gb317 (Nat.le_of_eq hg.symm)) hb); have n1_ := Aside0.mk (Kd.R_below (Kd.R_elderB (rp HO_11.out) gb317 (Nat.le_of_eq hg.symm)) hb); have n2_ := Aside0.mk (below_step bl hb); have n3_ := Aside0.mk (hbox); have n4_ := Aside0.mk ((by rw [hg]; exact (below_size bl) : w.heap.size ≤ gb317)); have n5_ := Aside0.mk ((by rw [hg]; exact (below_size bl) : w.heap.size ≤ gb317)); clear HO_3; clear HO_11; clear HB; have HO_3 := n0_; have HO_11 := n1_; have HB := n2_; have BK317 := n3_; have GW317 := n4_; have GE317 := n5_; clear n0_ n1_ n2_ n3_ n4_ n5_; clear hb hbox hg; obtain ⟨hcz16_0, hcz16_1⟩ := cells2 BK317.out; obtain ⟨hfz16_0, hfz16_1⟩ := frz2 BK317.out; obtain ⟨Ao17, co17, eo17⟩ := Kd.R_slice HO_3.out; subst eo17) | (go_at_call 57; (with_reducible refine (front_antichain_ahead.calls k1 _ _ x3_1 ((rd_T24 s313 x13_1).f0) ((rd_T24 s313 x13_1).f1) false _ ?side1 ?side2 A8.out).mono ?_); (case side1 => refine (Kd.R_reads' (e := 24) (base := w.heap.size) (ok := fun k_ => (some k_ ≠ (.slice (some ad316) s313.length co4 : Value).ownBlock ∧ k_ ≠ gb317)) (n := x3_1.length) (c := co17) ?_).2.2; exact (rp (Kd.R_mono (Kd.R_far (p := ⟨gb317, 1, none⟩) (Kd.R_far (p := ⟨gb317, 0, none⟩) (Kd.R_mono HO_3.out (fun k_ hk => (⟨hk, hk.2⟩ : _ ∧ k_ ≠ gb317))) (fun _ hk => hk.2) (.int .i64 ((rd_T24 s313 x13_1).f0))) (fun _ hk => hk.2) (.int .i64 ((rd_T24 s313 x13_1).f1))) (fun _ h_ => h_.1)))); (case side2 => exact (Kd.R_reads' HO_3.out).2.1); rintro e w18 ⟨rfl, hb⟩; have n0_ := Aside0.mk (Kd.R_below (rp (Kd.R_mono (Kd.R_far (p := ⟨gb317, 1, none⟩) (Kd.R_far (p := ⟨gb317, 0, none⟩) (Kd.R_mono HO_3.out (fun k_ hk => (⟨hk, hk.2⟩ : _ ∧ k_ ≠ gb317))) (fun _ hk => hk.2) (.int .i64 ((rd_T24 s313 x13_1).f0))) (fun _ hk => hk.2) (.int .i64 ((rd_T24 s313 x13_1).f1))) (fun _ h_ => h_.1))) hb); have n1_ := Aside0.mk (Kd.R_below (rp (Kd.R_mono (Kd.R_far (p := ⟨gb317, 1, none⟩) (Kd.R_far (p := ⟨gb317, 0, none⟩) (Kd.R_mono HO_11.out (fun k_ hk => (⟨hk, hk.2⟩ : _ ∧ k_ ≠ gb317))) (fun _ hk => hk.2) (.int .i64 ((rd_T24 s313 x13_1).f0))) (fun _ hk => hk.2) (.int .i64 ((rd_T24 s313 x13_1).f1))) (fun _ h_ => h_.1))) hb); have n2_ := Aside0.mk (blk_below (g := gb317) (o := .cells #[.int .i64 ((rd_T24 s313 x13_1).f0), .int .i64 ((rd_T24 s313 x13_1).f1)] 24 (0, 0)) bk hb); have n3_ := Aside0.mk (below_step bl hb); clear HO_3; clear HO_11; clear BK317; clear HB; have HO_3 := n0_; have HO_11 := n1_; have BK317 := n2_; have HB := n3_; clear n0_ n1_ n2_ n3_; (try clear hb); (try clear hb2); (try clear hk); (try clear hi); obtain ⟨hcz19_0, hcz19_1⟩ := cells2 BK317.out; have hfz19_0 := blk_frozen BK317.out 0; have hfz19_1 := blk_frozen BK317.out 1) | ((with_reducible refine gate_builtin (b := .append) (xs := #[.tmp 23, .tmp 25]) rfl ?_); at_builtin; refine Kd.R_append k24 (w0 := w) w.heap.size rfl (.tmp 23) (.tmp 25) 94 24 (.agg #[(.int .i64 0), (.int .i64 0)]) 16 rfl Try.underlying94 info24 rfl (by decide) (by omega) (.slice Ao17 x3_1.length co17) x3_1 (⟨(rd_T24 s313 x13_1).f0, (rd_T24 s313 x13_1).f1⟩ : S24) [.int .i64 ((rd_T24 s313 x13_1).f0), .int .i64 ((rd_T24 s313 x13_1).f1)] (fun k_ => some k_ ≠ (.slice (some ad316) s313.length co4 : Value).ownBlock ∧ k_ ≠ gb317) (fun _ => False) rfl rfl ?aP (fun _ hk => hk.elim) ?aF ?aO ?aB ?aS ?aL ?_; (case aP => exact k24_mkM _ _ _ (⟨(rd_T24 s313 x13_1).f0, (rd_T24 s313 x13_1).f1⟩ : S24)); (case aB => exact bl); (case aF => exact (fun k_ hk => ⟨Kd.fresh' (Kd.R_lt (rp HO_11.out)) k_ hk, Kd.freshB (g := gb317) (o := .cells #[.int .i64 ((rd_T24 s313 x13_1).f0), .int .i64 ((rd_T24 s313 x13_1).f1)] 24 (0, 0)) bk k_ hk⟩)); (case aO => exact (rp HO_3.out)); (case aS => exact (below_size bl)); (case aL => have := LMc14.out; omega); intro v320 w20 ho hb hg hat; rw [← Ny319.out] at ho; have n0_ := Aside0.mk (Kd.R_after (ok := (fun k_ => k_ ≠ gb317)) (by (with_reducible repeat (first | apply Kd.R_alloc | apply Kd.R_drewN | apply Kd.R_drew)); exact Kd.R_mono HO_11.out (fun _ hk => ⟨hk.2, hk.1⟩)) hg hat); have n1_ := Aside0.mk (blk_grown (g := gb317) (o := .cells #[.int .i64 ((rd_T24 s313 x13_1).f0), .int .i64 ((rd_T24 s313 x13_1).f1)] 24 (0, 0)) bk hg (Kd.R_away HO_3.out (fun _ hk => hk.2))); have n2_ := Aside0.mk (hb); have n3_ := Aside0.mk (ho); clear HO_11; clear BK317; clear HB; clear HO_3; have HO_11 := n0_; have BK317 := n1_; have HB := n2_; have HO321 := n3_; clear n0_ n1_ n2_ n3_; clear ho hb hg hat))
        go_roundg k1
        case measure => have := HK1.out; omega
        case rel => exact ⟨(y319), (wrap64 (x13_1 + 1)), (by first | rfl | (simp; done) | (simp [*]; done)), H', ⟨by have := HK1.out; omega⟩, ⟨by (with_reducible repeat (first | apply Kd.R_alloc | apply Kd.R_drewN | apply Kd.R_drew)); exact Kd.R_mono HO321.out (fun _ hk => hk.1)⟩, ⟨by (with_reducible repeat (first | apply Kd.R_alloc | apply Kd.R_drewN | apply Kd.R_drew)); exact Kd.R_mono HO_11.out (fun _ hk => hk.2)⟩, ⟨bl⟩⟩
       ·
        rw [if_neg c14] at H
        exact absurd H (by simp)
     ·
      rw [if_neg c7] at H
      exact absurd H (by simp)
    ·
     rw [if_neg c6] at H
     exact absurd H (by simp)
   ·
    rw [if_neg c5] at H
    have c5b0 : decide (x13_1 < (s313.length : Int)) = false := decide_eq_false c5
    clear c5
    obtain rfl := Option.some.inj H
    go_wp2
    go_ret
    exact ⟨_, erq, by (with_reducible repeat (first | apply Kd.R_alloc | apply Kd.R_drewN | apply Kd.R_drew)); exact Kd.R_mono HO_3.out (fun _ hk => trivial), by repeat (first | (with_reducible first | exact HB.out | apply below_alloc | apply pw_below_drewN | apply below_drew1) | exact HB.out)⟩

-- NOT PRINTED: function 22 (hold_Hold_Lower)

end Go.Proofs.Ytednmkmhileikaa.PHoldPlays
