/- One piece of the machine's side of the law, written by a program over the translation; Lean checks it. -/
import Derived.Test.YtdomdjojbpehiaaOFrontStandsx0
import Derived.Test.YtdomdjojbpehiaaOFrontStandsx3
import Derived.Shelf.SlicesQ.IndexFunc
namespace Go.Proofs.Ytdomdjojbpehiaa.PFrontStands
open Go.RowKit Go.Proofs.YtdomdjojbpehiaaW.PrintWords Go.Proofs.YtdomdjojbpehiaaW.PrintLast Go.Proofs.YtdomdjojbpehiaaW.PrintMore
attribute [local go_sem] max2_int min2_int max_two min_two max_three min_three max_four min_four   -- for this text's walks alone
set_option linter.unusedVariables false
set_option linter.unusedSimpArgs false

def anyT_ren : Go.Shelf.Ren := ⟨fun | 8 => 31 | 6 => 45 | n => n, fun | 22 => 22 | 23 => 24 | 25 => 41 | 4 => 4 | 3 => 3 | 0 => 0 | n => n, fun | n => n⟩
theorem anyT : Go.Proofs.SlLaysH0.n8 Try.prog anyT_ren := {
  mixed := by kernel_rfl,
  f6 := ⟨Try.f45.name, by decide, Try.func45.trans (congrArg some (by kernel_rfl))⟩,
  f8 := ⟨Try.f31.name, by decide, Try.func31.trans (congrArg some (by kernel_rfl))⟩,
  t0 := Try.underlying0,
  a0 := Try.isAgg0,
  z0 := Try.sizeOf0,
  v0 := Try.zeroValue0,
  t3 := Try.underlying3,
  a3 := Try.isAgg3,
  z3 := Try.sizeOf3,
  v3 := Try.zeroValue3,
  t4 := Try.underlying4,
  a4 := Try.isAgg4,
  z4 := Try.sizeOf4,
  v4 := Try.zeroValue4,
  t22 := Try.underlying22,
  a22 := Try.isAgg22,
  z22 := Try.sizeOf22,
  v22 := Try.zeroValue22,
  t25 := Try.underlying41,
  a25 := Try.isAgg41,
  z25 := Try.sizeOf41,
  v25 := Try.zeroValue41 }

/-! ### front_Ahead: function 14 -/
set_option maxHeartbeats 2000000 in
theorem lesseq_calls (a b : S24) (W : World) : Calls Try.prog 33 #[.agg #[.int .i64 a.f0, .int .i64 a.f1], .agg #[.int .i64 b.f0, .int .i64 b.f1]] W fun e w' => e = .returned (.bool (decide (a.f0 ≤ b.f0) && decide (a.f1 ≤ b.f1))) ∧ Below W.heap.size W w' := by
  by_cases h : a.f0 ≤ b.f0
  · have hb : decide (a.f0 ≤ b.f0) = true := decide_eq_true h
    rw [hb, Bool.true_and]
    go_enter Try.func33, Try.ntmps33
    go_wp2
    all_goals (go_ret; exact ⟨by simp_all, by repeat (first | exact Below.refl _ _ | apply below_alloc)⟩)
  · have hb : decide (a.f0 ≤ b.f0) = false := decide_eq_false h
    rw [hb, Bool.false_and]
    go_enter Try.func33, Try.ntmps33
    go_wp2
    all_goals (go_ret; exact ⟨by simp_all, by repeat (first | exact Below.refl _ _ | apply below_alloc)⟩)
theorem pred_ahead (t : S24) (B : Nat) (w : World) (hB : B < w.heap.size) (h0 : w.cell? ⟨B, 0, none⟩ = some (.int .i64 t.f0)) (h1 : w.cell? ⟨B, 1, none⟩ = some (.int .i64 t.f1)) :
    PredBelow Try.prog 32 #[.pointer (some ⟨B, 0, none⟩)] (fun x => .agg (encT x).toArray) (fun x => decide (x.f0 ≤ t.f0) && decide (x.f1 ≤ t.f1)) w := fun W x hb => by
  have c0 : W.cell? ⟨B, 0, none⟩ = some (.int .i64 t.f0) := (hb.cell (p := ⟨B, 0, none⟩) hB).trans h0
  have c1 : W.cell? ⟨B, 1, none⟩ = some (.int .i64 t.f1) := (hb.cell (p := ⟨B, 1, none⟩) hB).trans h1
  have hBW : B < W.heap.size := Nat.lt_of_lt_of_le hB hb.size
  have hne : B ≠ W.heap.size := by omega
  have hcon := fun W' => lesseq_calls x t W'
  show Calls Try.prog 32 #[.agg #[.int .i64 x.f0, .int .i64 x.f1], .pointer (some ⟨B, 0, none⟩)] W fun e w' => e = .returned (.bool (decide (x.f0 ≤ t.f0) && decide (x.f1 ≤ t.f1))) ∧ Below w.heap.size w w'
  generalize (decide (x.f0 ≤ t.f0) && decide (x.f1 ≤ t.f1)) = r at hcon ⊢
  go_enter Try.func32, Try.ntmps32
  go_wp2_with (go_at_call 33; refine (hcon _).mono ?_; rintro e w' ⟨rfl, hb'⟩)
  go_ret
  exact ⟨rfl, (hb.alloc hb.size _).trans (hb'.mono (by simp; exact Nat.le_succ_of_le hb.size))⟩
theorem index_none (a : Option Addr) (c : Nat) (fv : Value) (w : World) : Calls Try.prog 45 #[.slice a 0 c, fv] w fun e w' => e = .returned (.int .i64 (-1)) ∧ w' = w := by
  go_enter Try.func45, Try.ntmps45
  go_wp2
  refine wp_loop_rounds 1 ?_
  rw [rounds_succ]
  go_wp2
  go_ret
  exact ⟨rfl, rfl⟩
theorem contains_none (a : Option Addr) (c : Nat) (fv : Value) (w : World) : Calls Try.prog 31 #[.slice a 0 c, fv] w fun e w' => e = .returned (.bool false) ∧ w' = w := by
  go_enter Try.func31, Try.ntmps31
  go_wp2_with (go_at_call 45; refine (index_none a c fv _).mono ?_; rintro e w' ⟨rfl, rfl⟩)
  go_ret
  exact ⟨rfl, rfl⟩
theorem contains_own {g : Nat} {lb : Array Value} {p : S24 → Bool} {A : Option Addr} {c : Nat} {l : List S24} {w : World} (eg : ∀ args w, (callFunc g args).run Try.prog w = .ok (.enter g args) w) (hp : PredBelow Try.prog g lb (fun x => .agg (encT x).toArray) p w) (hr : Kd.C k24 w A l.length l) :
    Calls Try.prog 31 #[.slice A l.length c, .func (.func g) #[] lb] w fun e w' => e = .returned (.bool (l.any p)) ∧ Below w.heap.size w w' := by
  rcases Nat.eq_zero_or_pos l.length with h0 | h0
  · obtain rfl := List.eq_nil_of_length_eq_zero h0
    refine (contains_none A c _ w).mono ?_
    rintro e w' ⟨rfl, rfl⟩
    exact ⟨rfl, Below.refl _ _⟩
  · obtain ⟨_, hm, hx⟩ := hr
    obtain ⟨ad, rfl, hc⟩ := hx h0
    have hs : ad.spot = none ∧ ad.block < w.heap.size := by
      obtain ⟨cs, hl, hk, hcell⟩ := hc 0 l[0] (List.getElem?_eq_getElem h0)
      obtain rfl := k24_open hk
      have h1 := hcell 0 _ rfl
      have e0 : ad.add (0 * k24.sz + 0) = ad := rfl
      rw [e0] at h1
      refine ⟨?_, World.block_lt_of_cell? w ad h1⟩
      unfold World.cell? at h1
      split at h1
      · split at h1
        · simp at h1
        · rename_i hn
          simpa using hn
      · simp at h1
    obtain ⟨b, off, sp⟩ := ad
    obtain ⟨rfl, hb⟩ := hs
    have hcc := AnyQ.slices_ContainsFunc anyT 2 Try.isAgg24 Try.sizeOf24 encT (fun _ => rfl) p g lb eg b off l.length c l w hp (Nat.le_refl _) hm hb (fun j hj i v hi => by
      have hj' : l[j]! = l[j] := by simp [hj]
      rw [hj'] at hi
      obtain ⟨cs, hl, hk, hcell⟩ := hc j l[j] (List.getElem?_eq_getElem hj)
      obtain rfl := k24_open hk
      have h1 := hcell i v hi
      have e1 : (⟨b, off, none⟩ : Addr).add (j * k24.sz + i) = ⟨b, off + j * 2 + i, none⟩ := by
        have hsz : k24.sz = 2 := rfl
        rw [hsz]
        unfold Addr.add
        split
        · rename_i h2
          have h3 : j = 0 ∧ i = 0 := by omega
          obtain ⟨rfl, rfl⟩ := h3
          rfl
        · rw [Nat.add_assoc]
      rw [e1] at h1
      exact h1)
    rw [List.take_length] at hcc
    exact hcc
def anyLe (l : List S24) (t : S24) : Bool := l.any fun x => decide (x.f0 ≤ t.f0) && decide (x.f1 ≤ t.f1)
def front_Ahead.f (k : Nat) (l0 : List (S24)) (a1_0 : Int) (a1_1 : Int) : Option (Bool) := some (anyLe l0 ⟨a1_0, a1_1⟩)
theorem front_Ahead.mono : ∀ a0 a1 a2 k, LeO (front_Ahead.f k a0 a1 a2) (front_Ahead.f (k + 1) a0 a1 a2) := fun _ _ _ _ => LeO.refl _
set_option maxHeartbeats 2000000 in
theorem front_Ahead.calls (k : Nat) (A0 : Option Addr) (c0 : Nat) (l0 : List (S24)) (a1_0 : Int) (a1_1 : Int) (r : Bool) (w : World) (hr0 : Kd.C k24 w A0 l0.length l0) (hc0 : l0.length ≤ c0) (h : front_Ahead.f k l0 a1_0 a1_1 = some r) :
    Calls Try.prog 14 #[.slice A0 l0.length c0, .agg #[.int .i64 a1_0, .int .i64 a1_1]] w fun e w' => e = .returned (.bool r) ∧ Below w.heap.size w w' := by
  have eg : ∀ args w, (callFunc 32 args).run Try.prog w = .ok (.enter 32 args) w := enters_of Try.func32 (by kernel_rfl) rfl
  obtain rfl := Option.some.inj h
  have hcon := contains_own (g := 32) (c := c0) (A := A0) eg (pred_ahead ⟨a1_0, a1_1⟩ w.heap.size (w.alloc (.cells #[.int .i64 a1_0, .int .i64 a1_1] 24)) (by simp) (by simp) (by simp)) (Kd.C_alloc hr0 _)
  change Calls Try.prog 31 _ _ (fun e w' => e = .returned (.bool (anyLe l0 ⟨a1_0, a1_1⟩)) ∧ _) at hcon
  clear hr0 h
  generalize anyLe l0 ⟨a1_0, a1_1⟩ = r at hcon ⊢
  go_enter Try.func14, Try.ntmps14
  go_wp2_with (go_at_call 31; refine hcon.mono ?_; rintro e w' ⟨rfl, hb'⟩)
  go_ret
  exact ⟨rfl, ((Below.refl _ w).alloc (Nat.le_refl _) _).trans (hb'.mono (by simp))⟩

end Go.Proofs.Ytdomdjojbpehiaa.PFrontStands
