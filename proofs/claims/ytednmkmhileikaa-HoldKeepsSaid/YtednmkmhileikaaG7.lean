/- front.Ahead; slices.IndexFunc over a hold's list. -/
import Derived.Test.YtednmkmhileikaaG6
namespace Go.Proofs.Ytednmkmhileikaa.G
open Go.RowKit Go.Proofs.YtednmkmhileikaaW.PrintWords Go.Proofs.YtednmkmhileikaaW.PrintLast Go.Proofs.YtednmkmhileikaaW.PrintMore Go.Proofs.Ytednmkmhileikaa.PHoldPlays
attribute [local go_sem] max2_int min2_int max_two min_two max_three min_three max_four min_four
set_option linter.unusedVariables false
set_option linter.unusedSimpArgs false
/-- Not behind, in either way. -/
def le (a b : S24) : Bool := decide (a.f0 ≤ b.f0) && decide (a.f1 ≤ b.f1)
theorem le_calls (a b : S24) (W : World) : Calls Try.prog 49 #[.agg #[.int .i64 a.f0, .int .i64 a.f1], .agg #[.int .i64 b.f0, .int .i64 b.f1]] W fun e w' => e = .returned (.bool (le a b)) ∧ Below W.heap.size W w' := by
 unfold le
 by_cases h : a.f0 ≤ b.f0
 · have hb : decide (a.f0 ≤ b.f0) = true := decide_eq_true h
   rw [hb, Bool.true_and]
   go_enter Try.func49, Try.ntmps49
   go_wp2
   all_goals (go_ret; exact ⟨by simp_all, by repeat (first | exact Below.refl _ _ | apply below_alloc)⟩)
 · have hb : decide (a.f0 ≤ b.f0) = false := decide_eq_false h
   rw [hb, Bool.false_and]
   go_enter Try.func49, Try.ntmps49
   go_wp2
   all_goals (go_ret; exact ⟨by simp_all, by repeat (first | exact Below.refl _ _ | apply below_alloc)⟩)
theorem rd_24 {us : List S24} {j : Nat} {x : S24} (h : us[j]? = some x) : rd_T24 us (j : Int) = x := by
 unfold rd_T24
 rw [Int.toNat_natCast, List.getD_eq_getElem?_getD, h]
 rfl
/-- The first of which p holds. -/
def At1 {α : Type} (p : α → Bool) (l : List α) (q : Option Nat) : Prop := (∀ i, q = some i → (∀ j x, j < i → l[j]? = some x → p x = false) ∧ ∃ x, l[i]? = some x ∧ p x = true) ∧ (q = none → ∀ x ∈ l, p x = false)
def posI (q : Option Nat) : Int := match q with | some i => i | none => -1
theorem At1.uniq {α : Type} {p : α → Bool} {l : List α} {q : Option Nat} (h : At1 p l q) : q = l.findIdx? p := by
 cases q with
 | none =>
   symm
   rw [List.findIdx?_eq_none_iff]
   exact h.2 rfl
 | some i =>
   obtain ⟨h1, x, hx, hp⟩ := h.1 i rfl
   symm
   obtain ⟨hi, hxe⟩ := List.getElem?_eq_some_iff.1 hx
   rw [List.findIdx?_eq_some_iff_getElem]
   refine ⟨hi, by rw [hxe]; exact hp, fun j hj => ?_⟩
   rw [h1 j _ hj (List.getElem?_eq_getElem (by omega))]
   decide
theorem idx_some {α : Type} {p : α → Bool} {l : List α} {k : Nat} {x : α} (h : ∀ j x, j < k → l[j]? = some x → p x = false) (hx : l[k]? = some x) (hp : p x = true) : l.findIdx? p = some k :=
 (At1.uniq (q := some k) ⟨fun i hi => by injection hi with hi; subst hi; exact ⟨h, x, hx, hp⟩, fun h => by cases h⟩).symm
theorem idx_none {α : Type} {p : α → Bool} {l : List α} {k : Nat} (h : ∀ j x, j < k → l[j]? = some x → p x = false) (hk : l.length ≤ k) : l.findIdx? p = none :=
 (At1.uniq (q := none) ⟨fun i hi => (by cases hi), fun _ x hx => by
  obtain ⟨j, hj⟩ := List.mem_iff_getElem?.1 hx
  exact h j x (by have := (List.getElem?_eq_some_iff.1 hj).1; omega) hj⟩).symm
theorem pred_time (x t : S24) (B : Nat) (w : World) (h0 : w.cell? ⟨B, 0, none⟩ = some (.int .i64 t.f0)) (h1 : w.cell? ⟨B, 1, none⟩ = some (.int .i64 t.f1)) : Calls Try.prog 48 #[.agg #[.int .i64 x.f0, .int .i64 x.f1], .pointer (some ⟨B, 0, none⟩)] w fun e w' => e = .returned (.bool (le x t)) ∧ Below w.heap.size w w' := by
 have hBW : B < w.heap.size := World.block_lt_of_cell? w _ h0
 have hne : B ≠ w.heap.size := by omega
 have hcon := fun W' => le_calls x t W'
 generalize le x t = r at hcon ⊢
 go_enter Try.func48, Try.ntmps48
 go_wp2_with (go_at_call 49; refine (hcon _).mono ?_; rintro e w' ⟨rfl, hb'⟩)
 go_ret
 exact ⟨rfl, below_then (below_alloc (Below.refl _ _) _) (below_alloc (Below.refl _ _) _).size hb'⟩
def Idx (w : World) (q : Option Nat) (e : Ending) (w' : World) : Prop := e = .returned (.int .i64 (posI q)) ∧ Below w.heap.size w w'
set_option maxHeartbeats 2000000 in
theorem index_time (A : Option Addr) (c : Nat) (fs : List S24) (t : S24) (B : Nat) (w : World) (hC : k24.C w A fs.length fs) (hc : fs.length ≤ c) (hn : fs.length < 4398046511104) (h0 : w.cell? ⟨B, 0, none⟩ = some (.int .i64 t.f0)) (h1 : w.cell? ⟨B, 1, none⟩ = some (.int .i64 t.f1)) :
  Calls Try.prog 63 #[.slice A fs.length c, .func (.func 48) #[] #[.pointer (some ⟨B, 0, none⟩)]] w (Idx w (fs.findIdx? fun x => le x t)) := by
 replace hC := Aside0.mk hC
 replace h0 := Aside0.mk h0
 replace h1 := Aside0.mk h1
 obtain ⟨n, hnn⟩ : ∃ n, n = fs.length := ⟨_, rfl⟩
 rw [← hnn] at hc hn hC ⊢
 replace hnn := Aside0.mk hnn
 go_enter Try.func63, Try.ntmps63
 go_wp2_with fail
 go_loopg [8] n (fun gk v wr => ∃ k : Nat, v = .int .i64 k ∧ k ≤ n ∧ n - k ≤ gk ∧ Aside0 (∀ j x, j < k → fs[j]? = some x → le x t = false) ∧ Aside0 (Below w.heap.size w wr))
 case atStart => exact ⟨0, rfl, Nat.zero_le _, by omega, ⟨fun j x hj => absurd hj (Nat.not_lt_zero _)⟩, ⟨Below.refl _ _⟩⟩
 case round =>
  obtain ⟨k, rfl, hk, hgk, HP, HB⟩ := hrel
  by_cases hlt : k < n
  · have hz : decide ((k : Int) < (n : Int)) = true := decide_eq_true (by omega)
    obtain ⟨x, hx⟩ : ∃ x, fs[k]? = some x := ⟨_, List.getElem?_eq_getElem (by have := hnn.out; omega)⟩
    obtain ⟨ad, e0, y0, y1⟩ := at_T24 hC.out (k : Int) (by omega) (by omega)
    rw [rd_24 hx] at y0 y1
    simp only [Int.toNat_natCast] at y0 y1
    cases e0
    replace y0 := HB.out.cell (World.block_lt_of_cell? w _ y0) |>.trans y0
    replace y1 := HB.out.cell (World.block_lt_of_cell? w _ y1) |>.trans y1
    have hkz : (k : Int) < (n : Int) := by omega
    have hx := Aside0.mk hx
    have HC := Aside0.mk (pred_time x t B wr (HB.out.cell (World.block_lt_of_cell? w _ h0.out) |>.trans h0.out) (HB.out.cell (World.block_lt_of_cell? w _ h1.out) |>.trans h1.out))
    by_cases hp : le x t = true
    · rw [hp] at HC
      go_wp2_with (go_at_call 48; refine HC.out.mono ?_; rintro e w' ⟨rfl, hb'⟩)
      go_ret
      refine ⟨?_, below_then HB.out HB.out.size hb'⟩
      have hq : (fs.findIdx? fun x => le x t) = some k := idx_some HP.out hx.out hp
      rw [hq]
      rfl
    · have hp : le x t = false := by simpa using hp
      rw [hp] at HC
      go_wp2_with (go_at_call 48; refine HC.out.mono ?_; rintro e w' ⟨rfl, hb'⟩)
      go_roundg (n - (k + 1))
      case measure => omega
      case rel =>
        refine ⟨k + 1, by go_num, by omega, Nat.le_refl _, ⟨fun j y hj hy => ?_⟩, ⟨below_then HB.out HB.out.size hb'⟩⟩
        rcases Nat.lt_or_ge j k with h' | h'
        · exact HP.out j y h' hy
        · have : j = k := by omega
          subst this
          rw [hx.out] at hy
          injection hy with hy
          rw [← hy]; exact hp
  · have hz : decide ((k : Int) < (n : Int)) = false := decide_eq_false (by omega)
    go_wp2
    go_ret
    refine ⟨?_, HB.out⟩
    have hq : (fs.findIdx? fun x => le x t) = none := idx_none HP.out (by have := hnn.out; omega)
    rw [hq]
    rfl
theorem contains_time (A : Option Addr) (c : Nat) (fs : List S24) (t : S24) (B : Nat) (w : World) (hC : k24.C w A fs.length fs) (hc : fs.length ≤ c) (hn : fs.length < 4398046511104) (h0 : w.cell? ⟨B, 0, none⟩ = some (.int .i64 t.f0)) (h1 : w.cell? ⟨B, 1, none⟩ = some (.int .i64 t.f1)) :
  Calls Try.prog 47 #[.slice A fs.length c, .func (.func 48) #[] #[.pointer (some ⟨B, 0, none⟩)]] w fun e w' => e = .returned (.bool (fs.any fun x => le x t)) ∧ Below w.heap.size w w' := by
 have HC := index_time A c fs t B w hC hc hn h0 h1
 have ha : decide (posI (fs.findIdx? fun x => le x t) ≥ 0) = (fs.any fun x => le x t) := by
  rw [Bool.eq_iff_iff, decide_eq_true_eq, List.any_eq_true]
  cases hq : (fs.findIdx? fun x => le x t) with
  | none =>
    rw [List.findIdx?_eq_none_iff] at hq
    refine ⟨fun h => absurd h (by decide), fun ⟨x, hx, hl⟩ => ?_⟩
    rw [hq x hx] at hl
    cases hl
  | some i =>
    rw [List.findIdx?_eq_some_iff_getElem] at hq
    obtain ⟨hi, hp, _⟩ := hq
    exact ⟨fun _ => ⟨_, List.getElem_mem hi, hp⟩, fun _ => by show (i : Int) ≥ 0; omega⟩
 generalize (fs.any fun x => le x t) = r at ha ⊢
 generalize (fs.findIdx? fun x => le x t) = q at HC ha
 go_enter Try.func47, Try.ntmps47
 go_wp2_with (go_at_call 63; refine HC.mono ?_; rintro e w' ⟨rfl, hb'⟩)
 go_ret
 exact ⟨by rw [← ha]; rfl, hb'⟩
theorem ahead_calls (A : Option Addr) (c : Nat) (fs : List S24) (t : S24) (w : World) (hC : k24.C w A fs.length fs) (hc : fs.length ≤ c) (hn : fs.length < 4398046511104) :
  Calls Try.prog 33 #[.slice A fs.length c, .agg #[.int .i64 t.f0, .int .i64 t.f1]] w fun e w' => e = .returned (.bool (fs.any fun x => le x t)) ∧ Below w.heap.size w w' := by
 have hb : Below w.heap.size w (w.alloc (.cells #[.int .i64 t.f0, .int .i64 t.f1] 24)) := below_alloc (Below.refl _ _) _
 have hbk : (w.alloc (.cells #[.int .i64 t.f0, .int .i64 t.f1] 24)).heap[w.heap.size]? = some (.cells #[.int .i64 t.f0, .int .i64 t.f1] 24 (0, 0)) := blk_new w _
 have HC := Aside0.mk (contains_time A c fs t w.heap.size _ (Kd.C_below hC hb) hc hn ((blk_cell hbk 0).trans rfl) ((blk_cell hbk 1).trans rfl))
 clear hb hbk
 generalize (fs.any fun x => le x t) = r at HC ⊢
 go_enter Try.func33, Try.ntmps33
 go_wp2_with (go_at_call 47; refine HC.out.mono ?_; rintro e w' ⟨rfl, hb'⟩)
 go_ret
 exact ⟨rfl, below_then (below_alloc (Below.refl _ _) _) (below_alloc (Below.refl _ _) _).size hb'⟩
theorem next1_calls (D : Option Addr) (d : Nat) (x : S33) (A : Option Addr) (c : Nat) (fs : List S24) (B : Nat) (w : World) (hC : k24.C w A fs.length fs) (hc : fs.length ≤ c) (hn : fs.length < 4398046511104) (h0 : w.cell? ⟨B, 0, none⟩ = some (.slice A fs.length c)) :
  Calls Try.prog 32 #[.agg #[.slice D x.f0.length d, .int .i64 x.f1.f0, .int .i64 x.f1.f1, .int .i64 x.f2], .pointer (some ⟨B, 0, none⟩)] w fun e w' => e = .returned (.bool (!(fs.any fun y => le y x.f1))) ∧ Below w.heap.size w w' := by
 have hBW : B < w.heap.size := World.block_lt_of_cell? w _ h0
 have hne : B ≠ w.heap.size := by omega
 have hb : Below w.heap.size w (w.alloc (.cells #[.slice D x.f0.length d, .int .i64 x.f1.f0, .int .i64 x.f1.f1, .int .i64 x.f2] 33)) := below_alloc (Below.refl _ _) _
 have HC := Aside0.mk (ahead_calls A c fs x.f1 _ (Kd.C_below hC hb) hc hn)
 clear hb
 generalize (fs.any fun y => le y x.f1) = r at HC ⊢
 go_enter Try.func32, Try.ntmps32
 go_wp2_with (go_at_call 33; refine HC.out.mono ?_; rintro e w' ⟨rfl, hb'⟩)
 go_ret
 exact ⟨rfl, below_then (below_alloc (Below.refl _ _) _) (below_alloc (Below.refl _ _) _).size hb'⟩
set_option maxHeartbeats 2000000 in
theorem index_up (E : Option Addr) (ce : Nat) (us : List S33) (A : Option Addr) (c : Nat) (fs : List S24) (B : Nat) (w : World) (hU : k33.C w E us.length us) (hce : us.length ≤ ce) (hun : us.length < 4398046511104) (hC : k24.C w A fs.length fs) (hc : fs.length ≤ c) (hn : fs.length < 4398046511104) (h0 : w.cell? ⟨B, 0, none⟩ = some (.slice A fs.length c)) :
  Calls Try.prog 31 #[.slice E us.length ce, .func (.func 32) #[] #[.pointer (some ⟨B, 0, none⟩)]] w (Idx w (us.findIdx? fun x => !(fs.any fun y => le y x.f1))) := by
 replace hU := Aside0.mk hU
 replace hC := Aside0.mk hC
 replace h0 := Aside0.mk h0
 obtain ⟨n, hnn⟩ : ∃ n, n = us.length := ⟨_, rfl⟩
 rw [← hnn] at hce hun hU ⊢
 replace hnn := Aside0.mk hnn
 go_enter Try.func31, Try.ntmps31
 go_wp2_with fail
 go_loopg [8] n (fun gk v wr => ∃ k : Nat, v = .int .i64 k ∧ k ≤ n ∧ n - k ≤ gk ∧ Aside0 (∀ j x, j < k → us[j]? = some x → (!(fs.any fun y => le y x.f1)) = false) ∧ Aside0 (Below w.heap.size w wr))
 case atStart => exact ⟨0, rfl, Nat.zero_le _, by omega, ⟨fun j x hj => absurd hj (Nat.not_lt_zero _)⟩, ⟨Below.refl _ _⟩⟩
 case round =>
  obtain ⟨k, rfl, hk, hgk, HP, HB⟩ := hrel
  by_cases hlt : k < n
  · have hz : decide ((k : Int) < (n : Int)) = true := decide_eq_true (by omega)
    obtain ⟨x, hx⟩ : ∃ x, us[k]? = some x := ⟨_, List.getElem?_eq_getElem (by have := hnn.out; omega)⟩
    obtain ⟨ad, A0, c0, e0, y0, y1, y2, y3, hl0, hC0⟩ := at_T33 hU.out (k : Int) (by omega) (by omega)
    rw [rd_33 hx] at y0 y1 y2 y3 hl0 hC0
    simp only [Int.toNat_natCast] at y0 y1 y2 y3
    cases e0
    replace y0 := HB.out.cell (World.block_lt_of_cell? w _ y0) |>.trans y0
    replace y1 := HB.out.cell (World.block_lt_of_cell? w _ y1) |>.trans y1
    replace y2 := HB.out.cell (World.block_lt_of_cell? w _ y2) |>.trans y2
    replace y3 := HB.out.cell (World.block_lt_of_cell? w _ y3) |>.trans y3
    have hkz : (k : Int) < (n : Int) := by omega
    have hx := Aside0.mk hx
    have HC := Aside0.mk (next1_calls A0 c0 x A c fs B wr (Kd.C_below hC.out HB.out) hc hn (HB.out.cell (World.block_lt_of_cell? w _ h0.out) |>.trans h0.out))
    clear hl0 hC0
    by_cases hp : (!(fs.any fun y => le y x.f1)) = true
    · rw [hp] at HC
      go_wp2_with (go_at_call 32; refine HC.out.mono ?_; rintro e w' ⟨rfl, hb'⟩)
      go_ret
      refine ⟨?_, below_then HB.out HB.out.size hb'⟩
      have hq : (us.findIdx? fun x => !(fs.any fun y => le y x.f1)) = some k := idx_some HP.out hx.out hp
      rw [hq]
      rfl
    · have hp : (!(fs.any fun y => le y x.f1)) = false := by simpa using hp
      rw [hp] at HC
      go_wp2_with (go_at_call 32; refine HC.out.mono ?_; rintro e w' ⟨rfl, hb'⟩)
      go_roundg (n - (k + 1))
      case measure => omega
      case rel =>
        refine ⟨k + 1, by go_num, by omega, Nat.le_refl _, ⟨fun j y hj hy => ?_⟩, ⟨below_then HB.out HB.out.size hb'⟩⟩
        rcases Nat.lt_or_ge j k with h' | h'
        · exact HP.out j y h' hy
        · have : j = k := by omega
          subst this
          rw [hx.out] at hy
          injection hy with hy
          rw [← hy]; exact hp
  · have hz : decide ((k : Int) < (n : Int)) = false := decide_eq_false (by omega)
    go_wp2
    go_ret
    refine ⟨?_, HB.out⟩
    have hq : (us.findIdx? fun x => !(fs.any fun y => le y x.f1)) = none := idx_none HP.out (by have := hnn.out; omega)
    rw [hq]
    rfl
end Go.Proofs.Ytednmkmhileikaa.G
