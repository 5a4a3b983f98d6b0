/- Holds: all that the walk of HoldPlays asks for. -/
import Derived.Test.YtednmkmhileikaaB2HoldPlays
import Derived.Test.YtednmkmhileikaaG12
import Derived.Test.YtednmkmhileikaaBHoldPlays
import Derived.Test.YtednmkmhileikaaG15
namespace Go.Proofs.Ytednmkmhileikaa.G
open Go.RowKit Go.Proofs.YtednmkmhileikaaW.PrintWords Go.Proofs.YtednmkmhileikaaW.PrintLast Go.Proofs.YtednmkmhileikaaW.PrintMore Go.Proofs.Ytednmkmhileikaa.PHoldPlays
set_option linter.unusedVariables false
set_option linter.unusedSimpArgs false
attribute [local irreducible] IntKind.wrap Go.bits shr shl maxLen
/-- Two orders, one behind the other. -/
def thenC {α : Type} (c d : α → α → Int) (a b : α) : Int := if c a b = 0 then d a b else c a b
theorem thenC_ok {α : Type} {c d : α → α → Int} (hc : RowPure.Ok c) (hd : RowPure.Ok d) : RowPure.Ok (thenC c d) where
 rng a b := by unfold thenC; split; exact hd.rng _ _; exact hc.rng _ _
 anti a b := by
  have h := hc.anti a b
  unfold thenC
  by_cases h0 : c a b = 0
  · rw [if_pos h0, if_pos (by omega), hd.anti a b]
  · rw [if_neg h0, if_neg (by omega), h]
 trans a b e := by
  unfold thenC
  intro h1 h2
  by_cases h3 : c a b = 0
  · rw [if_pos h3] at h1
    have h4 := hc.zero_left h3 e
    by_cases h5 : c b e = 0
    · rw [if_pos h5] at h2
      rw [if_pos (by omega)]
      exact hd.trans a b e h1 h2
    · rw [if_neg h5] at h2
      rw [if_neg (by omega)]
      omega
  · rw [if_neg h3] at h1
    have h6 : c a e < 0 := by
     refine hc.lt_trans (b := b) (by omega) ?_
     by_cases h5 : c b e = 0
     · omega
     · rw [if_neg h5] at h2; exact h2
    rw [if_neg (by omega)]
    omega
/-- The order of times; of changes. -/
def mcmp (a b : S33) : Int := thenC (fun x y : S33 => RowPure.cmpI x.f1.f0 y.f1.f0) (fun x y : S33 => RowPure.cmpI x.f1.f1 y.f1.f1) a b
def rcmp (a b : S33) : Int := RowPure.ord (B2HoldPlays.vs a.f0) (B2HoldPlays.vs b.f0)
def ucmp (a b : S33) : Int := thenC mcmp rcmp a b
theorem mcmp_ok : RowPure.Ok mcmp := thenC_ok ⟨fun _ _ => RowPure.cmpI_ok.rng _ _, fun _ _ => RowPure.cmpI_ok.anti _ _, fun _ _ _ => RowPure.cmpI_ok.trans _ _ _⟩ ⟨fun _ _ => RowPure.cmpI_ok.rng _ _, fun _ _ => RowPure.cmpI_ok.anti _ _, fun _ _ _ => RowPure.cmpI_ok.trans _ _ _⟩
theorem rcmp_ok : RowPure.Ok rcmp := ⟨fun _ _ => RowPure.ord_ok.rng _ _, fun _ _ => RowPure.ord_ok.anti _ _, fun _ _ _ => RowPure.ord_ok.trans _ _ _⟩
theorem ucmp_ok : RowPure.Ok ucmp := thenC_ok mcmp_ok rcmp_ok
theorem cmpI_ne {a b : Int} (h : ¬ a = b) : RowPure.cmpI a b ≠ 0 := fun e => h (RowPure.cmpI_zero.1 e)
theorem mOrder_f (a b : S33) : moment_Order.f a.f1.f0 a.f1.f1 b.f1.f0 b.f1.f1 = some (mcmp a b) := by
 unfold moment_Order.f moment_place_against.f mcmp thenC
 by_cases h : a.f1.f0 = b.f1.f0
 · rw [if_pos h, B2HoldPlays.cmpInt_f, if_pos (RowPure.cmpI_zero.2 h)]; rfl
 · rw [if_neg h, B2HoldPlays.cmpInt_f, if_neg (cmpI_ne h)]; rfl
theorem Ord_f (x u : S33) (hm : x.f0.length ≤ maxLen) : Ord x u (ucmp x u) := by
 have hmu : u.f0.length ≤ maxLen ∨ True := .inr trivial
 refine ⟨x.f0.length + 1, ?_⟩
 unfold hold_order.f ucmp thenC
 rw [mOrder_f]
 simp only [Option.bind_some]
 split
 · rw [B2HoldPlays.Order_f x.f0 u.f0 hm (by omega)]; rfl
 · rfl
/-- Where a change goes. -/
def pos : List S33 → S33 → Nat
 | [], _ => 0
 | x :: l, u => if ucmp x u < 0 then pos l u + 1 else 0
theorem pos_le : ∀ (l : List S33) (u : S33), pos l u ≤ l.length
 | [], _ => Nat.le_refl _
 | x :: l, u => by
  simp only [pos, List.length_cons]
  split
  · have := pos_le l u; omega
  · omega
theorem pos_lt : ∀ (l : List S33) (u : S33) (j : Nat) (x : S33), j < pos l u → l[j]? = some x → ucmp x u < 0
 | [], _, j, _, h, _ => absurd h (Nat.not_lt_zero _)
 | y :: l, u, j, x, h, hx => by
  simp only [pos] at h
  split at h
  · rename_i hy
    cases j with
    | zero => injection hx with hx; rw [← hx]; exact hy
    | succ j => exact pos_lt l u j x (by omega) hx
  · omega
/-- In order, each once. -/
def Sorted (l : List S33) : Prop := l.Pairwise fun a b => ucmp a b < 0
theorem pos_ge : ∀ (l : List S33) (u : S33) (j : Nat) (x : S33), Sorted l → pos l u ≤ j → l[j]? = some x → 0 ≤ ucmp x u
 | [], _, j, _, _, _, hx => by simp at hx
 | y :: l, u, j, x, hs, h, hx => by
  simp only [pos] at h
  split at h
  · cases j with
    | zero => omega
    | succ j => exact pos_ge l u j x (List.pairwise_cons.1 hs).2 (by omega) hx
  · rename_i hy
    cases j with
    | zero => injection hx with hx; rw [← hx]; omega
    | succ j =>
      have h1 := (List.pairwise_cons.1 hs).1 x (List.mem_of_getElem? hx)
      rcases Int.lt_or_le (ucmp x u) 0 with h2 | h2
      · exact absurd (ucmp_ok.lt_trans h1 (by omega)) hy
      · exact h2
theorem ins_sorted {l : List S33} {u : S33} (hs : Sorted l) (hne : ∀ x, l[pos l u]? = some x → ucmp x u ≠ 0) : Sorted (ins (pos l u) u l) := by
 induction l with
 | nil => simp [ins, Sorted]
 | cons y l ih =>
  have h1 := List.pairwise_cons.1 hs
  by_cases hy : ucmp y u < 0
  · have e : pos (y :: l) u = pos l u + 1 := by simp only [pos]; rw [if_pos hy]
    rw [e] at hne ⊢
    have h2 := ih h1.2 (fun x hx => hne x hx)
    have e2 : ins (pos l u + 1) u (y :: l) = y :: ins (pos l u) u l := by simp [ins]
    rw [e2]
    refine List.pairwise_cons.2 ⟨fun a ha => ?_, h2⟩
    have ha' : a = u ∨ a ∈ l := by
     simp only [ins, List.mem_append, List.mem_singleton] at ha
     rcases ha with (ha | ha) | ha
     · exact .inr (List.mem_of_mem_take ha)
     · exact .inl ha
     · exact .inr (List.mem_of_mem_drop ha)
    rcases ha' with rfl | ha'
    · exact hy
    · exact h1.1 a ha'
  · have e : pos (y :: l) u = 0 := by simp only [pos]; rw [if_neg hy]
    rw [e] at hne ⊢
    have hn := hne y rfl
    have hu : ucmp u y < 0 := by have := ucmp_ok.anti y u; omega
    have e2 : ins 0 u (y :: l) = u :: y :: l := by simp [ins]
    rw [e2]
    refine List.pairwise_cons.2 ⟨fun a ha => ?_, hs⟩
    rcases List.mem_cons.1 ha with rfl | ha
    · exact hu
    · exact ucmp_ok.lt_trans hu (by have := h1.1 a ha; omega)
theorem ucmp_key {x y : S33} (u : S33) (h0 : x.f0 = y.f0) (h1 : x.f1 = y.f1) : ucmp x u = ucmp y u ∧ ucmp u x = ucmp u y := by
 simp only [ucmp, thenC, mcmp, rcmp, h0, h1, and_self]
theorem set_sorted {l : List S33} {p : Nat} {x : S33} (s : Int) (hs : Sorted l) (hx : l[p]? = some x) : Sorted (l.set p ⟨x.f0, x.f1, s⟩) := by
 unfold Sorted at *
 rw [List.pairwise_iff_getElem] at *
 intro i j hi hj hij
 simp only [List.length_set] at hi hj
 obtain ⟨hp, hxe⟩ := List.getElem?_eq_some_iff.1 hx
 have h := hs i j hi hj hij
 rw [List.getElem_set, List.getElem_set]
 by_cases h1 : p = i
 · subst h1
   rw [if_pos rfl, if_neg (by omega)]
   rw [hxe] at h
   rw [(ucmp_key (x := ⟨x.f0, x.f1, s⟩) (y := x) l[j] rfl rfl).1]
   exact h
 · by_cases h2 : p = j
   · subst h2
     rw [if_neg h1, if_pos rfl]
     rw [hxe] at h
     rw [(ucmp_key (x := ⟨x.f0, x.f1, s⟩) (y := x) l[i] rfl rfl).2]
     exact h
   · rw [if_neg h1, if_neg h2]
     exact h
theorem erase_sorted {l : List S33} (p : Nat) (hs : Sorted l) : Sorted (l.eraseIdx p) := List.Pairwise.sublist (List.eraseIdx_sublist l p) hs
theorem wadd_tot (a b : Int) : ∃ s e, weigh_Add.f a b = some (s, e) := by
 unfold weigh_Add.f
 (repeat' split) <;> exact ⟨_, _, rfl⟩
/-- What is held then, and what is told. -/
def addS (us : List S33) (u : S33) : List S33 × Int :=
 match us[pos us u]? with
 | some x => if ucmp x u = 0 then (match weigh_Add.f x.f2 u.f2 with
   | some (s, e) => (if e ≠ 0 then us else if s = 0 then us.eraseIdx (pos us u) else us.set (pos us u) ⟨x.f0, x.f1, s⟩, e)
   | none => (us, 0)) else (if u.f2 = 0 then us else ins (pos us u) u us, 0)
 | none => (if u.f2 = 0 then us else ins (pos us u) u us, 0)
theorem addS_adds {us : List S33} {u : S33} (hs : Sorted us) (hm : ∀ x ∈ us, x.f0.length ≤ maxLen) : AddsTo us u (addS us u).1 (addS us u).2 := by
 refine ⟨fun j => match us[j]? with | some x => ucmp x u | none => 0, pos us u, fun j x hx => ?_, pos_le us u, fun j hj => ?_, fun j hj hl => ?_, ?_⟩
 · simp only [hx]
   exact Ord_f x u (hm x (List.mem_of_getElem? hx))
 · have hl : j < us.length := Nat.lt_of_lt_of_le hj (pos_le us u)
   have hx : us[j]? = some us[j] := List.getElem?_eq_getElem hl
   simp only [hx]
   exact pos_lt us u j _ hj hx
 · have hx : us[j]? = some us[j] := List.getElem?_eq_getElem hl
   simp only [hx]
   exact pos_ge us u j _ hs hj hx
 · unfold addS
   rcases Nat.lt_or_ge (pos us u) us.length with hl | hl
   · obtain ⟨x, hx⟩ : ∃ x, us[pos us u]? = some x := ⟨_, List.getElem?_eq_getElem hl⟩
     simp only [hx]
     by_cases h0 : ucmp x u = 0
     · obtain ⟨s, e, hw⟩ := wadd_tot x.f2 u.f2
       refine .inr ⟨⟨hl, h0⟩, x, s, rfl, ?_, ?_⟩
       · rw [if_pos h0, hw]
       · rw [if_pos h0, hw]
     · refine .inl ⟨fun h => h0 h.2, ?_, ?_⟩
       · rw [if_neg h0]
       · rw [if_neg h0]
   · have hx : us[pos us u]? = none := List.getElem?_eq_none hl
     simp only [hx]
     refine .inl ⟨fun h => absurd h.1 (by omega), by first | rfl | trivial, by first | rfl | trivial⟩
theorem addS_sorted {us : List S33} {u : S33} (hs : Sorted us) : Sorted (addS us u).1 := by
 unfold addS
 rcases hx : us[pos us u]? with _ | x
 · simp only []
   split
   · exact hs
   · exact ins_sorted hs (fun x h => by rw [hx] at h; cases h)
 · simp only []
   by_cases h0 : ucmp x u = 0
   · rw [if_pos h0]
     obtain ⟨s, e, hw⟩ := wadd_tot x.f2 u.f2
     rw [hw]
     simp only []
     split
     · exact hs
     · split
       · exact erase_sorted _ hs
       · exact set_sorted s hs hx
   · rw [if_neg h0]
     simp only []
     split
     · exact hs
     · exact ins_sorted hs (fun y h => by rw [hx] at h; injection h with h; rw [← h]; exact h0)
theorem addS_len (us : List S33) (u : S33) : (addS us u).1.length ≤ us.length + 1 := by
 unfold addS
 rcases hx : us[pos us u]? with _ | x
 · simp only []
   split
   · omega
   · rw [ins_length]; exact Nat.le_refl _
 · simp only []
   split
   · split
     · simp only []
       split
       · omega
       · split
         · rw [List.length_eraseIdx]; split <;> omega
         · rw [List.length_set]; omega
     · show us.length ≤ us.length + 1; omega
   · split
     · simp only []; omega
     · simp only []; rw [ins_length]; exact Nat.le_refl _
theorem wrapk {i n : Nat} (h : i < n) (hn : n ≤ 1000000) : wrap64 ((i : Int) + 1) = ((i + 1 : Nat) : Int) := by
 unfold wrap64; omega
theorem rd33 (l : List S33) (i : Nat) (h : i < l.length) : rd_T33 l (i : Int) = l[i] := by unfold rd_T33; rw [Int.toNat_natCast, List.getD_eq_getElem?_getD, List.getElem?_eq_getElem h]; rfl
theorem same_self (u : S33) (hm : u.f0.length ≤ maxLen) : ∃ k, runnelref07_Same.f k [u] [u] = some true := by
 refine ⟨2 * u.f0.length + 5, ?_⟩
 have ho : runnelref07_Order.f (2 * u.f0.length + 4) u.f0 u.f1.f0 u.f1.f1 u.f2 u.f0 u.f1.f0 u.f1.f1 u.f2 = some 0 := by
  unfold runnelref07_Order.f
  rw [B2HoldPlays.ROrder_f u.f0 u.f0 hm (by omega), RowPure.ord_ok.refl]
  simp [runnelref04_Order.f]
 have hr : rd_T33 [u] 0 = u := rfl
 unfold runnelref07_Same.f
 rw [if_pos rfl]
 simp only [runnelref07_Same.l0]
 rw [if_pos (by simp), if_pos (by omega), if_pos (by simp), hr, ho]
 simp only [Option.bind_some, if_true]
 have hw : wrap64 (0 + 1) = 1 := by unfold wrap64; omega
 rw [hw]
 simp
theorem much7_l0 (l : List S33) (hl : l.length ≤ 1000000) (hm : ∀ u ∈ l, u.f0.length ≤ maxLen) (n : Nat) (hn : ∀ u ∈ l, u.f0.length ≤ n) (d : Nat) : ∀ (k i : Nat), i + d = l.length → d + n < k → ∃ b, runnelref07_Much.l0 k l (i : Int) = some b ∧ (b = false → ∀ x ∈ l.drop i, x.f0.length ≤ 30) := by
 induction d with
 | zero =>
  intro k i hi hk
  obtain ⟨k, rfl⟩ : ∃ n, k = n + 1 := ⟨k - 1, by omega⟩
  simp only [runnelref07_Much.l0]
  rw [if_neg (by omega)]
  exact ⟨false, rfl, fun _ => by rw [List.drop_of_length_le (by omega)]; simp⟩
 | succ d ih =>
  intro k i hi hk
  obtain ⟨k, rfl⟩ : ∃ n, k = n + 1 := ⟨k - 1, by omega⟩
  simp only [runnelref07_Much.l0]
  have hi' : i < l.length := by omega
  rw [if_pos (by omega), if_pos (by omega), rd33 l i hi']
  have hx := hn l[i] (List.getElem_mem hi')
  obtain ⟨b, hb, hf⟩ := B2HoldPlays.Long_f (k := k) l[i].f0 (hm _ (List.getElem_mem hi')) (by omega)
  rw [hb]
  simp only [Option.bind_some]
  cases b with
  | true => exact ⟨true, rfl, fun e => by cases e⟩
  | false =>
   rw [if_neg (by simp), wrapk hi' hl]
   obtain ⟨b2, hb2, hf2⟩ := ih k (i + 1) (by omega) (by omega)
   refine ⟨b2, hb2, fun e x hx => ?_⟩
   rw [List.drop_eq_getElem_cons hi'] at hx
   rcases List.mem_cons.1 hx with rfl | hx
   · exact (hf rfl).1
   · exact hf2 e x hx
theorem much7 (l : List S33) (hm : ∀ u ∈ l, u.f0.length ≤ maxLen) (n : Nat) (hn : ∀ u ∈ l, u.f0.length ≤ n) (k : Nat) (hk : n + 100 < k) : ∃ b, runnelref07_Much.f k l = some b ∧ (b = false → l.length ≤ 60 ∧ ∀ x ∈ l, x.f0.length ≤ 30) := by
 unfold runnelref07_Much.f
 by_cases h : (l.length : Int) > 60
 · rw [if_pos h]; exact ⟨true, rfl, fun e => by cases e⟩
 · rw [if_neg h]
   obtain ⟨b, hb, hf⟩ := much7_l0 l (by omega) hm n hn l.length k 0 (by omega) (by omega)
   exact ⟨b, hb, fun e => ⟨by omega, by simpa using hf e⟩⟩
theorem ml30 : 30 ≤ maxLen := by unfold maxLen; omega
end Go.Proofs.Ytednmkmhileikaa.G
namespace Go.Proofs.Ytednmkmhileikaa.G
open Go.RowKit Go.Proofs.YtednmkmhileikaaW.PrintWords Go.Proofs.YtednmkmhileikaaW.PrintLast Go.Proofs.YtednmkmhileikaaW.PrintMore Go.Proofs.Ytednmkmhileikaa.PHoldPlays
set_option linter.unusedVariables false
set_option linter.unusedSimpArgs false
attribute [local irreducible] IntKind.wrap Go.bits shr shl maxLen
def I64 (a : Int) : Prop := -9223372036854775808 ≤ a ∧ a ≤ 9223372036854775807
/-- The sum that is told. -/
def wsum (a b : Int) : Int × Int := if a + b < -9223372036854775808 ∨ 9223372036854775807 < a + b then (0, 60) else (a + b, 0)
theorem wsum_f (a b : Int) (ha : I64 a) (hb : I64 b) : weigh_Add.f a b = some (wsum a b) := by
 unfold I64 at ha hb
 unfold weigh_Add.f wsum wrap64
 by_cases h1 : b > 0
 · rw [if_pos h1]
   by_cases h2 : a + b > 9223372036854775807
   · rw [if_pos (by omega), if_pos (by omega)]
   · rw [if_neg (by omega), if_neg (by omega), if_neg (by omega)]
     congr 2
     omega
 · rw [if_neg h1]
   by_cases h3 : b < 0
   · rw [if_pos h3]
     by_cases h2 : a + b < -9223372036854775808
     · rw [if_pos (by omega), if_pos (by omega)]
     · rw [if_neg (by omega), if_neg (by omega)]
       congr 2
       omega
   · rw [if_neg h3, if_neg (by omega)]
     congr 2
     omega
theorem wsum_in {a b : Int} : I64 (wsum a b).1 := by
 unfold I64 wsum
 split <;> constructor <;> simp only [] <;> omega
theorem signed_f (a : Int) (ha : I64 a) : runnelref06_signed.f a = some (a / 4294967296, a % 4294967296) := by
 unfold I64 at ha
 have hu : IntKind.u64.wrap a = a % 18446744073709551616 := IntKind.wrap_u64 a
 have hm : Int.tmod (a % 18446744073709551616) 4294967296 = a % 4294967296 := by
  rw [Int.tmod_eq_emod_of_nonneg (by omega)]; omega
 have hw : wrap64 (a % 4294967296) = a % 4294967296 := by unfold wrap64; omega
 unfold runnelref06_signed.f runnelref06_wide.f
 simp only [Option.bind_some]
 rw [hu, hm, hw, IntKind.wrap_u64, IntKind.wrap_u64, IntKind.wrap_u64]
 have e1 : (a % 18446744073709551616 - a % 4294967296 % 18446744073709551616) % 18446744073709551616 = a % 18446744073709551616 - a % 4294967296 := by omega
 rw [e1, Int.tdiv_eq_ediv_of_nonneg (by omega)]
 have e2 : wrap64 ((a % 18446744073709551616 - a % 4294967296) / 4294967296 % 18446744073709551616) = (a % 18446744073709551616) / 4294967296 := by unfold wrap64; omega
 rw [e2]
 split
 · congr 2
   unfold wrap64; omega
 · congr 2
   omega
theorem radd_f (a b : Int) (ha : I64 a) (hb : I64 b) : runnelref06_Add.f a b = some (wsum a b) := by
 unfold runnelref06_Add.f
 rw [signed_f a ha, signed_f b hb]
 simp only [Option.bind_some]
 unfold I64 at ha hb
 have h1 : wrap64 (a % 4294967296 + b % 4294967296) = a % 4294967296 + b % 4294967296 := by unfold wrap64; omega
 rw [h1, Int.tdiv_eq_ediv_of_nonneg (by omega), Int.tmod_eq_emod_of_nonneg (by omega)]
 have h2 : wrap64 (wrap64 (a / 4294967296 + b / 4294967296) + wrap64 ((a % 4294967296 + b % 4294967296) / 4294967296)) = (a + b) / 4294967296 := by unfold wrap64; omega
 have h3 : (a % 4294967296 + b % 4294967296) % 4294967296 = (a + b) % 4294967296 := by omega
 rw [h2, h3]
 unfold runnelref06_narrow.f wsum
 by_cases h4 : a + b < -9223372036854775808
 · rw [if_pos (by omega), if_pos (by omega)]; rfl
 · by_cases h5 : 9223372036854775807 < a + b
   · rw [if_neg (by omega), if_pos (by omega), if_pos (by omega)]; rfl
   · rw [if_neg (by omega), if_neg (by omega), if_neg (by omega)]
     simp only [Option.bind_some]
     congr 2
     unfold wrap64; omega
theorem tOrder_f (a b : S33) : runnelref04_Order.f a.f1.f0 a.f1.f1 b.f1.f0 b.f1.f1 = some (mcmp a b) := by
 unfold runnelref04_Order.f mcmp thenC RowPure.cmpI
 rcases Int.lt_trichotomy a.f1.f0 b.f1.f0 with h | h | h
 · rw [if_neg (by simp; omega), if_pos h]
   simp only [if_pos h]; rfl
 · rcases Int.lt_trichotomy a.f1.f1 b.f1.f1 with k | k | k
   · simp only [h, k, Int.lt_irrefl, if_true, if_false, beq_self_eq_true, Bool.true_and]
     rw [if_neg (by simp; omega)]
   · simp [h, k]
   · have k1 : ¬ a.f1.f1 < b.f1.f1 := by omega
     simp only [h, k1, k, Int.lt_irrefl, if_true, if_false, beq_self_eq_true, Bool.true_and]
     rw [if_neg (by simp; omega)]
 · have k1 : ¬ a.f1.f0 < b.f1.f0 := by omega
   rw [if_neg (by simp; omega), if_neg k1, if_neg (by omega)]
   simp only [if_neg k1, if_pos h]; rfl
theorem rorder_f {k : Nat} (x u : S33) (hm : x.f0.length ≤ 30) (hk : 70 ≤ k) : runnelref21_order.f k x.f0 x.f1.f0 x.f1.f1 x.f2 u.f0 u.f1.f0 u.f1.f1 u.f2 = some (ucmp x u) := by
 unfold runnelref21_order.f ucmp thenC
 rw [tOrder_f]
 simp only [Option.bind_some]
 split
 · rw [B2HoldPlays.ROrder_f x.f0 u.f0 (Nat.le_trans hm ml30) (by omega)]; rfl
 · rfl
theorem rd24 (l : List S24) (i : Nat) (h : i < l.length) : rd_T24 l (i : Int) = l[i] := by unfold rd_T24; rw [Int.toNat_natCast, List.getD_eq_getElem?_getD, List.getElem?_eq_getElem h]; rfl
theorem ahead_l0 (fs : List S24) (t : S24) (hn : fs.length ≤ 1000) (d : Nat) : ∀ (k i : Nat), i + d = fs.length → d < k → runnelref05_Ahead.l0 k fs (i : Int) t.f0 t.f1 = some ((fs.drop i).any fun y => le y t) := by
 induction d with
 | zero =>
  intro k i hi hk
  obtain ⟨k, rfl⟩ : ∃ n, k = n + 1 := ⟨k - 1, by omega⟩
  simp only [runnelref05_Ahead.l0]
  rw [if_neg (by omega), List.drop_of_length_le (by omega)]; rfl
 | succ d ih =>
  intro k i hi hk
  obtain ⟨k, rfl⟩ : ∃ n, k = n + 1 := ⟨k - 1, by omega⟩
  have hi' : i < fs.length := by omega
  simp only [runnelref05_Ahead.l0]
  rw [if_pos (by omega), if_pos (by omega), rd24 fs i hi', List.drop_eq_getElem_cons hi', List.any_cons]
  have hle : runnelref04_LessEq.f fs[i].f0 fs[i].f1 t.f0 t.f1 = some (le fs[i] t) := by
   unfold runnelref04_LessEq.f le
   by_cases h : fs[i].f0 ≤ t.f0
   · rw [if_pos h, decide_eq_true h, Bool.true_and]
   · rw [if_neg h, decide_eq_false h, Bool.false_and]
  rw [hle]
  simp only [Option.bind_some]
  cases hb : le fs[i] t with
  | true => simp
  | false =>
   rw [if_neg (by simp), wrapk hi' (by omega), ih k (i + 1) (by omega) (by omega), Bool.false_or]
theorem rahead_f (fs : List S24) (x : S33) (hn : fs.length ≤ 1000) : RAhead fs x (fs.any fun y => le y x.f1) := ⟨fs.length + 1, by
 unfold runnelref05_Ahead.f
 rw [show (0 : Int) = ((0 : Nat) : Int) from rfl, ahead_l0 fs x.f1 hn fs.length _ 0 (by omega) (by omega)]
 rfl⟩
end Go.Proofs.Ytednmkmhileikaa.G
namespace Go.Proofs.Ytednmkmhileikaa.G
open Go.RowKit Go.Proofs.YtednmkmhileikaaW.PrintWords Go.Proofs.YtednmkmhileikaaW.PrintLast Go.Proofs.YtednmkmhileikaaW.PrintMore Go.Proofs.Ytednmkmhileikaa.PHoldPlays
set_option linter.unusedVariables false
set_option linter.unusedSimpArgs false
attribute [local irreducible] IntKind.wrap Go.bits shr shl maxLen
theorem ucmp_self (x : S33) : ucmp x x = 0 := ucmp_ok.refl x
theorem sorted_ne {us : List S33} (h : Sorted us) : us.Pairwise fun a b => ucmp a b ≠ 0 := h.imp (fun {a b} h => by omega)
theorem ne_symm {x y : S33} (h : ucmp x y ≠ 0) : ucmp y x ≠ 0 := by have := ucmp_ok.anti x y; omega
theorem perm_ne {us r : List S33} (h : Sorted us) (hp : r.Perm us) : r.Pairwise fun a b => ucmp a b ≠ 0 := (List.Perm.pairwise_iff (fun h => ne_symm h) hp.symm).1 (sorted_ne h)
theorem pair_get {r : List S33} (h : r.Pairwise fun a b => ucmp a b ≠ 0) {i j : Nat} {x y : S33} (hi : r[i]? = some x) (hj : r[j]? = some y) (hne : i ≠ j) : ucmp x y ≠ 0 := by
 obtain ⟨hi', rfl⟩ := List.getElem?_eq_some_iff.1 hi
 obtain ⟨hj', rfl⟩ := List.getElem?_eq_some_iff.1 hj
 rw [List.pairwise_iff_getElem] at h
 rcases Nat.lt_or_gt_of_ne hne with hl | hl
 · exact h i j hi' hj' hl
 · exact ne_symm (h j i hj' hi' hl)
theorem cut_perm {l : List S33} {p : Nat} {x : S33} (hx : l[p]? = some x) : (x :: l.eraseIdx p).Perm l := by
 obtain ⟨hp, rfl⟩ := List.getElem?_eq_some_iff.1 hx
 rw [List.eraseIdx_eq_take_drop_succ]
 refine (List.perm_middle (a := l[p]) (l₁ := l.take p) (l₂ := l.drop (p + 1))).symm.trans ?_
 rw [List.getElem_cons_drop, List.take_append_drop]
theorem set_perm {l : List S33} {p : Nat} {x z : S33} (hx : l[p]? = some x) : (l.set p z).Perm (z :: l.eraseIdx p) := by
 obtain ⟨hp, _⟩ := List.getElem?_eq_some_iff.1 hx
 rw [List.set_eq_take_append_cons_drop, if_pos hp, List.eraseIdx_eq_take_drop_succ]
 exact List.perm_middle
theorem ins_perm (p : Nat) (u : S33) (l : List S33) : (ins p u l).Perm (u :: l) := by
 unfold ins
 rw [List.append_assoc]
 refine (List.perm_middle (a := u) (l₁ := l.take p) (l₂ := l.drop p)).trans ?_
 rw [List.take_append_drop]
/-! ### Next -/
def oR (r : List S33) (i j : Nat) : Int := match r[i]?, r[j]? with | some a, some b => ucmp a b | _, _ => 0
theorem oR_eq {r : List S33} {i j : Nat} {a b : S33} (ha : r[i]? = some a) (hb : r[j]? = some b) : oR r i j = ucmp a b := by
 unfold oR
 rw [ha, hb]
theorem bst_best {r : List S33} {ah : Nat → Bool} {nf : S33 → Bool} (hah : ∀ j x, r[j]? = some x → ah j = !(nf x)) : ∀ n, n ≤ r.length →
  (bst ah (oR r) n = none → ∀ j x, j < n → r[j]? = some x → nf x = false) ∧
  (∀ q, bst ah (oR r) n = some q → ∃ y, r[q]? = some y ∧ nf y = true ∧ ∀ j x, j < n → r[j]? = some x → nf x = true → 0 ≤ ucmp x y)
 | 0, _ => ⟨fun _ j x h => absurd h (Nat.not_lt_zero _), fun q h => by cases h⟩
 | n + 1, hn => by
  have ih := bst_best hah n (by omega)
  obtain ⟨x, hx⟩ : ∃ x, r[n]? = some x := ⟨_, List.getElem?_eq_getElem (by omega)⟩
  have hax := hah n x hx
  unfold bst
  rcases hq : bst ah (oR r) n with _ | b
  · have h1 := ih.1 hq
    simp only []
    cases hf : nf x with
    | false =>
     rw [hf] at hax
     rw [hax]
     refine ⟨fun _ j y hj hy => ?_, fun q h => by simp at h⟩
     rcases Nat.lt_or_ge j n with h | h
     · exact h1 j y h hy
     · obtain rfl : j = n := by omega
       rw [hx] at hy; injection hy with hy; rw [← hy]; exact hf
    | true =>
     rw [hf] at hax
     rw [hax]
     refine ⟨fun h => by simp at h, fun q h => ?_⟩
     simp at h
     subst h
     refine ⟨x, hx, hf, fun j y hj hy hy2 => ?_⟩
     rcases Nat.lt_or_ge j n with h | h
     · rw [h1 j y h hy] at hy2; cases hy2
     · obtain rfl : j = n := by omega
       rw [hx] at hy; injection hy with hy; rw [← hy, ucmp_self]; omega
  · obtain ⟨y, hy, hfy, hb⟩ := ih.2 b hq
    simp only []
    cases hf : nf x with
    | false =>
     rw [hf] at hax
     rw [hax]
     refine ⟨fun h => by simp at h, fun q h => ?_⟩
     simp at h
     subst h
     refine ⟨y, hy, hfy, fun j z hj hz hz2 => ?_⟩
     rcases Nat.lt_or_ge j n with h | h
     · exact hb j z h hz hz2
     · obtain rfl : j = n := by omega
       rw [hx] at hz; injection hz with hz; rw [← hz, hf] at hz2; cases hz2
    | true =>
     rw [hf] at hax
     rw [hax]
     simp only [oR_eq hx hy, Bool.not_true, Bool.false_eq_true, if_false]
     by_cases hc : ucmp x y < 0
     · rw [if_pos hc]
       refine ⟨fun h => by simp at h, fun q h => ?_⟩
       simp at h
       subst h
       refine ⟨x, hx, hf, fun j z hj hz hz2 => ?_⟩
       rcases Nat.lt_or_ge j n with h | h
       · have h1 := hb j z h hz hz2
         have h2 : ucmp x z < 0 := ucmp_ok.lt_trans hc (by have := ucmp_ok.anti z y; omega)
         have := ucmp_ok.anti x z
         omega
       · obtain rfl : j = n := by omega
         rw [hx] at hz; injection hz with hz; rw [← hz, ucmp_self]; omega
     · rw [if_neg hc]
       refine ⟨fun h => by simp at h, fun q h => ?_⟩
       simp at h
       subst h
       refine ⟨y, hy, hfy, fun j z hj hz hz2 => ?_⟩
       rcases Nat.lt_or_ge j n with h | h
       · exact hb j z h hz hz2
       · obtain rfl : j = n := by omega
         rw [hx] at hz; injection hz with hz; rw [← hz]; omega
theorem both_next {us r : List S33} (hs : Sorted us) (hp : r.Perm us) (fs : List S24) (hfs : fs.length ≤ 1000) (hr : ∀ x ∈ us, x.f0.length ≤ 30) :
  ∃ yes x y vs s, Both fs us r yes x y vs s ∧ (yes = false ∧ x = z33 ∧ y = z33 ∨ x = y ∧ x ∈ us) ∧ Sorted vs ∧ s.Perm vs ∧ vs.length ≤ us.length ∧ ∀ z ∈ vs, z ∈ us := by
 obtain ⟨nf, hnf⟩ : ∃ nf : S33 → Bool, nf = fun x => !(fs.any fun y => le y x.f1) := ⟨_, rfl⟩
 obtain ⟨ah, hah0⟩ : ∃ ah : Nat → Bool, ∀ j x, r[j]? = some x → ah j = fs.any fun y => le y x.f1 := ⟨fun j => (r[j]?).elim false fun a : S33 => fs.any fun y => le y a.f1, fun j x hx => by simp only [hx]; rfl⟩
 have hah : ∀ j x, r[j]? = some x → ah j = !(nf x) := by
  intro j x hx
  rw [hah0 j x hx, hnf]
  simp
 have hRA : ∀ j x, r[j]? = some x → RAhead fs x (ah j) := by
  intro j x hx
  rw [hah0 j x hx]
  exact rahead_f fs x hfs
 have hRO : ∀ i j x y, r[i]? = some x → r[j]? = some y → ROrd x y (oR r i j) := by
  intro i j x y hx hy
  rw [oR_eq hx hy]
  exact ⟨70, rorder_f x y (hr x (hp.mem_iff.1 (List.mem_of_getElem? hx))) (Nat.le_refl _)⟩
 have hb := bst_best (r := r) hah r.length (Nat.le_refl _)
 rcases hq : bst ah (oR r) r.length with _ | q
 · have h1 := hb.1 hq
   refine ⟨false, z33, z33, us, r, ⟨_, _, hRA, hRO, .inl ⟨rfl, rfl, rfl, rfl, rfl, ?_, hq⟩⟩, .inl ⟨rfl, rfl, rfl⟩, hs, hp, Nat.le_refl _, fun z hz => hz⟩
   rw [List.findIdx?_eq_none_iff]
   intro x hx
   obtain ⟨j, hj⟩ := List.mem_iff_getElem?.1 (hp.mem_iff.2 hx)
   have := h1 j x (List.getElem?_eq_some_iff.1 hj).1 hj
   rw [hnf] at this
   exact this
 · obtain ⟨y, hy, hfy, hbest⟩ := hb.2 q hq
   have hyu : y ∈ us := hp.mem_iff.1 (List.mem_of_getElem? hy)
   rcases hf : us.findIdx? nf with _ | p
   · have := List.findIdx?_eq_none_iff.1 hf y hyu
     rw [hfy] at this
     cases this
   · obtain ⟨hpl, hnp, hfirst⟩ := List.findIdx?_eq_some_iff_getElem.1 hf
     have hx : us[p]? = some us[p] := List.getElem?_eq_getElem hpl
     have hxy : us[p] = y := by
      obtain ⟨j, hj⟩ := List.mem_iff_getElem?.1 hyu
      obtain ⟨i, hi⟩ := List.mem_iff_getElem?.1 (hp.mem_iff.2 (List.mem_of_getElem? hx))
      have h1 := hbest i us[p] (List.getElem?_eq_some_iff.1 hi).1 hi hnp
      obtain ⟨hjl, hje⟩ := List.getElem?_eq_some_iff.1 hj
      rcases Nat.lt_trichotomy j p with h | h | h
      · have := hfirst j h
        rw [hje, hfy] at this
        exact absurd rfl this
      · subst h; exact hje
      · have h2 := (List.pairwise_iff_getElem.1 hs) p j hpl hjl h
        rw [hje] at h2
        omega
     refine ⟨true, us[p], y, us.eraseIdx p, r.eraseIdx q, ⟨_, _, hRA, hRO, .inr ⟨rfl, p, q, ?_, hx, rfl, hq, hy, rfl⟩⟩, .inr ⟨hxy, List.mem_of_getElem? hx⟩, erase_sorted p hs, ?_, ?_, fun z hz => (List.eraseIdx_sublist us p).subset hz⟩
     · rw [hnf] at hf; exact hf
     · have h1 := (cut_perm hy).trans (hp.trans (cut_perm hx).symm)
       rw [hxy] at h1
       exact h1.cons_inv
     · rw [List.length_eraseIdx]; split <;> omega
end Go.Proofs.Ytednmkmhileikaa.G
namespace Go.Proofs.Ytednmkmhileikaa.G
open Go.RowKit Go.Proofs.YtednmkmhileikaaW.PrintWords Go.Proofs.YtednmkmhileikaaW.PrintLast Go.Proofs.YtednmkmhileikaaW.PrintMore Go.Proofs.Ytednmkmhileikaa.PHoldPlays
set_option linter.unusedVariables false
set_option linter.unusedSimpArgs false
attribute [local irreducible] IntKind.wrap Go.bits shr shl maxLen
theorem add_skip (r : List S33) (u : S33) (hr : ∀ x ∈ r, x.f0.length ≤ 30) (hn : r.length ≤ 1000) (k : Nat) (hk : 70 ≤ k) (b : Bool) : ∀ (d i : Nat) (acc : List S33), i + d ≤ r.length → acc.length ≤ i → (∀ j x, i ≤ j → j < i + d → r[j]? = some x → ucmp x u ≠ 0) →
  runnelref21_Add.l0 (k + d) r acc b (i : Int) u.f0 u.f1.f0 u.f1.f1 u.f2 = runnelref21_Add.l0 k r (acc ++ (r.drop i).take d) b ((i + d : Nat) : Int) u.f0 u.f1.f0 u.f1.f1 u.f2
 | 0, i, acc, _, _, _ => by simp
 | d + 1, i, acc, hi, ha, hne => by
  have hi' : i < r.length := by omega
  have h0 := hne i r[i] (Nat.le_refl _) (by omega) (List.getElem?_eq_getElem hi')
  have hx := hr r[i] (List.getElem_mem hi')
  have ih := add_skip r u hr hn k hk b d (i + 1) (acc ++ [r[i]]) (by omega) (by simp; omega) (fun j x h1 h2 => hne j x (by omega) (by omega))
  rw [show k + (d + 1) = (k + d) + 1 from rfl]
  conv => lhs; unfold runnelref21_Add.l0
  rw [if_pos (by omega), if_pos (by omega), rd33 r i hi', rorder_f r[i] u hx (by omega)]
  simp only [Option.bind_some]
  rw [if_neg h0, if_pos (by omega), wrapk hi' (by omega)]
  refine Eq.trans ih ?_
  rw [List.drop_eq_getElem_cons hi', List.take_succ_cons, List.append_assoc, show i + 1 + d = i + (d + 1) by omega]
  rfl
/-- What the reference's Add gives. -/
theorem radd_none (r : List S33) (u : S33) (hr : ∀ x ∈ r, x.f0.length ≤ 30) (hn : r.length ≤ 1000) (hne : ∀ x ∈ r, ucmp x u ≠ 0) : runnelref21_Add.f (71 + r.length) r u.f0 u.f1.f0 u.f1.f1 u.f2 = some (if u.f2 = 0 then r else r ++ [u], 0) := by
 unfold runnelref21_Add.f
 have h := add_skip r u hr hn 71 (by omega) false r.length 0 [] (by omega) (Nat.le_refl _) (fun j x _ _ hx => hne x (List.mem_of_getElem? hx))
 refine h.trans ?_
 simp only [List.drop_zero, List.take_length, List.nil_append, Nat.zero_add]
 conv => lhs; unfold runnelref21_Add.l0
 rw [if_neg (by omega), if_neg (by simp)]
 split
 · rfl
 · rw [if_pos (by omega)]
theorem radd_some (r : List S33) (u : S33) (hr : ∀ x ∈ r, x.f0.length ≤ 30) (hn : r.length ≤ 1000) (q : Nat) (x : S33) (hq : r[q]? = some x) (h0 : ucmp x u = 0) (hD : r.Pairwise fun a b => ucmp a b ≠ 0) (hx2 : I64 x.f2) (hu2 : I64 u.f2) :
  runnelref21_Add.f (75 + (r.length - q) + q) r u.f0 u.f1.f0 u.f1.f1 u.f2 = some (if (wsum x.f2 u.f2).2 ≠ 0 then (r, 60) else if (wsum x.f2 u.f2).1 = 0 then (r.eraseIdx q, 0) else (r.set q ⟨x.f0, x.f1, (wsum x.f2 u.f2).1⟩, 0)) := by
 obtain ⟨hql, hqe⟩ := List.getElem?_eq_some_iff.1 hq
 have hne : ∀ j y, j ≠ q → r[j]? = some y → ucmp y u ≠ 0 := fun j y hj hy h => by
  have h1 := pair_get hD hy hq hj
  exact h1 ((ucmp_ok.zero_left h x).trans (by have := ucmp_ok.anti x u; omega))
 have h1 := add_skip r u hr hn (75 + (r.length - q)) (by omega) false q 0 [] (by omega) (Nat.le_refl _) (fun j y _ hj hy => hne j y (by omega) hy)
 unfold runnelref21_Add.f
 refine h1.trans ?_
 simp only [List.drop_zero, List.nil_append, Nat.zero_add]
 rw [show 75 + (r.length - q) = (74 + (r.length - q)) + 1 by omega]
 conv => lhs; unfold runnelref21_Add.l0
 rw [if_pos (by omega), if_pos (by omega), rd33 r q hql, hqe, rorder_f x u (hr x (List.mem_of_getElem? hq)) (by omega)]
 simp only [Option.bind_some]
 rw [if_pos h0, radd_f _ _ hx2 hu2]
 simp only [Option.bind_some]
 have htl : ∀ acc : List S33, acc.length ≤ q + 1 → runnelref21_Add.l0 (74 + (r.length - q)) r acc true ((q + 1 : Nat) : Int) u.f0 u.f1.f0 u.f1.f1 u.f2 = some (acc ++ r.drop (q + 1), 0) := by
  intro acc ha
  have h2 := add_skip r u hr hn 75 (by omega) true (r.length - (q + 1)) (q + 1) acc (by omega) ha (fun j y hj _ hy => hne j y (by omega) hy)
  rw [show 74 + (r.length - q) = 75 + (r.length - (q + 1)) by omega, h2]
  conv => lhs; unfold runnelref21_Add.l0
  rw [if_neg (by omega), if_pos rfl, List.take_of_length_le (by simp)]
 by_cases he : (wsum x.f2 u.f2).2 = 0
 · rw [if_pos he, if_neg (show ¬ (wsum x.f2 u.f2).2 ≠ 0 from fun h => h he)]
   by_cases hs : (wsum x.f2 u.f2).1 = 0
   · rw [if_pos hs, if_pos hs, wrapk hql (by omega), htl _ (by simp; omega), List.eraseIdx_eq_take_drop_succ]
   · rw [if_neg hs, if_neg hs, if_pos (by simp; omega), wrapk hql (by omega), htl _ (by simp; omega), List.set_eq_take_append_cons_drop, if_pos hql]
     simp
 · rw [if_neg he, if_pos he]
theorem pos_of {us : List S33} {u x : S33} (hs : Sorted us) {j : Nat} (hx : us[j]? = some x) (h0 : ucmp x u = 0) : pos us u = j := by
 rcases Nat.lt_trichotomy (pos us u) j with h | h | h
 · obtain ⟨hj, rfl⟩ := List.getElem?_eq_some_iff.1 hx
   have h1 := pos_ge us u (pos us u) us[pos us u] hs (Nat.le_refl _) (List.getElem?_eq_getElem (by omega))
   have h2 := (List.pairwise_iff_getElem.1 hs) (pos us u) j (by omega) hj h
   have h3 := ucmp_ok.zero_left h0 us[pos us u]
   have h4 := ucmp_ok.anti us[j] us[pos us u]
   have h5 := ucmp_ok.anti u us[pos us u]
   omega
 · exact h
 · have := pos_lt us u j x h hx
   omega
/-- Add on both sides: what is held stays what the list holds. -/
theorem both_add {us r : List S33} (u : S33) (hs : Sorted us) (hp : r.Perm us) (hn : us.length ≤ 1000) (hr : ∀ x ∈ us, x.f0.length ≤ 30 ∧ I64 x.f2) (hu : u.f0.length ≤ 30) (hu2 : I64 u.f2) :
  ∃ n s, runnelref21_Add.f n r u.f0 u.f1.f0 u.f1.f1 u.f2 = some (s, (addS us u).2) ∧ s.Perm (addS us u).1 ∧ ∀ x ∈ (addS us u).1, x.f0.length ≤ 30 ∧ I64 x.f2 := by
 have hrr : ∀ x ∈ r, x.f0.length ≤ 30 := fun x hx => (hr x (hp.mem_iff.1 hx)).1
 have hrn : r.length ≤ 1000 := by rw [hp.length_eq]; exact hn
 have hD := perm_ne hs hp
 by_cases hex : ∃ x ∈ us, ucmp x u = 0
 · obtain ⟨x, hx, h0⟩ := hex
   obtain ⟨j, hj⟩ := List.mem_iff_getElem?.1 hx
   obtain ⟨q, hq⟩ := List.mem_iff_getElem?.1 (hp.mem_iff.2 hx)
   have hx2 := (hr x hx).2
   have hpos := pos_of hs hj h0
   have hA : addS us u = (if (wsum x.f2 u.f2).2 ≠ 0 then us else if (wsum x.f2 u.f2).1 = 0 then us.eraseIdx j else us.set j ⟨x.f0, x.f1, (wsum x.f2 u.f2).1⟩, (wsum x.f2 u.f2).2) := by
    unfold addS
    rw [hpos, hj]
    simp only []
    rw [if_pos h0, wsum_f _ _ hx2 hu2]
   have hcut : (r.eraseIdx q).Perm (us.eraseIdx j) := ((cut_perm hq).trans (hp.trans (cut_perm hj).symm)).cons_inv
   have hsub : ∀ z ∈ us.eraseIdx j, z ∈ us := fun z hz => (List.eraseIdx_sublist us j).subset hz
   rw [hA]
   refine ⟨_, if (wsum x.f2 u.f2).2 ≠ 0 then r else if (wsum x.f2 u.f2).1 = 0 then r.eraseIdx q else r.set q ⟨x.f0, x.f1, (wsum x.f2 u.f2).1⟩, (radd_some r u hrr hrn q x hq h0 hD hx2 hu2).trans ?_, ?_, ?_⟩
   · have h60 : (wsum x.f2 u.f2).2 ≠ 0 → (wsum x.f2 u.f2).2 = 60 := by unfold wsum; split <;> simp
     by_cases he : (wsum x.f2 u.f2).2 = 0
     · simp only [he, ne_eq, not_true_eq_false, if_false]
       split <;> rfl
     · simp only [h60 he]; rfl
   · by_cases he : (wsum x.f2 u.f2).2 = 0
     · simp only [he, ne_eq, not_true_eq_false, if_false]
       split
       · exact hcut
       · exact (set_perm hq).trans ((List.Perm.cons _ hcut).trans (set_perm hj).symm)
     · simp only [if_pos he]
       exact hp
   · intro z hz
     simp only [] at hz
     split at hz
     · exact hr z hz
     · split at hz
       · exact hr z (hsub z hz)
       · rcases List.mem_or_eq_of_mem_set hz with h | h
         · exact hr z h
         · rw [h]; exact ⟨(hr x hx).1, wsum_in⟩
 · have hne : ∀ x ∈ us, ucmp x u ≠ 0 := fun x hx h => hex ⟨x, hx, h⟩
   have hA : addS us u = (if u.f2 = 0 then us else ins (pos us u) u us, 0) := by
    unfold addS
    rcases hx : us[pos us u]? with _ | x
    · rfl
    · simp only []
      rw [if_neg (hne x (List.mem_of_getElem? hx))]
   rw [hA]
   refine ⟨_, _, radd_none r u hrr hrn (fun x hx => hne x (hp.mem_iff.1 hx)), ?_, ?_⟩
   · simp only []
     split
     · exact hp
     · refine (List.perm_append_comm (l₁ := r) (l₂ := [u])).trans ?_
       exact (List.Perm.cons u hp).trans (ins_perm _ u us).symm
   · intro z hz
     simp only [] at hz
     split at hz
     · exact hr z hz
     · rcases List.mem_cons.1 ((ins_perm _ u us).mem_iff.1 hz) with h | h
       · rw [h]; exact ⟨hu, hu2⟩
       · exact hr z h
end Go.Proofs.Ytednmkmhileikaa.G
namespace Go.Proofs.Ytednmkmhileikaa.G
open Go.RowKit Go.Proofs.YtednmkmhileikaaW.PrintWords Go.Proofs.YtednmkmhileikaaW.PrintLast Go.Proofs.YtednmkmhileikaaW.PrintMore Go.Proofs.Ytednmkmhileikaa.PHoldPlays
set_option linter.unusedVariables false
set_option linter.unusedSimpArgs false
attribute [local irreducible] IntKind.wrap Go.bits shr shl maxLen
theorem pos_at {l : List S33} {u : S33} {j : Nat} {x : S33} (hx : l[j]? = some x) (hj : j ≤ pos l u) : ucmp x u < 0 ↔ j < pos l u := by
 induction l generalizing j with
 | nil => simp at hx
 | cons y l ih =>
  simp only [pos] at hj ⊢
  cases j with
  | zero =>
   injection hx with hx
   subst hx
   split
   · rename_i h; exact ⟨fun _ => by omega, fun _ => h⟩
   · rename_i h; exact ⟨fun k => absurd k h, fun k => by omega⟩
  | succ j =>
   by_cases h : ucmp y u < 0
   · rw [if_pos h] at hj ⊢
     have := ih (j := j) hx (by omega)
     rw [this]; omega
   · rw [if_neg h] at hj; omega
theorem sort1_ev (r acc : List S33) (i : Nat) (hi : i < r.length) (hn : r.length ≤ 1000) (ha : acc.length ≤ 1000) (hm : ∀ x ∈ acc, x.f0.length ≤ 30) {R : List S33} (H : Ev (fun k => runnelref21_Sorted.l0 k r (ins (pos acc r[i]) r[i] acc) ((i + 1 : Nat) : Int)) R) (d : Nat) : ∀ j, j + d = acc.length → j ≤ pos acc r[i] → Ev (fun k => runnelref21_Sorted.l1 k r acc (i : Int) (j : Int)) R := by
 obtain ⟨K, HK⟩ := H
 have hput : ∀ j, j ≤ acc.length → ∀ k, K ≤ k → j = pos acc r[i] →
   ((some (([] : List (S33)) : List (S33))).bind fun y256 => (if (j : Int) ≤ (acc.length : Int) then ((some (acc.take (j : Int).toNat : List (S33))).bind fun y259 => (if y256.length + y259.length < 2932031007402 then ((some (y256 ++ y259 : List (S33))).bind fun y264 => (if y264.length < 2932031007402 then ((some (y264 ++ [(⟨r[i].f0, (⟨r[i].f1.f0, r[i].f1.f1⟩ : S24), r[i].f2⟩ : S33)] : List (S33))).bind fun y268 => ((some (acc.drop (j : Int).toNat : List (S33))).bind fun y271 => (if y268.length + y271.length < 2932031007402 then (runnelref21_Sorted.l0 k r (y268 ++ y271) (wrap64 ((i : Int) + 1))) else (none)))) else (none))) else (none))) else (none))) = some R := by
  intro j hj k hk hp
  simp only [Option.bind_some, List.nil_append, List.length_nil, Int.toNat_natCast]
  have hl : (acc.take j).length ≤ 1000 := by rw [List.length_take]; omega
  have hd : (acc.drop j).length ≤ 1000 := by rw [List.length_drop]; omega
  rw [if_pos (by omega), if_pos (by omega), if_pos (by omega), if_pos (by rw [List.length_append]; simp only [List.length_singleton]; omega), wrapk hi (by omega)]
  have := HK k hk
  rw [← hp] at this
  exact this
 induction d with
 | zero =>
  intro j hj hp
  have hpl := pos_le acc r[i]
  refine ⟨K + 1, fun k hk => ?_⟩
  obtain ⟨k, rfl⟩ : ∃ n, k = n + 1 := ⟨k - 1, by omega⟩
  simp only [runnelref21_Sorted.l1]
  have hl : (acc.take j).length ≤ 1000 := by rw [List.length_take]; omega
  have hd : (acc.drop j).length ≤ 1000 := by rw [List.length_drop]; omega
  rw [if_neg (by omega)]
  simp only [Option.bind_some, List.nil_append, List.length_nil, Int.toNat_natCast]
  rw [if_pos (show (0 : Int) ≤ (j : Int) by omega), if_pos (by omega), if_pos (by omega), if_pos (show (0 : Int) ≤ (i : Int) by omega), if_pos (show (i : Int) < (r.length : Int) by omega), if_pos (by omega), rd33 r i hi, if_pos (by rw [List.length_append]; simp only [List.length_singleton]; omega), wrapk hi (by omega)]
  have := HK k (by omega)
  rw [← (show j = pos acc r[i] by omega)] at this
  exact this
 | succ d ih =>
  intro j hj hp
  have hjl : j < acc.length := by omega
  have hx : acc[j]? = some acc[j] := List.getElem?_eq_getElem hjl
  have hpa := pos_at (u := r[i]) hx hp
  have ho : ∀ k, 70 ≤ k → runnelref21_order.f k acc[j].f0 acc[j].f1.f0 acc[j].f1.f1 acc[j].f2 r[i].f0 r[i].f1.f0 r[i].f1.f1 r[i].f2 = some (ucmp acc[j] r[i]) := fun k hk => rorder_f _ _ (hm _ (List.getElem_mem hjl)) hk
  by_cases hlt : ucmp acc[j] r[i] < 0
  · obtain ⟨K2, h2⟩ := ih (j + 1) (by omega) (by have := hpa.1 hlt; omega)
    refine ⟨max K2 70 + 1, fun k hk => ?_⟩
    obtain ⟨k, rfl⟩ : ∃ n, k = n + 1 := ⟨k - 1, by omega⟩
    have hk2 : K2 ≤ k := by have := Nat.le_max_left K2 70; omega
    have hk3 : 70 ≤ k := by have := Nat.le_max_right K2 70; omega
    simp only [runnelref21_Sorted.l1]
    rw [if_pos (by omega), if_pos (by omega), if_pos (by omega), if_pos (by omega), rd33 r i hi, rd33 acc j hjl, ho k hk3]
    simp only [Option.bind_some]
    rw [if_pos hlt, wrapk hjl (by omega)]
    exact h2 k hk2
  · refine ⟨max K 70 + 1, fun k hk => ?_⟩
    obtain ⟨k, rfl⟩ : ∃ n, k = n + 1 := ⟨k - 1, by omega⟩
    have hk2 : K ≤ k := by have := Nat.le_max_left K 70; omega
    have hk3 : 70 ≤ k := by have := Nat.le_max_right K 70; omega
    have h := hput j (by omega) k hk2 (by have : ¬ j < pos acc r[i] := fun h => hlt (hpa.2 h); omega)
    simp only [runnelref21_Sorted.l1]
    rw [if_pos (by omega), if_pos (by omega), if_pos (by omega), if_pos (by omega), rd33 r i hi, rd33 acc j hjl, ho k hk3]
    simp only [Option.bind_some] at h ⊢
    rw [if_neg hlt]
    exact h
theorem sort0_ev (r : List S33) (hn : r.length ≤ 1000) (hm : ∀ x ∈ r, x.f0.length ≤ 30) (hD : r.Pairwise fun a b => ucmp a b ≠ 0) (d : Nat) : ∀ (i : Nat) (acc : List S33), i + d = r.length → Sorted acc → acc.Perm (r.take i) → ∃ s, Sorted s ∧ s.Perm r ∧ Ev (fun k => runnelref21_Sorted.l0 k r acc (i : Int)) s := by
 induction d with
 | zero =>
  intro i acc hi hs hp
  rw [List.take_of_length_le (by omega)] at hp
  refine ⟨acc, hs, hp, 1, fun k hk => ?_⟩
  obtain ⟨k, rfl⟩ : ∃ n, k = n + 1 := ⟨k - 1, by omega⟩
  simp only [runnelref21_Sorted.l0]
  rw [if_neg (by omega)]
 | succ d ih =>
  intro i acc hi hs hp
  have hi' : i < r.length := by omega
  have hal : acc.length = i := by rw [hp.length_eq, List.length_take]; omega
  have e : r.take (i + 1) = r.take i ++ [r[i]] := List.take_succ_eq_append_getElem hi'
  have hs2 : Sorted (ins (pos acc r[i]) r[i] acc) := ins_sorted hs (fun x hx => by
   obtain ⟨j, hj⟩ := List.mem_iff_getElem?.1 (hp.mem_iff.1 (List.mem_of_getElem? hx))
   have hjl := (List.getElem?_eq_some_iff.1 hj).1
   rw [List.length_take] at hjl
   rw [List.getElem?_take_of_lt (by omega)] at hj
   exact pair_get hD hj (List.getElem?_eq_getElem hi') (by omega))
  have hp2 : (ins (pos acc r[i]) r[i] acc).Perm (r.take (i + 1)) := by
   rw [e]
   exact (ins_perm _ _ _).trans ((List.Perm.cons _ hp).trans (List.perm_append_comm (l₁ := [r[i]]) (l₂ := r.take i)))
  obtain ⟨s, h1, h2, h3⟩ := ih (i + 1) _ (by omega) hs2 hp2
  refine ⟨s, h1, h2, ?_⟩
  obtain ⟨K, hK⟩ := sort1_ev r acc i hi' hn (by omega) (fun x hx => hm x (List.mem_of_mem_take (hp.mem_iff.1 hx))) h3 acc.length 0 (by omega) (Nat.zero_le _)
  refine ⟨K + 1, fun k hk => ?_⟩
  obtain ⟨k, rfl⟩ : ∃ n, k = n + 1 := ⟨k - 1, by omega⟩
  simp only [runnelref21_Sorted.l0]
  rw [if_pos (by omega)]
  exact hK k (by omega)
theorem sorted_f {us r : List S33} (hs : Sorted us) (hp : r.Perm us) (hn : us.length ≤ 1000) (hm : ∀ x ∈ us, x.f0.length ≤ 30) : ∃ n, runnelref21_Sorted.f n r = some us := by
 have hD := perm_ne hs hp
 obtain ⟨s, h1, h2, K, h3⟩ := sort0_ev r (by rw [hp.length_eq]; exact hn) (fun x hx => hm x (hp.mem_iff.1 hx)) hD r.length 0 [] (by omega) List.Pairwise.nil (by simp)
 have : s = us := List.Perm.eq_of_pairwise (le := fun a b => ucmp a b < 0) (fun a b _ _ hab hba => by have := ucmp_ok.anti a b; omega) h1 hs (h2.trans hp)
 exact ⟨K, by rw [← this]; exact h3 K (Nat.le_refl _)⟩
theorem same_l0 (us : List S33) (hn : us.length ≤ 1000) (hm : ∀ x ∈ us, x.f0.length ≤ 30) (d : Nat) : ∀ k i, i + d = us.length → 70 + d < k → runnelref07_Same.l0 k us us (i : Int) = some true := by
 induction d with
 | zero =>
  intro k i hi hk
  obtain ⟨k, rfl⟩ : ∃ n, k = n + 1 := ⟨k - 1, by omega⟩
  simp only [runnelref07_Same.l0]
  rw [if_neg (by omega)]
 | succ d ih =>
  intro k i hi hk
  obtain ⟨k, rfl⟩ : ∃ n, k = n + 1 := ⟨k - 1, by omega⟩
  have hi' : i < us.length := by omega
  have hx := hm us[i] (List.getElem_mem hi')
  have ho : runnelref07_Order.f k us[i].f0 us[i].f1.f0 us[i].f1.f1 us[i].f2 us[i].f0 us[i].f1.f0 us[i].f1.f1 us[i].f2 = some 0 := by
   unfold runnelref07_Order.f
   rw [B2HoldPlays.ROrder_f _ _ (Nat.le_trans hx ml30) (by omega), RowPure.ord_ok.refl]
   simp [runnelref04_Order.f]
  simp only [runnelref07_Same.l0]
  rw [if_pos (by omega), if_pos (by omega), if_pos (by omega), rd33 us i hi', ho]
  simp only [Option.bind_some, if_true]
  rw [wrapk hi' (by omega)]
  exact ih k (i + 1) (by omega) (by omega)
theorem same_f (us : List S33) (hn : us.length ≤ 1000) (hm : ∀ x ∈ us, x.f0.length ≤ 30) : runnelref07_Same.f (us.length + 71) us us = some true := by
 unfold runnelref07_Same.f
 rw [if_pos rfl]
 exact same_l0 us hn hm us.length _ 0 (by omega) (by omega)
theorem lower_ev (us : List S33) (hl : us.length ≤ 6000) (d : Nat) : ∀ (i : Nat) (acc : List S24), i + d = us.length → acc = (us.take i).map (·.f1) → Ev (fun k => runnelref07_Lower.l0 k us acc (i : Int)) (BHoldPlays.lst (us.map (·.f1))) := by
 induction d with
 | zero =>
  intro i acc hi ha
  have h1 : acc = us.map (·.f1) := by rw [ha, List.take_of_length_le (by omega)]
  rw [h1]
  refine Ev.step (f := fun k => (runnelref05_New.f k (us.map (·.f1))).bind fun t => some t) (fun k => ?_) ?_
  · simp only [runnelref07_Lower.l0]
    rw [if_neg (by omega)]
  · exact Ev.bind (f := fun _ t => some t) (BHoldPlays.RNew_ev _ (by simp; omega)) (Ev.now _)
 | succ d ih =>
  intro i acc hi ha
  have hi' : i < us.length := by omega
  have hal : acc.length = i := by rw [ha]; simp; omega
  refine Ev.step (f := fun k => runnelref07_Lower.l0 k us (acc ++ [us[i].f1]) ((i + 1 : Nat) : Int)) (fun k => ?_) (ih (i + 1) _ (by omega) ?_)
  · simp only [runnelref07_Lower.l0]
    rw [if_pos (by omega), if_pos (by omega), if_pos (by omega), rd33 us i hi', wrapk hi' (by omega)]
  · have e : us.take (i + 1) = us.take i ++ [us[i]] := List.take_succ_eq_append_getElem hi'
    rw [ha, e, List.map_append]
    rfl
theorem lst_perm {l m : List S24} (h : l.Perm m) : BHoldPlays.lst l = BHoldPlays.lst m := BHoldPlays.lst_unique (BHoldPlays.anti_lx (BHoldPlays.lst_anti m)) (fun t => BHoldPlays.lst_iff.trans ⟨fun k => ⟨h.mem_iff.2 k.1, fun y hy => k.2 y (h.mem_iff.1 hy)⟩, fun k => ⟨h.mem_iff.1 k.1, fun y hy => k.2 y (h.mem_iff.2 hy)⟩⟩)
theorem lower_f {us r : List S33} (hp : r.Perm us) (hn : us.length ≤ 1000) : ∃ rs o lo z, NewAt (us.map (·.f1)) rs ∧ runnelref07_Lower.f o r = some lo ∧ runnelref04_Same.f z rs lo = some true := by
 have hrl : r.length ≤ 1000 := by rw [hp.length_eq]; exact hn
 have h1 : Ev (fun k => runnelref07_Lower.f k r) (BHoldPlays.lst (r.map (·.f1))) := lower_ev r (by omega) r.length 0 [] (by omega) rfl
 rw [lst_perm (hp.map _)] at h1
 have h2 := BHoldPlays.New_ev (us.map (·.f1)) (by simp; omega)
 have hll := BHoldPlays.lst_len (us.map (·.f1))
 have h3 := BHoldPlays.RSame_refl (BHoldPlays.lst (us.map (·.f1))) (by simp at hll; omega)
 obtain ⟨k1, h1⟩ := h1
 obtain ⟨k2, h2⟩ := h2
 obtain ⟨k3, h3⟩ := h3
 refine ⟨BHoldPlays.lst (us.map (·.f1)), k1, _, k3, ?_, h1 _ (Nat.le_refl _), h3 _ (Nat.le_refl _)⟩
 intro w A c hC hc
 refine (front_New.calls k2 A c _ _ w hC hc (h2 k2 (Nat.le_refl _))).mono ?_
 rintro e w' ⟨v, rfl, hR, hB⟩
 exact ⟨v, rfl, hR, hB⟩
end Go.Proofs.Ytednmkmhileikaa.G
namespace Go.Proofs.Ytednmkmhileikaa.G
open Go.RowKit Go.Proofs.YtednmkmhileikaaW.PrintWords Go.Proofs.YtednmkmhileikaaW.PrintLast Go.Proofs.YtednmkmhileikaaW.PrintMore Go.Proofs.Ytednmkmhileikaa.PHoldPlays
set_option linter.unusedVariables false
set_option linter.unusedSimpArgs false
attribute [local irreducible] IntKind.wrap Go.bits shr shl maxLen
theorem rd36 (l : List S36) (i : Nat) (h : i < l.length) : rd_T36 l (i : Int) = l[i] := by unfold rd_T36; rw [Int.toNat_natCast, List.getD_eq_getElem?_getD, List.getElem?_eq_getElem h]; rfl
theorem much21_l0 (l : List S36) (hl : l.length ≤ 100) (hm : ∀ a ∈ l, a.f1.f0.length ≤ maxLen) (n : Nat) (hn : ∀ a ∈ l, a.f1.f0.length ≤ n) (d : Nat) : ∀ (k i : Nat), i + d = l.length → d + n + 200 < k → ∃ b, runnellaw21_Much.l0 k l (i : Int) = some b ∧ (b = false → ∀ a ∈ l.drop i, a.f1.f0.length ≤ 30 ∧ a.f2.length ≤ 30) := by
 induction d with
 | zero =>
  intro k i hi hk
  obtain ⟨k, rfl⟩ : ∃ n, k = n + 1 := ⟨k - 1, by omega⟩
  simp only [runnellaw21_Much.l0]
  rw [if_neg (by omega)]
  exact ⟨false, rfl, fun _ => by rw [List.drop_of_length_le (by omega)]; simp⟩
 | succ d ih =>
  intro k i hi hk
  obtain ⟨k, rfl⟩ : ∃ n, k = n + 1 := ⟨k - 1, by omega⟩
  have hi' : i < l.length := by omega
  have hmi := hm l[i] (List.getElem_mem hi')
  have hni := hn l[i] (List.getElem_mem hi')
  simp only [runnellaw21_Much.l0]
  rw [if_pos (by omega), if_pos (by omega), rd36 l i hi']
  obtain ⟨b, hb, hf⟩ := much7 [l[i].f1] (fun u hu => by rw [List.mem_singleton.1 hu]; exact hmi) n (fun u hu => by rw [List.mem_singleton.1 hu]; exact hni) k (by omega)
  have hb' : runnelref07_Much.f k [(⟨l[i].f1.f0, (⟨l[i].f1.f1.f0, l[i].f1.f1.f1⟩ : S24), l[i].f1.f2⟩ : S33)] = some b := hb
  rw [hb']
  simp only [Option.bind_some]
  cases b with
  | true => exact ⟨true, rfl, fun e => by cases e⟩
  | false =>
   rw [if_neg (by simp)]
   by_cases h : (l[i].f2.length : Int) > 30
   · rw [if_pos h]; exact ⟨true, rfl, fun e => by cases e⟩
   · rw [if_neg h, wrapk hi' (by omega)]
     obtain ⟨b2, hb2, hf2⟩ := ih k (i + 1) (by omega) (by omega)
     refine ⟨b2, hb2, fun e a ha => ?_⟩
     rw [List.drop_eq_getElem_cons hi'] at ha
     rcases List.mem_cons.1 ha with rfl | ha
     · exact ⟨(hf rfl).2 _ (List.mem_singleton.2 rfl), by omega⟩
     · exact hf2 e a ha
theorem bound_acts : ∀ l : List S36, ∃ n, ∀ a ∈ l, a.f1.f0.length ≤ n := by
 intro l
 induction l with
 | nil => exact ⟨0, fun a ha => by simp at ha⟩
 | cons a l ih =>
  obtain ⟨n, hn⟩ := ih
  refine ⟨max n a.f1.f0.length, fun x hx => ?_⟩
  rcases List.mem_cons.1 hx with rfl | hx
  · exact Nat.le_max_right _ _
  · exact Nat.le_trans (hn x hx) (Nat.le_max_left _ _)
theorem good_plays (l : List S36) (hw : ∀ a ∈ l, a.f1.f0.length ≤ maxLen ∧ I64 a.f1.f2) : ∃ n b, runnellaw21_Much.f n l = some b ∧ (b = false → ∃ St, GoodP l St) := by
 obtain ⟨n, hn⟩ := bound_acts l
 by_cases hbig : (l.length : Int) > 100
 · refine ⟨0, true, ?_, fun e => by cases e⟩
   unfold runnellaw21_Much.f
   rw [if_pos hbig]
 have hl : l.length ≤ 100 := by omega
 obtain ⟨b, hb, hf⟩ := much21_l0 l hl (fun a ha => (hw a ha).1) n hn l.length (l.length + n + 201) 0 (by omega) (by omega)
 refine ⟨l.length + n + 201, b, ?_, fun e => ?_⟩
 · unfold runnellaw21_Much.f
   rw [if_neg hbig]
   exact hb
 have hr : ∀ a ∈ l, a.f1.f0.length ≤ 30 ∧ a.f2.length ≤ 30 := by simpa using hf e
 refine ⟨fun k us r => Sorted us ∧ r.Perm us ∧ us.length ≤ k ∧ k ≤ 100 ∧ ∀ x ∈ us, x.f0.length ≤ 30 ∧ I64 x.f2, ?_, ?_, ?_, ?_, ?_, ?_, ?_, hl⟩
 · exact ⟨List.Pairwise.nil, List.Perm.refl _, Nat.le_refl _, by omega, fun x hx => by simp at hx⟩
 · rintro k us r a ⟨hs, hp, hlen, hk, hrow⟩ ha _
   have hkl := (List.getElem?_eq_some_iff.1 ha).1
   obtain ⟨yes, x, y, vs, s, hB, hxy, h1, h2, h3, h4⟩ := both_next hs hp a.f2 (by have := (hr a (List.mem_of_getElem? ha)).2; omega) (fun x hx => (hrow x hx).1)
   refine ⟨yes, x, y, vs, s, hB, ?_, h1, h2, by omega, by omega, fun z hz => hrow z (h4 z hz)⟩
   rcases hxy with ⟨_, rfl, rfl⟩ | ⟨rfl, hx⟩
   · exact same_self z33 (Nat.zero_le _)
   · exact same_self x (Nat.le_trans (hrow x hx).1 ml30)
 · rintro k us r a ⟨hs, hp, hlen, hk, hrow⟩ ha _
   have hkl := (List.getElem?_eq_some_iff.1 ha).1
   have ham := List.mem_of_getElem? ha
   obtain ⟨m, s, h1, h2, h3⟩ := both_add a.f1 hs hp (by omega) hrow (hr a ham).1 (hw a ham).2
   exact ⟨_, _, m, s, addS_adds hs (fun x hx => Nat.le_trans (hrow x hx).1 ml30), h1, addS_sorted hs, h2, Nat.le_trans (addS_len us a.f1) (by omega), by omega, h3⟩
 · rintro k us r ⟨hs, hp, hlen, hk, hrow⟩
   obtain ⟨m, h1⟩ := sorted_f hs hp (by omega) (fun x hx => (hrow x hx).1)
   obtain ⟨rs, o, lo, z, h2, h3, h4⟩ := lower_f hp (by omega)
   exact ⟨m, us, _, rs, o, lo, z, h1, same_f us (by omega) (fun x hx => (hrow x hx).1), h2, h3, h4⟩
 · rintro k us r ⟨hs, hp, hlen, hk, hrow⟩
   exact ⟨hlen, hp.length_eq⟩
 · rintro k us r ⟨hs, hp, hlen, hk, hrow⟩ x hx
   have := (hrow x hx).1
   omega
 · intro a ha
   have := hr a ha
   omega
end Go.Proofs.Ytednmkmhileikaa.G
