/- Holds: the plain facts that the walks ask for. -/
import Derived.Test.YtednmkmhileikaaB2HoldPlays
import Derived.Test.YtednmkmhileikaaG12
namespace Go.Proofs.Ytednmkmhileikaa.G
open Go.RowKit Go.Proofs.YtednmkmhileikaaW.PrintWords Go.Proofs.YtednmkmhileikaaW.PrintLast Go.Proofs.YtednmkmhileikaaW.PrintMore Go.Proofs.Ytednmkmhileikaa.PHoldPlays
set_option linter.unusedVariables false
set_option linter.unusedSimpArgs false
attribute [local irreducible] IntKind.wrap Go.bits shr shl maxLen
/-- Two orders, one behind the other. -/
def thenC {α : Type} (c d : α → α → Int) (a b : α) : Int := if c a b = 0 then d a b else c a b
theorem thenC_ok {α : Type} {c d : α → α → Int} (hc : RowPure.Ok c) (hd : RowPure.Ok d) : RowPure.Ok (thenC c d) where
 rng a b := by unfold thenC; split; exact hd.rng _ _; exact hc.rng _ _
 anti a b := by
  have h := hc.anti a b
  unfold thenC
  by_cases h0 : c a b = 0
  · rw [if_pos h0, if_pos (by omega), hd.anti a b]
  · rw [if_neg h0, if_neg (by omega), h]
 trans a b e := by
  unfold thenC
  intro h1 h2
  by_cases h3 : c a b = 0
  · rw [if_pos h3] at h1
    have h4 := hc.zero_left h3 e
    by_cases h5 : c b e = 0
    · rw [if_pos h5] at h2
      rw [if_pos (by omega)]
      exact hd.trans a b e h1 h2
    · rw [if_neg h5] at h2
      rw [if_neg (by omega)]
      omega
  · rw [if_neg h3] at h1
    have h6 : c a e < 0 := by
     refine hc.lt_trans (b := b) (by omega) ?_
     by_cases h5 : c b e = 0
     · omega
     · rw [if_neg h5] at h2; exact h2
    rw [if_neg (by omega)]
    omega
/-- The order of times; of changes. -/
def mcmp (a b : S33) : Int := thenC (fun x y : S33 => RowPure.cmpI x.f1.f0 y.f1.f0) (fun x y : S33 => RowPure.cmpI x.f1.f1 y.f1.f1) a b
def rcmp (a b : S33) : Int := RowPure.ord (B2HoldPlays.vs a.f0) (B2HoldPlays.vs b.f0)
def ucmp (a b : S33) : Int := thenC mcmp rcmp a b
theorem mcmp_ok : RowPure.Ok mcmp := thenC_ok ⟨fun _ _ => RowPure.cmpI_ok.rng _ _, fun _ _ => RowPure.cmpI_ok.anti _ _, fun _ _ _ => RowPure.cmpI_ok.trans _ _ _⟩ ⟨fun _ _ => RowPure.cmpI_ok.rng _ _, fun _ _ => RowPure.cmpI_ok.anti _ _, fun _ _ _ => RowPure.cmpI_ok.trans _ _ _⟩
theorem rcmp_ok : RowPure.Ok rcmp := ⟨fun _ _ => RowPure.ord_ok.rng _ _, fun _ _ => RowPure.ord_ok.anti _ _, fun _ _ _ => RowPure.ord_ok.trans _ _ _⟩
theorem ucmp_ok : RowPure.Ok ucmp := thenC_ok mcmp_ok rcmp_ok
theorem cmpI_ne {a b : Int} (h : ¬ a = b) : RowPure.cmpI a b ≠ 0 := fun e => h (RowPure.cmpI_zero.1 e)
theorem mOrder_f (a b : S33) : moment_Order.f a.f1.f0 a.f1.f1 b.f1.f0 b.f1.f1 = some (mcmp a b) := by
 unfold moment_Order.f moment_place_against.f mcmp thenC
 by_cases h : a.f1.f0 = b.f1.f0
 · rw [if_pos h, B2HoldPlays.cmpInt_f, if_pos (RowPure.cmpI_zero.2 h)]; rfl
 · rw [if_neg h, B2HoldPlays.cmpInt_f, if_neg (cmpI_ne h)]; rfl
theorem Ord_f (x u : S33) (hm : x.f0.length ≤ maxLen) : Ord x u (ucmp x u) := by
 have hmu : u.f0.length ≤ maxLen ∨ True := .inr trivial
 refine ⟨x.f0.length + 1, ?_⟩
 unfold hold_order.f ucmp thenC
 rw [mOrder_f]
 simp only [Option.bind_some]
 split
 · rw [B2HoldPlays.Order_f x.f0 u.f0 hm (by omega)]; rfl
 · rfl
/-- Where a change goes. -/
def pos : List S33 → S33 → Nat
 | [], _ => 0
 | x :: l, u => if ucmp x u < 0 then pos l u + 1 else 0
theorem pos_le : ∀ (l : List S33) (u : S33), pos l u ≤ l.length
 | [], _ => Nat.le_refl _
 | x :: l, u => by
  simp only [pos, List.length_cons]
  split
  · have := pos_le l u; omega
  · omega
theorem pos_lt : ∀ (l : List S33) (u : S33) (j : Nat) (x : S33), j < pos l u → l[j]? = some x → ucmp x u < 0
 | [], _, j, _, h, _ => absurd h (Nat.not_lt_zero _)
 | y :: l, u, j, x, h, hx => by
  simp only [pos] at h
  split at h
  · rename_i hy
    cases j with
    | zero => injection hx with hx; rw [← hx]; exact hy
    | succ j => exact pos_lt l u j x (by omega) hx
  · omega
/-- In order, each once. -/
def Sorted (l : List S33) : Prop := l.Pairwise fun a b => ucmp a b < 0
theorem pos_ge : ∀ (l : List S33) (u : S33) (j : Nat) (x : S33), Sorted l → pos l u ≤ j → l[j]? = some x → 0 ≤ ucmp x u
 | [], _, j, _, _, _, hx => by simp at hx
 | y :: l, u, j, x, hs, h, hx => by
  simp only [pos] at h
  split at h
  · cases j with
    | zero => omega
    | succ j => exact pos_ge l u j x (List.pairwise_cons.1 hs).2 (by omega) hx
  · rename_i hy
    cases j with
    | zero => injection hx with hx; rw [← hx]; omega
    | succ j =>
      have h1 := (List.pairwise_cons.1 hs).1 x (List.mem_of_getElem? hx)
      rcases Int.lt_or_le (ucmp x u) 0 with h2 | h2
      · exact absurd (ucmp_ok.lt_trans h1 (by omega)) hy
      · exact h2
theorem ins_sorted {l : List S33} {u : S33} (hs : Sorted l) (hne : ∀ x, l[pos l u]? = some x → ucmp x u ≠ 0) : Sorted (ins (pos l u) u l) := by
 induction l with
 | nil => simp [ins, Sorted]
 | cons y l ih =>
  have h1 := List.pairwise_cons.1 hs
  by_cases hy : ucmp y u < 0
  · have e : pos (y :: l) u = pos l u + 1 := by simp only [pos]; rw [if_pos hy]
    rw [e] at hne ⊢
    have h2 := ih h1.2 (fun x hx => hne x hx)
    have e2 : ins (pos l u + 1) u (y :: l) = y :: ins (pos l u) u l := by simp [ins]
    rw [e2]
    refine List.pairwise_cons.2 ⟨fun a ha => ?_, h2⟩
    have ha' : a = u ∨ a ∈ l := by
     simp only [ins, List.mem_append, List.mem_singleton] at ha
     rcases ha with (ha | ha) | ha
     · exact .inr (List.mem_of_mem_take ha)
     · exact .inl ha
     · exact .inr (List.mem_of_mem_drop ha)
    rcases ha' with rfl | ha'
    · exact hy
    · exact h1.1 a ha'
  · have e : pos (y :: l) u = 0 := by simp only [pos]; rw [if_neg hy]
    rw [e] at hne ⊢
    have hn := hne y rfl
    have hu : ucmp u y < 0 := by have := ucmp_ok.anti y u; omega
    have e2 : ins 0 u (y :: l) = u :: y :: l := by simp [ins]
    rw [e2]
    refine List.pairwise_cons.2 ⟨fun a ha => ?_, hs⟩
    rcases List.mem_cons.1 ha with rfl | ha
    · exact hu
    · exact ucmp_ok.lt_trans hu (by have := h1.1 a ha; omega)
theorem ucmp_key {x y : S33} (u : S33) (h0 : x.f0 = y.f0) (h1 : x.f1 = y.f1) : ucmp x u = ucmp y u ∧ ucmp u x = ucmp u y := by
 simp only [ucmp, thenC, mcmp, rcmp, h0, h1, and_self]
theorem set_sorted {l : List S33} {p : Nat} {x : S33} (s : Int) (hs : Sorted l) (hx : l[p]? = some x) : Sorted (l.set p ⟨x.f0, x.f1, s⟩) := by
 unfold Sorted at *
 rw [List.pairwise_iff_getElem] at *
 intro i j hi hj hij
 simp only [List.length_set] at hi hj
 obtain ⟨hp, hxe⟩ := List.getElem?_eq_some_iff.1 hx
 have h := hs i j hi hj hij
 rw [List.getElem_set, List.getElem_set]
 by_cases h1 : p = i
 · subst h1
   rw [if_pos rfl, if_neg (by omega)]
   rw [hxe] at h
   rw [(ucmp_key (x := ⟨x.f0, x.f1, s⟩) (y := x) l[j] rfl rfl).1]
   exact h
 · by_cases h2 : p = j
   · subst h2
     rw [if_neg h1, if_pos rfl]
     rw [hxe] at h
     rw [(ucmp_key (x := ⟨x.f0, x.f1, s⟩) (y := x) l[i] rfl rfl).2]
     exact h
   · rw [if_neg h1, if_neg h2]
     exact h
theorem erase_sorted {l : List S33} (p : Nat) (hs : Sorted l) : Sorted (l.eraseIdx p) := List.Pairwise.sublist (List.eraseIdx_sublist l p) hs
theorem wadd_tot (a b : Int) : ∃ s e, weigh_Add.f a b = some (s, e) := by
 unfold weigh_Add.f
 (repeat' split) <;> exact ⟨_, _, rfl⟩
/-- What is held then, and what is told. -/
def addS (us : List S33) (u : S33) : List S33 × Int :=
 match us[pos us u]? with
 | some x => if ucmp x u = 0 then (match weigh_Add.f x.f2 u.f2 with
   | some (s, e) => (if e ≠ 0 then us else if s = 0 then us.eraseIdx (pos us u) else us.set (pos us u) ⟨x.f0, x.f1, s⟩, e)
   | none => (us, 0)) else (if u.f2 = 0 then us else ins (pos us u) u us, 0)
 | none => (if u.f2 = 0 then us else ins (pos us u) u us, 0)
theorem addS_adds {us : List S33} {u : S33} (hs : Sorted us) (hm : ∀ x ∈ us, x.f0.length ≤ maxLen) : AddsTo us u (addS us u).1 (addS us u).2 := by
 refine ⟨fun j => match us[j]? with | some x => ucmp x u | none => 0, pos us u, fun j x hx => ?_, pos_le us u, fun j hj => ?_, fun j hj hl => ?_, ?_⟩
 · simp only [hx]
   exact Ord_f x u (hm x (List.mem_of_getElem? hx))
 · have hl : j < us.length := Nat.lt_of_lt_of_le hj (pos_le us u)
   have hx : us[j]? = some us[j] := List.getElem?_eq_getElem hl
   simp only [hx]
   exact pos_lt us u j _ hj hx
 · have hx : us[j]? = some us[j] := List.getElem?_eq_getElem hl
   simp only [hx]
   exact pos_ge us u j _ hs hj hx
 · unfold addS
   rcases Nat.lt_or_ge (pos us u) us.length with hl | hl
   · obtain ⟨x, hx⟩ : ∃ x, us[pos us u]? = some x := ⟨_, List.getElem?_eq_getElem hl⟩
     simp only [hx]
     by_cases h0 : ucmp x u = 0
     · obtain ⟨s, e, hw⟩ := wadd_tot x.f2 u.f2
       refine .inr ⟨⟨hl, h0⟩, x, s, rfl, ?_, ?_⟩
       · rw [if_pos h0, hw]
       · rw [if_pos h0, hw]
     · refine .inl ⟨fun h => h0 h.2, ?_, ?_⟩
       · rw [if_neg h0]
       · rw [if_neg h0]
   · have hx : us[pos us u]? = none := List.getElem?_eq_none hl
     simp only [hx]
     refine .inl ⟨fun h => absurd h.1 (by omega), by first | rfl | trivial, by first | rfl | trivial⟩
theorem addS_sorted {us : List S33} {u : S33} (hs : Sorted us) : Sorted (addS us u).1 := by
 unfold addS
 rcases hx : us[pos us u]? with _ | x
 · simp only []
   split
   · exact hs
   · exact ins_sorted hs (fun x h => by rw [hx] at h; cases h)
 · simp only []
   by_cases h0 : ucmp x u = 0
   · rw [if_pos h0]
     obtain ⟨s, e, hw⟩ := wadd_tot x.f2 u.f2
     rw [hw]
     simp only []
     split
     · exact hs
     · split
       · exact erase_sorted _ hs
       · exact set_sorted s hs hx
   · rw [if_neg h0]
     simp only []
     split
     · exact hs
     · exact ins_sorted hs (fun y h => by rw [hx] at h; injection h with h; rw [← h]; exact h0)
theorem addS_len (us : List S33) (u : S33) : (addS us u).1.length ≤ us.length + 1 := by
 unfold addS
 rcases hx : us[pos us u]? with _ | x
 · simp only []
   split
   · omega
   · rw [ins_length]; exact Nat.le_refl _
 · simp only []
   split
   · split
     · simp only []
       split
       · omega
       · split
         · rw [List.length_eraseIdx]; split <;> omega
         · rw [List.length_set]; omega
     · show us.length ≤ us.length + 1; omega
   · split
     · simp only []; omega
     · simp only []; rw [ins_length]; exact Nat.le_refl _
theorem addS_mem {us : List S33} {u y : S33} (h : y ∈ (addS us u).1) : y.f0 = u.f0 ∨ ∃ x ∈ us, y.f0 = x.f0 := by
 have hins : ∀ p, y ∈ ins p u us → y.f0 = u.f0 ∨ ∃ x ∈ us, y.f0 = x.f0 := by
  intro p hy
  simp only [ins, List.mem_append, List.mem_singleton] at hy
  rcases hy with (hy | hy) | hy
  · exact .inr ⟨y, List.mem_of_mem_take hy, rfl⟩
  · exact .inl (by rw [hy])
  · exact .inr ⟨y, List.mem_of_mem_drop hy, rfl⟩
 unfold addS at h
 rcases hx : us[pos us u]? with _ | x
 · rw [hx] at h
   simp only [] at h
   split at h
   · exact .inr ⟨y, h, rfl⟩
   · exact hins _ h
 · rw [hx] at h
   simp only [] at h
   split at h
   · split at h
     · simp only [] at h
       split at h
       · exact .inr ⟨y, h, rfl⟩
       · split at h
         · exact .inr ⟨y, (List.eraseIdx_sublist us _).subset h, rfl⟩
         · rcases List.mem_or_eq_of_mem_set h with h | h
           · exact .inr ⟨y, h, rfl⟩
           · exact .inr ⟨x, List.mem_of_getElem? hx, by rw [h]⟩
     · exact .inr ⟨y, h, rfl⟩
   · simp only [] at h
     split at h
     · exact .inr ⟨y, h, rfl⟩
     · exact hins _ h
theorem wrapk {i n : Nat} (h : i < n) (hn : n ≤ 1000000) : wrap64 ((i : Int) + 1) = ((i + 1 : Nat) : Int) := by
 unfold wrap64; omega
theorem rd33 (l : List S33) (i : Nat) (h : i < l.length) : rd_T33 l (i : Int) = l[i] := by unfold rd_T33; rw [Int.toNat_natCast, List.getD_eq_getElem?_getD, List.getElem?_eq_getElem h]; rfl
theorem same_self (u : S33) (hm : u.f0.length ≤ maxLen) : ∃ k, runnelref07_Same.f k [u] [u] = some true := by
 refine ⟨2 * u.f0.length + 5, ?_⟩
 have ho : runnelref07_Order.f (2 * u.f0.length + 4) u.f0 u.f1.f0 u.f1.f1 u.f2 u.f0 u.f1.f0 u.f1.f1 u.f2 = some 0 := by
  unfold runnelref07_Order.f
  rw [B2HoldPlays.ROrder_f u.f0 u.f0 hm (by omega), RowPure.ord_ok.refl]
  simp [runnelref04_Order.f]
 have hr : rd_T33 [u] 0 = u := rfl
 unfold runnelref07_Same.f
 rw [if_pos rfl]
 simp only [runnelref07_Same.l0]
 rw [if_pos (by simp), if_pos (by omega), if_pos (by simp), hr, ho]
 simp only [Option.bind_some, if_true]
 have hw : wrap64 (0 + 1) = 1 := by unfold wrap64; omega
 rw [hw]
 simp
theorem much7_l0 (l : List S33) (hl : l.length ≤ 1000000) (hm : ∀ u ∈ l, u.f0.length ≤ maxLen) (n : Nat) (hn : ∀ u ∈ l, u.f0.length ≤ n) (d : Nat) : ∀ (k i : Nat), i + d = l.length → d + n < k → ∃ b, runnelref07_Much.l0 k l (i : Int) = some b ∧ (b = false → ∀ x ∈ l.drop i, x.f0.length ≤ 30) := by
 induction d with
 | zero =>
  intro k i hi hk
  obtain ⟨k, rfl⟩ : ∃ n, k = n + 1 := ⟨k - 1, by omega⟩
  simp only [runnelref07_Much.l0]
  rw [if_neg (by omega)]
  exact ⟨false, rfl, fun _ => by rw [List.drop_of_length_le (by omega)]; simp⟩
 | succ d ih =>
  intro k i hi hk
  obtain ⟨k, rfl⟩ : ∃ n, k = n + 1 := ⟨k - 1, by omega⟩
  simp only [runnelref07_Much.l0]
  have hi' : i < l.length := by omega
  rw [if_pos (by omega), if_pos (by omega), rd33 l i hi']
  have hx := hn l[i] (List.getElem_mem hi')
  obtain ⟨b, hb, hf⟩ := B2HoldPlays.Long_f (k := k) l[i].f0 (hm _ (List.getElem_mem hi')) (by omega)
  rw [hb]
  simp only [Option.bind_some]
  cases b with
  | true => exact ⟨true, rfl, fun e => by cases e⟩
  | false =>
   rw [if_neg (by simp), wrapk hi' hl]
   obtain ⟨b2, hb2, hf2⟩ := ih k (i + 1) (by omega) (by omega)
   refine ⟨b2, hb2, fun e x hx => ?_⟩
   rw [List.drop_eq_getElem_cons hi'] at hx
   rcases List.mem_cons.1 hx with rfl | hx
   · exact (hf rfl).1
   · exact hf2 e x hx
theorem much7 (l : List S33) (hm : ∀ u ∈ l, u.f0.length ≤ maxLen) (n : Nat) (hn : ∀ u ∈ l, u.f0.length ≤ n) (k : Nat) (hk : n + 100 < k) : ∃ b, runnelref07_Much.f k l = some b ∧ (b = false → l.length ≤ 60 ∧ ∀ x ∈ l, x.f0.length ≤ 30) := by
 unfold runnelref07_Much.f
 by_cases h : (l.length : Int) > 60
 · rw [if_pos h]; exact ⟨true, rfl, fun e => by cases e⟩
 · rw [if_neg h]
   obtain ⟨b, hb, hf⟩ := much7_l0 l (by omega) hm n hn l.length k 0 (by omega) (by omega)
   exact ⟨b, hb, fun e => ⟨by omega, by simpa using hf e⟩⟩
theorem bound_row : ∀ us : List S33, ∃ n, ∀ u ∈ us, u.f0.length ≤ n := by
 intro us
 induction us with
 | nil => exact ⟨0, fun u hu => by simp at hu⟩
 | cons u us ih =>
  obtain ⟨n, hn⟩ := ih
  refine ⟨max n u.f0.length, fun x hx => ?_⟩
  rcases List.mem_cons.1 hx with rfl | hx
  · exact Nat.le_max_right _ _
  · exact Nat.le_trans (hn x hx) (Nat.le_max_left _ _)
theorem ml30 : 30 ≤ maxLen := by unfold maxLen; omega
theorem good_empties (l : List S33) (hw : ∀ x ∈ l, x.f0.length ≤ maxLen) : ∃ n b, runnelref07_Much.f n l = some b ∧ (b = false → ∃ St, Good l St) := by
 obtain ⟨n, hn⟩ := bound_row l
 obtain ⟨b, hb, hf⟩ := much7 l hw n hn (n + 101) (by omega)
 refine ⟨n + 101, b, hb, fun e => ?_⟩
 obtain ⟨hl, hr⟩ := hf e
 have big : ∀ m : Nat, m ≤ 30 → m < 4398046511104 := fun m hm => by omega
 refine ⟨fun k us => Sorted us ∧ us.length ≤ k ∧ ∀ x ∈ us, x.f0.length ≤ 30, ?_, ?_, ?_, ?_, ?_, ?_, hl⟩
 · exact ⟨List.Pairwise.nil, Nat.le_refl _, fun x hx => by simp at hx⟩
 · rintro k us u ⟨hs, hlen, hrow⟩ hu
   refine ⟨_, _, addS_adds hs (fun x hx => Nat.le_trans (hrow x hx) ml30), addS_sorted hs, Nat.le_trans (addS_len us u) (by omega), fun y hy => ?_⟩
   rcases addS_mem hy with h | ⟨x, hx, h⟩
   · rw [h]; exact hr u (List.mem_of_getElem? hu)
   · rw [h]; exact hrow x hx
 · exact fun k us h x hx => big _ (h.2.2 x hx)
 · exact fun x hx => big _ (hr x hx)
 · exact fun k us h => h.2.1
 · exact fun k us h x hx => same_self x (Nat.le_trans (h.2.2 x hx) ml30)
end Go.Proofs.Ytednmkmhileikaa.G
