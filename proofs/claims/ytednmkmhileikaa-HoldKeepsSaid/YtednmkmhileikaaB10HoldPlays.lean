/- HoldKeeps: what is held and what was told is what was added. -/
import Derived.Test.YtednmkmhileikaaB2HoldPlays
import Derived.Test.YtednmkmhileikaaG12
import Derived.Test.YtednmkmhileikaaBHoldPlays
import Derived.Test.YtednmkmhileikaaG15
import Derived.Test.YtednmkmhileikaaG19
namespace Go.Proofs.Ytednmkmhileikaa.G
open Go.RowKit Go.Proofs.YtednmkmhileikaaW.PrintWords Go.Proofs.YtednmkmhileikaaW.PrintLast Go.Proofs.YtednmkmhileikaaW.PrintMore Go.Proofs.Ytednmkmhileikaa.PHoldPlays
set_option linter.unusedVariables false
set_option linter.unusedSimpArgs false
attribute [local irreducible] IntKind.wrap Go.bits shr shl maxLen
/-- Two orders, one behind the other. -/
def thenC {α : Type} (c d : α → α → Int) (a b : α) : Int := if c a b = 0 then d a b else c a b
theorem thenC_ok {α : Type} {c d : α → α → Int} (hc : RowPure.Ok c) (hd : RowPure.Ok d) : RowPure.Ok (thenC c d) where
 rng a b := by unfold thenC; split; exact hd.rng _ _; exact hc.rng _ _
 anti a b := by
  have h := hc.anti a b
  unfold thenC
  by_cases h0 : c a b = 0
  · rw [if_pos h0, if_pos (by omega), hd.anti a b]
  · rw [if_neg h0, if_neg (by omega), h]
 trans a b e := by
  unfold thenC
  intro h1 h2
  by_cases h3 : c a b = 0
  · rw [if_pos h3] at h1
    have h4 := hc.zero_left h3 e
    by_cases h5 : c b e = 0
    · rw [if_pos h5] at h2
      rw [if_pos (by omega)]
      exact hd.trans a b e h1 h2
    · rw [if_neg h5] at h2
      rw [if_neg (by omega)]
      omega
  · rw [if_neg h3] at h1
    have h6 : c a e < 0 := by
     refine hc.lt_trans (b := b) (by omega) ?_
     by_cases h5 : c b e = 0
     · omega
     · rw [if_neg h5] at h2; exact h2
    rw [if_neg (by omega)]
    omega
/-- The order of times; of changes. -/
def mcmp (a b : S33) : Int := thenC (fun x y : S33 => RowPure.cmpI x.f1.f0 y.f1.f0) (fun x y : S33 => RowPure.cmpI x.f1.f1 y.f1.f1) a b
def rcmp (a b : S33) : Int := RowPure.ord (B2HoldPlays.vs a.f0) (B2HoldPlays.vs b.f0)
def ucmp (a b : S33) : Int := thenC mcmp rcmp a b
theorem mcmp_ok : RowPure.Ok mcmp := thenC_ok ⟨fun _ _ => RowPure.cmpI_ok.rng _ _, fun _ _ => RowPure.cmpI_ok.anti _ _, fun _ _ _ => RowPure.cmpI_ok.trans _ _ _⟩ ⟨fun _ _ => RowPure.cmpI_ok.rng _ _, fun _ _ => RowPure.cmpI_ok.anti _ _, fun _ _ _ => RowPure.cmpI_ok.trans _ _ _⟩
theorem rcmp_ok : RowPure.Ok rcmp := ⟨fun _ _ => RowPure.ord_ok.rng _ _, fun _ _ => RowPure.ord_ok.anti _ _, fun _ _ _ => RowPure.ord_ok.trans _ _ _⟩
theorem ucmp_ok : RowPure.Ok ucmp := thenC_ok mcmp_ok rcmp_ok
theorem cmpI_ne {a b : Int} (h : ¬ a = b) : RowPure.cmpI a b ≠ 0 := fun e => h (RowPure.cmpI_zero.1 e)
theorem mOrder_f (a b : S33) : moment_Order.f a.f1.f0 a.f1.f1 b.f1.f0 b.f1.f1 = some (mcmp a b) := by
 unfold moment_Order.f moment_place_against.f mcmp thenC
 by_cases h : a.f1.f0 = b.f1.f0
 · rw [if_pos h, B2HoldPlays.cmpInt_f, if_pos (RowPure.cmpI_zero.2 h)]; rfl
 · rw [if_neg h, B2HoldPlays.cmpInt_f, if_neg (cmpI_ne h)]; rfl
theorem Ord_f (x u : S33) (hm : x.f0.length ≤ maxLen) : Ord x u (ucmp x u) := by
 have hmu : u.f0.length ≤ maxLen ∨ True := .inr trivial
 refine ⟨x.f0.length + 1, ?_⟩
 unfold hold_order.f ucmp thenC
 rw [mOrder_f]
 simp only [Option.bind_some]
 split
 · rw [B2HoldPlays.Order_f x.f0 u.f0 hm (by omega)]; rfl
 · rfl
/-- Where a change goes. -/
def pos : List S33 → S33 → Nat
 | [], _ => 0
 | x :: l, u => if ucmp x u < 0 then pos l u + 1 else 0
theorem pos_le : ∀ (l : List S33) (u : S33), pos l u ≤ l.length
 | [], _ => Nat.le_refl _
 | x :: l, u => by
  simp only [pos, List.length_cons]
  split
  · have := pos_le l u; omega
  · omega
theorem pos_lt : ∀ (l : List S33) (u : S33) (j : Nat) (x : S33), j < pos l u → l[j]? = some x → ucmp x u < 0
 | [], _, j, _, h, _ => absurd h (Nat.not_lt_zero _)
 | y :: l, u, j, x, h, hx => by
  simp only [pos] at h
  split at h
  · rename_i hy
    cases j with
    | zero => injection hx with hx; rw [← hx]; exact hy
    | succ j => exact pos_lt l u j x (by omega) hx
  · omega
/-- In order, each once. -/
def Sorted (l : List S33) : Prop := l.Pairwise fun a b => ucmp a b < 0
theorem pos_ge : ∀ (l : List S33) (u : S33) (j : Nat) (x : S33), Sorted l → pos l u ≤ j → l[j]? = some x → 0 ≤ ucmp x u
 | [], _, j, _, _, _, hx => by simp at hx
 | y :: l, u, j, x, hs, h, hx => by
  simp only [pos] at h
  split at h
  · cases j with
    | zero => omega
    | succ j => exact pos_ge l u j x (List.pairwise_cons.1 hs).2 (by omega) hx
  · rename_i hy
    cases j with
    | zero => injection hx with hx; rw [← hx]; omega
    | succ j =>
      have h1 := (List.pairwise_cons.1 hs).1 x (List.mem_of_getElem? hx)
      rcases Int.lt_or_le (ucmp x u) 0 with h2 | h2
      · exact absurd (ucmp_ok.lt_trans h1 (by omega)) hy
      · exact h2
theorem ins_sorted {l : List S33} {u : S33} (hs : Sorted l) (hne : ∀ x, l[pos l u]? = some x → ucmp x u ≠ 0) : Sorted (ins (pos l u) u l) := by
 induction l with
 | nil => simp [ins, Sorted]
 | cons y l ih =>
  have h1 := List.pairwise_cons.1 hs
  by_cases hy : ucmp y u < 0
  · have e : pos (y :: l) u = pos l u + 1 := by simp only [pos]; rw [if_pos hy]
    rw [e] at hne ⊢
    have h2 := ih h1.2 (fun x hx => hne x hx)
    have e2 : ins (pos l u + 1) u (y :: l) = y :: ins (pos l u) u l := by simp [ins]
    rw [e2]
    refine List.pairwise_cons.2 ⟨fun a ha => ?_, h2⟩
    have ha' : a = u ∨ a ∈ l := by
     simp only [ins, List.mem_append, List.mem_singleton] at ha
     rcases ha with (ha | ha) | ha
     · exact .inr (List.mem_of_mem_take ha)
     · exact .inl ha
     · exact .inr (List.mem_of_mem_drop ha)
    rcases ha' with rfl | ha'
    · exact hy
    · exact h1.1 a ha'
  · have e : pos (y :: l) u = 0 := by simp only [pos]; rw [if_neg hy]
    rw [e] at hne ⊢
    have hn := hne y rfl
    have hu : ucmp u y < 0 := by have := ucmp_ok.anti y u; omega
    have e2 : ins 0 u (y :: l) = u :: y :: l := by simp [ins]
    rw [e2]
    refine List.pairwise_cons.2 ⟨fun a ha => ?_, hs⟩
    rcases List.mem_cons.1 ha with rfl | ha
    · exact hu
    · exact ucmp_ok.lt_trans hu (by have := h1.1 a ha; omega)
theorem ucmp_key {x y : S33} (u : S33) (h0 : x.f0 = y.f0) (h1 : x.f1 = y.f1) : ucmp x u = ucmp y u ∧ ucmp u x = ucmp u y := by
 simp only [ucmp, thenC, mcmp, rcmp, h0, h1, and_self]
theorem set_sorted {l : List S33} {p : Nat} {x : S33} (s : Int) (hs : Sorted l) (hx : l[p]? = some x) : Sorted (l.set p ⟨x.f0, x.f1, s⟩) := by
 unfold Sorted at *
 rw [List.pairwise_iff_getElem] at *
 intro i j hi hj hij
 simp only [List.length_set] at hi hj
 obtain ⟨hp, hxe⟩ := List.getElem?_eq_some_iff.1 hx
 have h := hs i j hi hj hij
 rw [List.getElem_set, List.getElem_set]
 by_cases h1 : p = i
 · subst h1
   rw [if_pos rfl, if_neg (by omega)]
   rw [hxe] at h
   rw [(ucmp_key (x := ⟨x.f0, x.f1, s⟩) (y := x) l[j] rfl rfl).1]
   exact h
 · by_cases h2 : p = j
   · subst h2
     rw [if_neg h1, if_pos rfl]
     rw [hxe] at h
     rw [(ucmp_key (x := ⟨x.f0, x.f1, s⟩) (y := x) l[i] rfl rfl).2]
     exact h
   · rw [if_neg h1, if_neg h2]
     exact h
theorem erase_sorted {l : List S33} (p : Nat) (hs : Sorted l) : Sorted (l.eraseIdx p) := List.Pairwise.sublist (List.eraseIdx_sublist l p) hs
theorem wadd_tot (a b : Int) : ∃ s e, weigh_Add.f a b = some (s, e) := by
 unfold weigh_Add.f
 (repeat' split) <;> exact ⟨_, _, rfl⟩
/-- What is held then, and what is told. -/
def addS (us : List S33) (u : S33) : List S33 × Int :=
 match us[pos us u]? with
 | some x => if ucmp x u = 0 then (match weigh_Add.f x.f2 u.f2 with
   | some (s, e) => (if e ≠ 0 then us else if s = 0 then us.eraseIdx (pos us u) else us.set (pos us u) ⟨x.f0, x.f1, s⟩, e)
   | none => (us, 0)) else (if u.f2 = 0 then us else ins (pos us u) u us, 0)
 | none => (if u.f2 = 0 then us else ins (pos us u) u us, 0)
theorem addS_adds {us : List S33} {u : S33} (hs : Sorted us) (hm : ∀ x ∈ us, x.f0.length ≤ maxLen) : AddsTo us u (addS us u).1 (addS us u).2 := by
 refine ⟨fun j => match us[j]? with | some x => ucmp x u | none => 0, pos us u, fun j x hx => ?_, pos_le us u, fun j hj => ?_, fun j hj hl => ?_, ?_⟩
 · simp only [hx]
   exact Ord_f x u (hm x (List.mem_of_getElem? hx))
 · have hl : j < us.length := Nat.lt_of_lt_of_le hj (pos_le us u)
   have hx : us[j]? = some us[j] := List.getElem?_eq_getElem hl
   simp only [hx]
   exact pos_lt us u j _ hj hx
 · have hx : us[j]? = some us[j] := List.getElem?_eq_getElem hl
   simp only [hx]
   exact pos_ge us u j _ hs hj hx
 · unfold addS
   rcases Nat.lt_or_ge (pos us u) us.length with hl | hl
   · obtain ⟨x, hx⟩ : ∃ x, us[pos us u]? = some x := ⟨_, List.getElem?_eq_getElem hl⟩
     simp only [hx]
     by_cases h0 : ucmp x u = 0
     · obtain ⟨s, e, hw⟩ := wadd_tot x.f2 u.f2
       refine .inr ⟨⟨hl, h0⟩, x, s, rfl, ?_, ?_⟩
       · rw [if_pos h0, hw]
       · rw [if_pos h0, hw]
     · refine .inl ⟨fun h => h0 h.2, ?_, ?_⟩
       · rw [if_neg h0]
       · rw [if_neg h0]
   · have hx : us[pos us u]? = none := List.getElem?_eq_none hl
     simp only [hx]
     refine .inl ⟨fun h => absurd h.1 (by omega), by first | rfl | trivial, by first | rfl | trivial⟩
theorem addS_sorted {us : List S33} {u : S33} (hs : Sorted us) : Sorted (addS us u).1 := by
 unfold addS
 rcases hx : us[pos us u]? with _ | x
 · simp only []
   split
   · exact hs
   · exact ins_sorted hs (fun x h => by rw [hx] at h; cases h)
 · simp only []
   by_cases h0 : ucmp x u = 0
   · rw [if_pos h0]
     obtain ⟨s, e, hw⟩ := wadd_tot x.f2 u.f2
     rw [hw]
     simp only []
     split
     · exact hs
     · split
       · exact erase_sorted _ hs
       · exact set_sorted s hs hx
   · rw [if_neg h0]
     simp only []
     split
     · exact hs
     · exact ins_sorted hs (fun y h => by rw [hx] at h; injection h with h; rw [← h]; exact h0)
theorem addS_len (us : List S33) (u : S33) : (addS us u).1.length ≤ us.length + 1 := by
 unfold addS
 rcases hx : us[pos us u]? with _ | x
 · simp only []
   split
   · omega
   · rw [ins_length]; exact Nat.le_refl _
 · simp only []
   split
   · split
     · simp only []
       split
       · omega
       · split
         · rw [List.length_eraseIdx]; split <;> omega
         · rw [List.length_set]; omega
     · show us.length ≤ us.length + 1; omega
   · split
     · simp only []; omega
     · simp only []; rw [ins_length]; exact Nat.le_refl _
theorem addS_mem {us : List S33} {u y : S33} (h : y ∈ (addS us u).1) : y.f0 = u.f0 ∨ ∃ x ∈ us, y.f0 = x.f0 := by
 have hins : ∀ p, y ∈ ins p u us → y.f0 = u.f0 ∨ ∃ x ∈ us, y.f0 = x.f0 := by
  intro p hy
  simp only [ins, List.mem_append, List.mem_singleton] at hy
  rcases hy with (hy | hy) | hy
  · exact .inr ⟨y, List.mem_of_mem_take hy, rfl⟩
  · exact .inl (by rw [hy])
  · exact .inr ⟨y, List.mem_of_mem_drop hy, rfl⟩
 unfold addS at h
 rcases hx : us[pos us u]? with _ | x
 · rw [hx] at h
   simp only [] at h
   split at h
   · exact .inr ⟨y, h, rfl⟩
   · exact hins _ h
 · rw [hx] at h
   simp only [] at h
   split at h
   · split at h
     · simp only [] at h
       split at h
       · exact .inr ⟨y, h, rfl⟩
       · split at h
         · exact .inr ⟨y, (List.eraseIdx_sublist us _).subset h, rfl⟩
         · rcases List.mem_or_eq_of_mem_set h with h | h
           · exact .inr ⟨y, h, rfl⟩
           · exact .inr ⟨x, List.mem_of_getElem? hx, by rw [h]⟩
     · exact .inr ⟨y, h, rfl⟩
   · simp only [] at h
     split at h
     · exact .inr ⟨y, h, rfl⟩
     · exact hins _ h
theorem wrapk {i n : Nat} (h : i < n) (hn : n ≤ 1000000) : wrap64 ((i : Int) + 1) = ((i + 1 : Nat) : Int) := by
 unfold wrap64; omega
theorem rd33 (l : List S33) (i : Nat) (h : i < l.length) : rd_T33 l (i : Int) = l[i] := by unfold rd_T33; rw [Int.toNat_natCast, List.getD_eq_getElem?_getD, List.getElem?_eq_getElem h]; rfl
theorem much7_l0 (l : List S33) (hl : l.length ≤ 1000000) (hm : ∀ u ∈ l, u.f0.length ≤ maxLen) (n : Nat) (hn : ∀ u ∈ l, u.f0.length ≤ n) (d : Nat) : ∀ (k i : Nat), i + d = l.length → d + n < k → ∃ b, runnelref07_Much.l0 k l (i : Int) = some b ∧ (b = false → ∀ x ∈ l.drop i, x.f0.length ≤ 30) := by
 induction d with
 | zero =>
  intro k i hi hk
  obtain ⟨k, rfl⟩ : ∃ n, k = n + 1 := ⟨k - 1, by omega⟩
  simp only [runnelref07_Much.l0]
  rw [if_neg (by omega)]
  exact ⟨false, rfl, fun _ => by rw [List.drop_of_length_le (by omega)]; simp⟩
 | succ d ih =>
  intro k i hi hk
  obtain ⟨k, rfl⟩ : ∃ n, k = n + 1 := ⟨k - 1, by omega⟩
  simp only [runnelref07_Much.l0]
  have hi' : i < l.length := by omega
  rw [if_pos (by omega), if_pos (by omega), rd33 l i hi']
  have hx := hn l[i] (List.getElem_mem hi')
  obtain ⟨b, hb, hf⟩ := B2HoldPlays.Long_f (k := k) l[i].f0 (hm _ (List.getElem_mem hi')) (by omega)
  rw [hb]
  simp only [Option.bind_some]
  cases b with
  | true => exact ⟨true, rfl, fun e => by cases e⟩
  | false =>
   rw [if_neg (by simp), wrapk hi' hl]
   obtain ⟨b2, hb2, hf2⟩ := ih k (i + 1) (by omega) (by omega)
   refine ⟨b2, hb2, fun e x hx => ?_⟩
   rw [List.drop_eq_getElem_cons hi'] at hx
   rcases List.mem_cons.1 hx with rfl | hx
   · exact (hf rfl).1
   · exact hf2 e x hx
theorem much7 (l : List S33) (hm : ∀ u ∈ l, u.f0.length ≤ maxLen) (n : Nat) (hn : ∀ u ∈ l, u.f0.length ≤ n) (k : Nat) (hk : n + 100 < k) : ∃ b, runnelref07_Much.f k l = some b ∧ (b = false → l.length ≤ 60 ∧ ∀ x ∈ l, x.f0.length ≤ 30) := by
 unfold runnelref07_Much.f
 by_cases h : (l.length : Int) > 60
 · rw [if_pos h]; exact ⟨true, rfl, fun e => by cases e⟩
 · rw [if_neg h]
   obtain ⟨b, hb, hf⟩ := much7_l0 l (by omega) hm n hn l.length k 0 (by omega) (by omega)
   exact ⟨b, hb, fun e => ⟨by omega, by simpa using hf e⟩⟩
theorem ml30 : 30 ≤ maxLen := by unfold maxLen; omega
end Go.Proofs.Ytednmkmhileikaa.G
namespace Go.Proofs.Ytednmkmhileikaa.G
open Go.RowKit Go.Proofs.YtednmkmhileikaaW.PrintWords Go.Proofs.YtednmkmhileikaaW.PrintLast Go.Proofs.YtednmkmhileikaaW.PrintMore Go.Proofs.Ytednmkmhileikaa.PHoldPlays
set_option linter.unusedVariables false
set_option linter.unusedSimpArgs false
attribute [local irreducible] IntKind.wrap Go.bits shr shl maxLen
def I64 (a : Int) : Prop := -9223372036854775808 ≤ a ∧ a ≤ 9223372036854775807
/-- The sum that is told. -/
def wsum (a b : Int) : Int × Int := if a + b < -9223372036854775808 ∨ 9223372036854775807 < a + b then (0, 60) else (a + b, 0)
theorem wsum_f (a b : Int) (ha : I64 a) (hb : I64 b) : weigh_Add.f a b = some (wsum a b) := by
 unfold I64 at ha hb
 unfold weigh_Add.f wsum wrap64
 by_cases h1 : b > 0
 · rw [if_pos h1]
   by_cases h2 : a + b > 9223372036854775807
   · rw [if_pos (by omega), if_pos (by omega)]
   · rw [if_neg (by omega), if_neg (by omega), if_neg (by omega)]
     congr 2
     omega
 · rw [if_neg h1]
   by_cases h3 : b < 0
   · rw [if_pos h3]
     by_cases h2 : a + b < -9223372036854775808
     · rw [if_pos (by omega), if_pos (by omega)]
     · rw [if_neg (by omega), if_neg (by omega)]
       congr 2
       omega
   · rw [if_neg h3, if_neg (by omega)]
     congr 2
     omega
theorem signed_f (a : Int) (ha : I64 a) : runnelref06_signed.f a = some (a / 4294967296, a % 4294967296) := by
 unfold I64 at ha
 have hu : IntKind.u64.wrap a = a % 18446744073709551616 := IntKind.wrap_u64 a
 have hm : Int.tmod (a % 18446744073709551616) 4294967296 = a % 4294967296 := by
  rw [Int.tmod_eq_emod_of_nonneg (by omega)]; omega
 have hw : wrap64 (a % 4294967296) = a % 4294967296 := by unfold wrap64; omega
 unfold runnelref06_signed.f runnelref06_wide.f
 simp only [Option.bind_some]
 rw [hu, hm, hw, IntKind.wrap_u64, IntKind.wrap_u64, IntKind.wrap_u64]
 have e1 : (a % 18446744073709551616 - a % 4294967296 % 18446744073709551616) % 18446744073709551616 = a % 18446744073709551616 - a % 4294967296 := by omega
 rw [e1, Int.tdiv_eq_ediv_of_nonneg (by omega)]
 have e2 : wrap64 ((a % 18446744073709551616 - a % 4294967296) / 4294967296 % 18446744073709551616) = (a % 18446744073709551616) / 4294967296 := by unfold wrap64; omega
 rw [e2]
 split
 · congr 2
   unfold wrap64; omega
 · congr 2
   omega
theorem radd_f (a b : Int) (ha : I64 a) (hb : I64 b) : runnelref06_Add.f a b = some (wsum a b) := by
 unfold runnelref06_Add.f
 rw [signed_f a ha, signed_f b hb]
 simp only [Option.bind_some]
 unfold I64 at ha hb
 have h1 : wrap64 (a % 4294967296 + b % 4294967296) = a % 4294967296 + b % 4294967296 := by unfold wrap64; omega
 rw [h1, Int.tdiv_eq_ediv_of_nonneg (by omega), Int.tmod_eq_emod_of_nonneg (by omega)]
 have h2 : wrap64 (wrap64 (a / 4294967296 + b / 4294967296) + wrap64 ((a % 4294967296 + b % 4294967296) / 4294967296)) = (a + b) / 4294967296 := by unfold wrap64; omega
 have h3 : (a % 4294967296 + b % 4294967296) % 4294967296 = (a + b) % 4294967296 := by omega
 rw [h2, h3]
 unfold runnelref06_narrow.f wsum
 by_cases h4 : a + b < -9223372036854775808
 · rw [if_pos (by omega), if_pos (by omega)]; rfl
 · by_cases h5 : 9223372036854775807 < a + b
   · rw [if_neg (by omega), if_pos (by omega), if_pos (by omega)]; rfl
   · rw [if_neg (by omega), if_neg (by omega), if_neg (by omega)]
     simp only [Option.bind_some]
     congr 2
     unfold wrap64; omega
theorem rd24 (l : List S24) (i : Nat) (h : i < l.length) : rd_T24 l (i : Int) = l[i] := by unfold rd_T24; rw [Int.toNat_natCast, List.getD_eq_getElem?_getD, List.getElem?_eq_getElem h]; rfl
theorem ahead_l0 (fs : List S24) (t : S24) (hn : fs.length ≤ 1000) (d : Nat) : ∀ (k i : Nat), i + d = fs.length → d < k → runnelref05_Ahead.l0 k fs (i : Int) t.f0 t.f1 = some ((fs.drop i).any fun y => le y t) := by
 induction d with
 | zero =>
  intro k i hi hk
  obtain ⟨k, rfl⟩ : ∃ n, k = n + 1 := ⟨k - 1, by omega⟩
  simp only [runnelref05_Ahead.l0]
  rw [if_neg (by omega), List.drop_of_length_le (by omega)]; rfl
 | succ d ih =>
  intro k i hi hk
  obtain ⟨k, rfl⟩ : ∃ n, k = n + 1 := ⟨k - 1, by omega⟩
  have hi' : i < fs.length := by omega
  simp only [runnelref05_Ahead.l0]
  rw [if_pos (by omega), if_pos (by omega), rd24 fs i hi', List.drop_eq_getElem_cons hi', List.any_cons]
  have hle : runnelref04_LessEq.f fs[i].f0 fs[i].f1 t.f0 t.f1 = some (le fs[i] t) := by
   unfold runnelref04_LessEq.f le
   by_cases h : fs[i].f0 ≤ t.f0
   · rw [if_pos h, decide_eq_true h, Bool.true_and]
   · rw [if_neg h, decide_eq_false h, Bool.false_and]
  rw [hle]
  simp only [Option.bind_some]
  cases hb : le fs[i] t with
  | true => simp
  | false =>
   rw [if_neg (by simp), wrapk hi' (by omega), ih k (i + 1) (by omega) (by omega), Bool.false_or]
theorem rahead_f (fs : List S24) (x : S33) (hn : fs.length ≤ 1000) : RAhead fs x (fs.any fun y => le y x.f1) := ⟨fs.length + 1, by
 unfold runnelref05_Ahead.f
 rw [show (0 : Int) = ((0 : Nat) : Int) from rfl, ahead_l0 fs x.f1 hn fs.length _ 0 (by omega) (by omega)]
 rfl⟩
end Go.Proofs.Ytednmkmhileikaa.G
namespace Go.Proofs.Ytednmkmhileikaa.G
open Go.RowKit Go.Proofs.YtednmkmhileikaaW.PrintWords Go.Proofs.YtednmkmhileikaaW.PrintLast Go.Proofs.YtednmkmhileikaaW.PrintMore Go.Proofs.Ytednmkmhileikaa.PHoldPlays
set_option linter.unusedVariables false
set_option linter.unusedSimpArgs false
attribute [local irreducible] IntKind.wrap Go.bits shr shl maxLen
theorem cut_perm {l : List S33} {p : Nat} {x : S33} (hx : l[p]? = some x) : (x :: l.eraseIdx p).Perm l := by
 obtain ⟨hp, rfl⟩ := List.getElem?_eq_some_iff.1 hx
 rw [List.eraseIdx_eq_take_drop_succ]
 refine (List.perm_middle (a := l[p]) (l₁ := l.take p) (l₂ := l.drop (p + 1))).symm.trans ?_
 rw [List.getElem_cons_drop, List.take_append_drop]
theorem set_perm {l : List S33} {p : Nat} {x z : S33} (hx : l[p]? = some x) : (l.set p z).Perm (z :: l.eraseIdx p) := by
 obtain ⟨hp, _⟩ := List.getElem?_eq_some_iff.1 hx
 rw [List.set_eq_take_append_cons_drop, if_pos hp, List.eraseIdx_eq_take_drop_succ]
 exact List.perm_middle
theorem ins_perm (p : Nat) (u : S33) (l : List S33) : (ins p u l).Perm (u :: l) := by
 unfold ins
 rw [List.append_assoc]
 refine (List.perm_middle (a := u) (l₁ := l.take p) (l₂ := l.drop p)).trans ?_
 rw [List.take_append_drop]
/-! ### Next -/
end Go.Proofs.Ytednmkmhileikaa.G
namespace Go.Proofs.Ytednmkmhileikaa.G
open Go.RowKit Go.Proofs.YtednmkmhileikaaW.PrintWords Go.Proofs.YtednmkmhileikaaW.PrintLast Go.Proofs.YtednmkmhileikaaW.PrintMore Go.Proofs.Ytednmkmhileikaa.PHoldPlays
set_option linter.unusedVariables false
set_option linter.unusedSimpArgs false
attribute [local irreducible] IntKind.wrap Go.bits shr shl maxLen
end Go.Proofs.Ytednmkmhileikaa.G
namespace Go.Proofs.Ytednmkmhileikaa.G
open Go.RowKit Go.Proofs.YtednmkmhileikaaW.PrintWords Go.Proofs.YtednmkmhileikaaW.PrintLast Go.Proofs.YtednmkmhileikaaW.PrintMore Go.Proofs.Ytednmkmhileikaa.PHoldPlays
set_option linter.unusedVariables false
set_option linter.unusedSimpArgs false
attribute [local irreducible] IntKind.wrap Go.bits shr shl maxLen
end Go.Proofs.Ytednmkmhileikaa.G
namespace Go.Proofs.Ytednmkmhileikaa.G
open Go.RowKit Go.Proofs.YtednmkmhileikaaW.PrintWords Go.Proofs.YtednmkmhileikaaW.PrintLast Go.Proofs.YtednmkmhileikaaW.PrintMore Go.Proofs.Ytednmkmhileikaa.PHoldPlays
set_option linter.unusedVariables false
set_option linter.unusedSimpArgs false
attribute [local irreducible] IntKind.wrap Go.bits shr shl maxLen
theorem rd36 (l : List S36) (i : Nat) (h : i < l.length) : rd_T36 l (i : Int) = l[i] := by unfold rd_T36; rw [Int.toNat_natCast, List.getD_eq_getElem?_getD, List.getElem?_eq_getElem h]; rfl
theorem much21_l0 (l : List S36) (hl : l.length ≤ 100) (hm : ∀ a ∈ l, a.f1.f0.length ≤ maxLen) (n : Nat) (hn : ∀ a ∈ l, a.f1.f0.length ≤ n) (d : Nat) : ∀ (k i : Nat), i + d = l.length → d + n + 200 < k → ∃ b, runnellaw21_Much.l0 k l (i : Int) = some b ∧ (b = false → ∀ a ∈ l.drop i, a.f1.f0.length ≤ 30 ∧ a.f2.length ≤ 30) := by
 induction d with
 | zero =>
  intro k i hi hk
  obtain ⟨k, rfl⟩ : ∃ n, k = n + 1 := ⟨k - 1, by omega⟩
  simp only [runnellaw21_Much.l0]
  rw [if_neg (by omega)]
  exact ⟨false, rfl, fun _ => by rw [List.drop_of_length_le (by omega)]; simp⟩
 | succ d ih =>
  intro k i hi hk
  obtain ⟨k, rfl⟩ : ∃ n, k = n + 1 := ⟨k - 1, by omega⟩
  have hi' : i < l.length := by omega
  have hmi := hm l[i] (List.getElem_mem hi')
  have hni := hn l[i] (List.getElem_mem hi')
  simp only [runnellaw21_Much.l0]
  rw [if_pos (by omega), if_pos (by omega), rd36 l i hi']
  obtain ⟨b, hb, hf⟩ := much7 [l[i].f1] (fun u hu => by rw [List.mem_singleton.1 hu]; exact hmi) n (fun u hu => by rw [List.mem_singleton.1 hu]; exact hni) k (by omega)
  have hb' : runnelref07_Much.f k [(⟨l[i].f1.f0, (⟨l[i].f1.f1.f0, l[i].f1.f1.f1⟩ : S24), l[i].f1.f2⟩ : S33)] = some b := hb
  rw [hb']
  simp only [Option.bind_some]
  cases b with
  | true => exact ⟨true, rfl, fun e => by cases e⟩
  | false =>
   rw [if_neg (by simp)]
   by_cases h : (l[i].f2.length : Int) > 30
   · rw [if_pos h]; exact ⟨true, rfl, fun e => by cases e⟩
   · rw [if_neg h, wrapk hi' (by omega)]
     obtain ⟨b2, hb2, hf2⟩ := ih k (i + 1) (by omega) (by omega)
     refine ⟨b2, hb2, fun e a ha => ?_⟩
     rw [List.drop_eq_getElem_cons hi'] at ha
     rcases List.mem_cons.1 ha with rfl | ha
     · exact ⟨(hf rfl).2 _ (List.mem_singleton.2 rfl), by omega⟩
     · exact hf2 e a ha
theorem bound_acts : ∀ l : List S36, ∃ n, ∀ a ∈ l, a.f1.f0.length ≤ n := by
 intro l
 induction l with
 | nil => exact ⟨0, fun a ha => by simp at ha⟩
 | cons a l ih =>
  obtain ⟨n, hn⟩ := ih
  refine ⟨max n a.f1.f0.length, fun x hx => ?_⟩
  rcases List.mem_cons.1 hx with rfl | hx
  · exact Nat.le_max_right _ _
  · exact Nat.le_trans (hn x hx) (Nat.le_max_left _ _)
end Go.Proofs.Ytednmkmhileikaa.G
namespace Go.Proofs.Ytednmkmhileikaa.G
open Go.RowKit Go.Proofs.YtednmkmhileikaaW.PrintWords Go.Proofs.YtednmkmhileikaaW.PrintLast Go.Proofs.YtednmkmhileikaaW.PrintMore Go.Proofs.Ytednmkmhileikaa.PHoldPlays
set_option linter.unusedVariables false
set_option linter.unusedSimpArgs false
attribute [local irreducible] IntKind.wrap Go.bits shr shl maxLen
/-- A sum over a list. -/
def tot {α : Type} (f : α → Int) : List α → Int
 | [] => 0
 | x :: l => f x + tot f l
theorem tot_append {α : Type} (f : α → Int) (l m : List α) : tot f (l ++ m) = tot f l + tot f m := by
 induction l with
 | nil => simp [tot]
 | cons x l ih => simp only [List.cons_append, tot, ih]; omega
theorem tot_perm {α : Type} (f : α → Int) {l m : List α} (h : l.Perm m) : tot f l = tot f m := by
 induction h with
 | nil => rfl
 | cons x _ ih => simp only [tot, ih]
 | swap x y l => simp only [tot]; omega
 | trans _ _ h1 h2 => exact h1.trans h2
theorem tot_zero {α : Type} {f : α → Int} {l : List α} (h : ∀ x ∈ l, f x = 0) : tot f l = 0 := by
 induction l with
 | nil => rfl
 | cons x l ih => simp only [tot, h x (List.mem_cons_self ..), ih (fun y hy => h y (List.mem_cons_of_mem _ hy))]; omega
theorem tot_congr {α : Type} {f g : α → Int} {l : List α} (h : ∀ x ∈ l, f x = g x) : tot f l = tot g l := by
 induction l with
 | nil => rfl
 | cons x l ih => simp only [tot, h x (List.mem_cons_self ..), ih (fun y hy => h y (List.mem_cons_of_mem _ hy))]
theorem tot_nonneg {α : Type} {f : α → Int} (hf : ∀ x, 0 ≤ f x) (l : List α) : 0 ≤ tot f l := by
 induction l with
 | nil => exact Int.le_refl _
 | cons x l ih => simp only [tot]; have := hf x; omega
theorem tot_take {α : Type} {f : α → Int} (hf : ∀ x, 0 ≤ f x) (l : List α) (i : Nat) (x : α) (hx : l[i]? = some x) : tot f (l.take i) + f x ≤ tot f l := by
 obtain ⟨hi, rfl⟩ := List.getElem?_eq_some_iff.1 hx
 have e : l = l.take i ++ l[i] :: l.drop (i + 1) := by rw [List.getElem_cons_drop, List.take_append_drop]
 have h1 : tot f l = tot f (l.take i) + tot f (l[i] :: l.drop (i + 1)) := by
  rw [← tot_append, ← e]
 have h2 := tot_nonneg hf (l.drop (i + 1))
 simp only [tot] at h1
 omega
/-- The order of rows. -/
def rr (a b : List S61) : Int := RowPure.ord (B2HoldPlays.vs a) (B2HoldPlays.vs b)
theorem rr_ok : RowPure.Ok rr := ⟨fun _ _ => RowPure.ord_ok.rng _ _, fun _ _ => RowPure.ord_ok.anti _ _, fun _ _ _ => RowPure.ord_ok.trans _ _ _⟩
theorem rr_f (a b : List S61) (hm : a.length ≤ 30) : ROrdL a b (rr a b) := ⟨70, B2HoldPlays.ROrder_f a b (Nat.le_trans hm ml30) (by omega)⟩
/-- The sum of those whose row is like r. -/
def SS (xs : List S76) (r : List S61) : Int := tot (fun x => if rr x.f0 r = 0 then x.f1 else 0) xs
theorem SS_class (xs : List S76) {r s : List S61} (h : rr r s = 0) : SS xs r = SS xs s := tot_congr (fun x _ => by rw [rr_ok.zero_right h x.f0])
def oX (xs : List S76) (i j : Nat) : Int := rr (xs.getD i z76).f0 (xs.getD j z76).f0
theorem getD_of {xs : List S76} {i : Nat} {x : S76} (h : xs[i]? = some x) : xs.getD i z76 = x := by rw [List.getD_eq_getElem?_getD, h]; rfl
theorem sumTo_take (xs : List S76) (b : Nat) : ∀ n, n ≤ xs.length → sumTo (oX xs) xs b n = SS (xs.take n) (xs.getD b z76).f0
 | 0, _ => by simp [sumTo, SS, tot]
 | n + 1, hn => by
  have ih := sumTo_take xs b n (by omega)
  obtain ⟨x, hx⟩ : ∃ x, xs[n]? = some x := ⟨_, List.getElem?_eq_getElem (by omega)⟩
  have hd := getD_of hx
  unfold sumTo
  rw [← take_snoc hx, ih, hd]
  unfold SS
  rw [tot_append]
  unfold oX
  rw [hd]
  simp only [tot]
  split <;> omega
theorem bst_all {α : Type} {c : α → α → Int} (hc : RowPure.Ok c) (row : Nat → α) (done : Nat → Bool) : ∀ n,
  (bst done (fun i j => c (row i) (row j)) n = none → ∀ j, j < n → done j = true) ∧
  (∀ q, bst done (fun i j => c (row i) (row j)) n = some q → q < n ∧ done q = false ∧ ∀ j, j < n → done j = false → c (row q) (row j) ≤ 0)
 | 0 => ⟨fun _ j h => absurd h (Nat.not_lt_zero _), fun q h => by cases h⟩
 | n + 1 => by
  have ih := bst_all hc row done n
  cases hd : done n with
  | true =>
   rw [bst_done hd]
   refine ⟨fun h j hj => ?_, fun q h => ?_⟩
   · rcases Nat.lt_or_ge j n with h1 | h1
     · exact ih.1 h j h1
     · obtain rfl : j = n := by omega
       exact hd
   · obtain ⟨h1, h2, h3⟩ := ih.2 q h
     refine ⟨by omega, h2, fun j hj hjd => ?_⟩
     rcases Nat.lt_or_ge j n with h4 | h4
     · exact h3 j h4 hjd
     · obtain rfl : j = n := by omega
       rw [hd] at hjd; cases hjd
  | false =>
   rcases hq : bst done (fun i j => c (row i) (row j)) n with _ | b
   · rw [bst_first hd hq]
     refine ⟨fun h => by (cases h), fun q h => ?_⟩
     injection h with h
     subst h
     refine ⟨by omega, hd, fun j hj hjd => ?_⟩
     rcases Nat.lt_or_ge j n with h4 | h4
     · rw [ih.1 hq j h4] at hjd; cases hjd
     · obtain rfl : j = n := by omega
       rw [hc.refl]; omega
   · rw [bst_two hd hq]
     obtain ⟨h1, h2, h3⟩ := ih.2 b hq
     by_cases hlt : c (row n) (row b) < 0
     · rw [if_pos hlt]
       refine ⟨fun h => by (cases h), fun q h => ?_⟩
       injection h with h
       subst h
       refine ⟨by omega, hd, fun j hj hjd => ?_⟩
       rcases Nat.lt_or_ge j n with h4 | h4
       · have := hc.lt_trans hlt (h3 j h4 hjd); omega
       · obtain rfl : j = n := by omega
         rw [hc.refl]; omega
     · rw [if_neg hlt]
       refine ⟨fun h => by (cases h), fun q h => ?_⟩
       injection h with h
       subst h
       refine ⟨by omega, h2, fun j hj hjd => ?_⟩
       rcases Nat.lt_or_ge j n with h4 | h4
       · exact h3 j h4 hjd
       · obtain rfl : j = n := by omega
         have := hc.anti (row j) (row b)
         omega
/-- How many are not done. -/
def und (done : Nat → Bool) : Nat → Nat
 | 0 => 0
 | n + 1 => und done n + if done n then 0 else 1
theorem und_le {d e : Nat → Bool} (h : ∀ i, d i = true → e i = true) : ∀ n, und e n ≤ und d n
 | 0 => Nat.le_refl _
 | n + 1 => by
  have := und_le h n
  unfold und
  cases hd : d n with
  | true => rw [h n hd]; simpa using this
  | false => cases e n <;> simp <;> omega
theorem und_lt {d e : Nat → Bool} (h : ∀ i, d i = true → e i = true) {b : Nat} (h1 : d b = false) (h2 : e b = true) : ∀ n, b < n → und e n < und d n
 | 0, hb => absurd hb (Nat.not_lt_zero _)
 | n + 1, hb => by
  unfold und
  by_cases hn : b = n
  · subst hn
    have := und_le h b
    rw [h1, h2]
    simp
    omega
  · have := und_lt h h1 h2 n (by omega)
    cases hd : d n with
    | true => rw [h n hd]; simpa using this
    | false => cases e n <;> simp <;> omega
theorem und_top (d : Nat → Bool) : ∀ n, und d n ≤ n
 | 0 => Nat.le_refl _
 | n + 1 => by have := und_top d n; unfold und; split <;> omega
/-- Each row once whose sum is not 0, in order. -/
structure Norm (xs r : List S76) : Prop where
 asc : r.Pairwise fun a b => rr a.f0 b.f0 < 0
 val : ∀ y ∈ r, y.f1 = SS xs y.f0 ∧ y.f1 ≠ 0
 mem : ∀ y ∈ r, ∃ (i : Nat) (x : S76), xs[i]? = some x ∧ x.f0 = y.f0
 all : ∀ row, SS xs row ≠ 0 → ∃ y ∈ r, rr y.f0 row = 0
theorem lessN_ok (xs : List S76) : ∀ (m : Nat) (done : Nat → Bool) (out : List S76), und done xs.length ≤ m →
  (∀ i j, i < xs.length → j < xs.length → done i = true → done j = false → oX xs i j < 0) →
  (out.Pairwise fun a b => rr a.f0 b.f0 < 0) → (∀ y ∈ out, y.f1 = SS xs y.f0 ∧ y.f1 ≠ 0) →
  (∀ y ∈ out, ∃ i, i < xs.length ∧ done i = true ∧ (xs.getD i z76).f0 = y.f0) →
  (∀ i, i < xs.length → done i = true → SS xs (xs.getD i z76).f0 ≠ 0 → ∃ y ∈ out, rr y.f0 (xs.getD i z76).f0 = 0) →
  ∃ r, lessN (oX xs) xs (m + 1) done out = some r ∧ Norm xs r ∧ r.length ≤ out.length + m := by
 intro m
 induction m with
 | zero =>
  intro done out hu h1 h2 h3 h4 h5
  have hb := bst_all rr_ok (fun i => (xs.getD i z76).f0) done xs.length
  rcases hq : bst done (oX xs) xs.length with _ | b
  · refine ⟨out, by unfold lessN; rw [hq], ⟨h2, h3, fun y hy => ?_, fun row hrow => ?_⟩, by omega⟩
    · obtain ⟨i, hi, _, he⟩ := h4 y hy
      exact ⟨i, xs[i], List.getElem?_eq_getElem hi, by rw [← he, getD_of (List.getElem?_eq_getElem hi)]⟩
    · obtain ⟨i, hi, hir⟩ : ∃ i, i < xs.length ∧ rr (xs.getD i z76).f0 row = 0 := by
       refine Classical.byContradiction fun hn => hrow (tot_zero fun x hx => ?_)
       obtain ⟨i, hi⟩ := List.mem_iff_getElem?.1 hx
       rw [if_neg]
       intro h0
       exact hn ⟨i, (List.getElem?_eq_some_iff.1 hi).1, by rw [getD_of hi]; exact h0⟩
      obtain ⟨y, hy, hyr⟩ := h5 i hi (hb.1 hq i hi) (by rw [SS_class xs hir]; exact hrow)
      exact ⟨y, hy, by rw [rr_ok.zero_left hyr row]; exact hir⟩
  · obtain ⟨g1, g2, _⟩ := hb.2 b hq
    have := und_lt (d := done) (e := fun _ => true) (fun _ _ => rfl) g2 rfl xs.length g1
    omega
 | succ m ih =>
  intro done out hu h1 h2 h3 h4 h5
  have hb := bst_all rr_ok (fun i => (xs.getD i z76).f0) done xs.length
  rcases hq : bst done (oX xs) xs.length with _ | b
  · refine ⟨out, by unfold lessN; rw [hq], ⟨h2, h3, fun y hy => ?_, fun row hrow => ?_⟩, by omega⟩
    · obtain ⟨i, hi, _, he⟩ := h4 y hy
      exact ⟨i, xs[i], List.getElem?_eq_getElem hi, by rw [← he, getD_of (List.getElem?_eq_getElem hi)]⟩
    · obtain ⟨i, hi, hir⟩ : ∃ i, i < xs.length ∧ rr (xs.getD i z76).f0 row = 0 := by
       refine Classical.byContradiction fun hn => hrow (tot_zero fun x hx => ?_)
       obtain ⟨i, hi⟩ := List.mem_iff_getElem?.1 hx
       rw [if_neg]
       intro h0
       exact hn ⟨i, (List.getElem?_eq_some_iff.1 hi).1, by rw [getD_of hi]; exact h0⟩
      obtain ⟨y, hy, hyr⟩ := h5 i hi (hb.1 hq i hi) (by rw [SS_class xs hir]; exact hrow)
      exact ⟨y, hy, by rw [rr_ok.zero_left hyr row]; exact hir⟩
  · obtain ⟨g1, g2, g3⟩ := hb.2 b hq
    have gm : ∀ i, mark (oX xs) b done xs.length i = true ↔ done i = true ∨ (i < xs.length ∧ oX xs i b = 0) := by
     intro i; unfold mark; simp [Bool.or_eq_true]
    have gbb : oX xs b b = 0 := rr_ok.refl _
    have gb : mark (oX xs) b done xs.length b = true := (gm b).2 (.inr ⟨g1, gbb⟩)
    have gle := und_lt (fun i hi => (gm i).2 (.inl hi)) g2 gb xs.length g1
    have gs : sumTo (oX xs) xs b xs.length = SS xs (xs.getD b z76).f0 := by
     rw [sumTo_take xs b xs.length (Nat.le_refl _), List.take_length]
    have gf : ∀ j, mark (oX xs) b done xs.length j = false → done j = false ∧ (j < xs.length → oX xs j b ≠ 0) := by
     intro j hj
     have hn := mt (gm j).2 (by rw [hj]; simp)
     refine ⟨?_, fun hl h0 => hn (.inr ⟨hl, h0⟩)⟩
     cases hd : done j with
     | false => rfl
     | true => exact absurd (.inl hd) hn
    unfold lessN
    rw [hq]
    simp only []
    rw [gs]
    have k1 : ∀ i j, i < xs.length → j < xs.length → mark (oX xs) b done xs.length i = true → mark (oX xs) b done xs.length j = false → oX xs i j < 0 := by
     intro i j hi hj hdi hdj
     obtain ⟨f1, f2⟩ := gf j hdj
     rcases (gm i).1 hdi with hd | ⟨_, h0⟩
     · exact h1 i j hi hj hd f1
     · have a1 := g3 j hj f1
       have a2 := rr_ok.anti (xs.getD b z76).f0 (xs.getD j z76).f0
       have a3 := f2 hj
       have a4 := rr_ok.zero_left h0 (xs.getD j z76).f0
       unfold oX at *
       have a1 : rr (xs.getD b z76).f0 (xs.getD j z76).f0 ≤ 0 := a1
       omega
    have k4 : ∀ y ∈ out, ∃ i, i < xs.length ∧ mark (oX xs) b done xs.length i = true ∧ (xs.getD i z76).f0 = y.f0 := by
     intro y hy
     obtain ⟨i, hi, hd, he⟩ := h4 y hy
     exact ⟨i, hi, (gm i).2 (.inl hd), he⟩
    by_cases hz : SS xs (xs.getD b z76).f0 = 0
    · rw [if_pos hz]
      refine Exists.imp (fun r h => ⟨h.1, h.2.1, by have := h.2.2; omega⟩) (ih _ out (by omega) k1 h2 h3 k4 (fun i hi hd hs => ?_))
      rcases (gm i).1 hd with hd | ⟨_, h0⟩
      · exact h5 i hi hd hs
      · exact absurd hz (by rw [← SS_class xs h0]; exact hs)
    · rw [if_neg hz]
      refine Exists.imp (fun r h => ⟨h.1, h.2.1, by have := h.2.2; rw [List.length_append, List.length_singleton] at this; omega⟩) (ih _ _ (by omega) k1 ?_ ?_ ?_ (fun i hi hd hs => ?_))
      · refine List.pairwise_append.2 ⟨h2, List.pairwise_singleton .., fun y hy z hz2 => ?_⟩
        rw [List.mem_singleton.1 hz2]
        obtain ⟨i, hi, hd, he⟩ := h4 y hy
        rw [← he]
        exact h1 i b hi g1 hd g2
      · intro y hy
        rcases List.mem_append.1 hy with hy | hy
        · exact h3 y hy
        · rw [List.mem_singleton.1 hy]; exact ⟨rfl, hz⟩
      · intro y hy
        rcases List.mem_append.1 hy with hy | hy
        · exact k4 y hy
        · rw [List.mem_singleton.1 hy]; exact ⟨b, g1, gb, rfl⟩
      · rcases (gm i).1 hd with hd | ⟨_, h0⟩
        · obtain ⟨y, hy, hyr⟩ := h5 i hi hd hs
          exact ⟨y, List.mem_append.2 (.inl hy), hyr⟩
        · refine ⟨_, List.mem_append.2 (.inr (List.mem_singleton.2 rfl)), ?_⟩
          have := rr_ok.anti (xs.getD i z76).f0 (xs.getD b z76).f0
          unfold oX at h0
          simp only []
          omega
/-- Two rows of counts in order that hold the same rows. -/
theorem asc_match : ∀ (a b : List S76), (a.Pairwise fun x y => rr x.f0 y.f0 < 0) → (b.Pairwise fun x y => rr x.f0 y.f0 < 0) → (∀ x ∈ a, ∃ y ∈ b, rr x.f0 y.f0 = 0) → (∀ y ∈ b, ∃ x ∈ a, rr x.f0 y.f0 = 0) →
  a.length = b.length ∧ ∀ (i : Nat) (x y : S76), a[i]? = some x → b[i]? = some y → rr x.f0 y.f0 = 0
 | [], [], _, _, _, _ => ⟨rfl, fun i x y h => by simp at h⟩
 | [], y :: b, _, _, _, h => by obtain ⟨x, hx, _⟩ := h y (List.mem_cons_self ..); simp at hx
 | x :: a, [], _, _, h, _ => by obtain ⟨y, hy, _⟩ := h x (List.mem_cons_self ..); simp at hy
 | x :: a, y :: b, ha, hb, h1, h2 => by
  have ha' := List.pairwise_cons.1 ha
  have hb' := List.pairwise_cons.1 hb
  have hxy : rr x.f0 y.f0 = 0 := by
   obtain ⟨y', hy', e1⟩ := h1 x (List.mem_cons_self ..)
   obtain ⟨x', hx', e2⟩ := h2 y (List.mem_cons_self ..)
   rcases List.mem_cons.1 hy' with rfl | hy'
   · exact e1
   · rcases List.mem_cons.1 hx' with rfl | hx'
     · exact e2
     · have l1 := hb'.1 y' hy'
       have l2 := ha'.1 x' hx'
       have l3 := rr_ok.zero_left e1 y.f0
       have l4 := rr_ok.zero_right e2 x.f0
       have l5 := rr_ok.anti y.f0 y'.f0
       omega
  have ht := asc_match a b ha'.2 hb'.2 (fun z hz => by
    obtain ⟨y', hy', e1⟩ := h1 z (List.mem_cons_of_mem _ hz)
    rcases List.mem_cons.1 hy' with rfl | hy'
    · have l2 := ha'.1 z hz
      have l4 := rr_ok.zero_right e1 x.f0
      omega
    · exact ⟨y', hy', e1⟩) (fun z hz => by
    obtain ⟨x', hx', e1⟩ := h2 z (List.mem_cons_of_mem _ hz)
    rcases List.mem_cons.1 hx' with rfl | hx'
    · have l2 := hb'.1 z hz
      have l4 := rr_ok.zero_left hxy z.f0
      omega
    · exact ⟨x', hx', e1⟩)
  refine ⟨by simp [ht.1], fun i u v hu hv => ?_⟩
  cases i with
  | zero => injection hu with hu; injection hv with hv; rw [← hu, ← hv]; exact hxy
  | succ i => exact ht.2 i u v hu hv
theorem norm_same {xs ys ra rb : List S76} (ha : Norm xs ra) (hb : Norm ys rb) (hS : ∀ row, SS xs row = SS ys row) : ra.length = rb.length ∧ ∀ (i : Nat) (x y : S76), ra[i]? = some x → rb[i]? = some y → rr x.f0 y.f0 = 0 ∧ x.f1 = y.f1 := by
 have hm := asc_match ra rb ha.asc hb.asc (fun x hx => by
   obtain ⟨y, hy, e⟩ := hb.all x.f0 (by rw [← hS, ← (ha.val x hx).1]; exact (ha.val x hx).2)
   exact ⟨y, hy, by have := rr_ok.anti y.f0 x.f0; omega⟩) (fun y hy => ha.all y.f0 (by rw [hS, ← (hb.val y hy).1]; exact (hb.val y hy).2))
 refine ⟨hm.1, fun i x y hx hy => ?_⟩
 have h0 := hm.2 i x y hx hy
 exact ⟨h0, by rw [(ha.val x (List.mem_of_getElem? hx)).1, (hb.val y (List.mem_of_getElem? hy)).1, hS, SS_class ys h0]⟩
theorem counts_l0 (a b : List S76) (hl : a.length = b.length) (hn : a.length ≤ 1000) (hr : ∀ x ∈ a, x.f0.length ≤ 30) (hm : ∀ (i : Nat) (x y : S76), a[i]? = some x → b[i]? = some y → rr x.f0 y.f0 = 0 ∧ x.f1 = y.f1) (d : Nat) : ∀ (i k : Nat), i + d = a.length → 70 + d < k → runnelref07_SameCounts.l0 k a b (i : Int) = some true := by
 induction d with
 | zero =>
  intro i k hi hk
  obtain ⟨k, rfl⟩ : ∃ n, k = n + 1 := ⟨k - 1, by omega⟩
  simp only [runnelref07_SameCounts.l0]
  rw [if_neg (by omega)]
 | succ d ih =>
  intro i k hi hk
  obtain ⟨k, rfl⟩ : ∃ n, k = n + 1 := ⟨k - 1, by omega⟩
  have hi' : i < a.length := by omega
  have hxa : a[i]? = some a[i] := List.getElem?_eq_getElem hi'
  have hxb : b[i]? = some b[i] := List.getElem?_eq_getElem (by omega)
  obtain ⟨e1, e2⟩ := hm i _ _ hxa hxb
  simp only [runnelref07_SameCounts.l0]
  rw [if_pos (by omega), if_pos (by omega), if_pos (by omega), rd_76 hxa, rd_76 hxb, B2HoldPlays.ROrder_f _ _ (Nat.le_trans (hr _ (List.getElem_mem hi')) ml30) (by have := hr _ (List.getElem_mem hi'); omega)]
  simp only [Option.bind_some]
  rw [if_pos (show RowPure.ord (B2HoldPlays.vs a[i].f0) (B2HoldPlays.vs b[i].f0) = 0 from e1), if_pos e2, wrapk hi' (by omega)]
  exact ih (i + 1) k (by omega) (by omega)
theorem counts_f (a b : List S76) (hl : a.length = b.length) (hn : a.length ≤ 1000) (hr : ∀ x ∈ a, x.f0.length ≤ 30) (hm : ∀ (i : Nat) (x y : S76), a[i]? = some x → b[i]? = some y → rr x.f0 y.f0 = 0 ∧ x.f1 = y.f1) : ∃ n, runnelref07_SameCounts.f n a b = some true := by
 refine ⟨71 + a.length, ?_⟩
 unfold runnelref07_SameCounts.f
 rw [if_pos (by rw [hl])]
 exact counts_l0 a b hl hn hr hm a.length 0 _ (by omega) (by omega)
/-- How great a sum may be. -/
def ab (u : S33) : Int := u.f2.natAbs
def ab76 (u : S76) : Int := u.f1.natAbs
theorem ab_pos (u : S33) : 0 ≤ ab u := Int.natCast_nonneg _
theorem ab76_pos (u : S76) : 0 ≤ ab76 u := Int.natCast_nonneg _
theorem cnt_ab (t : S24) (l : List S33) : tot ab76 (cnt t l) ≤ tot ab l := by
 induction l with
 | nil => exact Int.le_refl _
 | cons u l ih =>
  unfold cnt at *
  have := ab_pos u
  rw [List.filter_cons]
  split
  · simp only [List.map_cons, tot]
    have e : ab76 ⟨u.f0, u.f2⟩ = ab u := rfl
    omega
  · simp only [tot]; omega
theorem sumTo_ab (oo : Nat → Nat → Int) (xs : List S76) (b : Nat) : ∀ n, n ≤ xs.length → -(tot ab76 (xs.take n)) ≤ sumTo oo xs b n ∧ sumTo oo xs b n ≤ tot ab76 (xs.take n)
 | 0, _ => by simp [sumTo, tot]
 | n + 1, hn => by
  have ih := sumTo_ab oo xs b n (by omega)
  obtain ⟨x, hx⟩ : ∃ x, xs[n]? = some x := ⟨_, List.getElem?_eq_getElem (by omega)⟩
  unfold sumTo
  rw [← take_snoc hx, getD_of hx, tot_append]
  simp only [tot]
  have : ab76 x = x.f1.natAbs := rfl
  split <;> omega
theorem cnt_row {t : S24} {l : List S33} {x : S76} (h : x ∈ cnt t l) : ∃ u ∈ l, u.f0 = x.f0 := by
 unfold cnt at h
 obtain ⟨u, hu, rfl⟩ := List.mem_map.1 h
 exact ⟨u, (List.mem_filter.1 hu).1, rfl⟩
theorem at_ok (t : S24) (l : List S33) (hrow : ∀ u ∈ l, u.f0.length ≤ 30) (hab : tot ab l ≤ 4611686018427387904) (hn : l.length ≤ 1000) : ∃ r, AtIs t l r ∧ Norm (cnt t l) r ∧ r.length ≤ l.length := by
 obtain ⟨xs, hxs⟩ : ∃ xs, xs = cnt t l := ⟨_, rfl⟩
 have hxl : xs.length ≤ 1000 := by rw [hxs]; exact Nat.le_trans (cnt_len t l) hn
 have hxa : tot ab76 xs ≤ 4611686018427387904 := by rw [hxs]; exact Int.le_trans (cnt_ab t l) hab
 have hxr : ∀ x ∈ xs, x.f0.length ≤ 30 := fun x hx => by
  rw [hxs] at hx
  obtain ⟨u, hu, e⟩ := cnt_row hx
  rw [← e]; exact hrow u hu
 obtain ⟨r, hr, hN, hrl⟩ := lessN_ok xs xs.length (fun _ => false) [] (und_top _ _) (fun i j _ _ h => by cases h) List.Pairwise.nil (fun y hy => by simp at hy) (fun y hy => by simp at hy) (fun i _ h => by cases h)
 refine ⟨r, ?_, hxs ▸ hN, by have := cnt_len t l; rw [← hxs] at this; simp at hrl; omega⟩
 unfold AtIs
 rw [← hxs]
 refine ⟨oX xs, xs.length + 1, fun i j x y hx hy => ?_, fun b i x hx _ => ?_, hr, by omega⟩
 · have := rr_f x.f0 y.f0 (hxr x (List.mem_of_getElem? hx))
   unfold oX
   rw [getD_of hx, getD_of hy]
   exact this
 · obtain ⟨hi, _⟩ := List.getElem?_eq_some_iff.1 hx
   have h1 := sumTo_ab (oX xs) xs b i (by omega)
   have h2 := tot_take ab76_pos xs i x hx
   have h3 : ab76 x = x.f1.natAbs := rfl
   have h4 := tot_nonneg ab76_pos (xs.take i)
   rw [radd_f _ _ (by unfold I64; omega) (by unfold I64; omega)]
   unfold wsum
   rw [if_neg (by omega)]
end Go.Proofs.Ytednmkmhileikaa.G
namespace Go.Proofs.Ytednmkmhileikaa.G
open Go.RowKit Go.Proofs.YtednmkmhileikaaW.PrintWords Go.Proofs.YtednmkmhileikaaW.PrintLast Go.Proofs.YtednmkmhileikaaW.PrintMore Go.Proofs.Ytednmkmhileikaa.PHoldPlays
set_option linter.unusedVariables false
set_option linter.unusedSimpArgs false
attribute [local irreducible] IntKind.wrap Go.bits shr shl maxLen
/-- A test that does not tell apart what has the same time and row. -/
def Resp (p : S33 → Bool) : Prop := ∀ x y, ucmp x y = 0 → p x = p y
def sel (p : S33 → Bool) (u : S33) : Int := if p u then u.f2 else 0
theorem addS_tot {us : List S33} {u : S33} (hs : Sorted us) (hab : tot ab us + ab u ≤ 4611686018427387904) (hnz : ∀ x ∈ us, x.f2 ≠ 0) :
  (addS us u).2 = 0 ∧ tot ab (addS us u).1 ≤ tot ab us + ab u ∧ (∀ x ∈ (addS us u).1, x.f2 ≠ 0) ∧ ∀ p, Resp p → tot (sel p) (addS us u).1 = tot (sel p) us + sel p u := by
 have hins : ∀ vs, vs = (if u.f2 = 0 then us else ins (pos us u) u us) → tot ab vs ≤ tot ab us + ab u ∧ (∀ x ∈ vs, x.f2 ≠ 0) ∧ ∀ p, Resp p → tot (sel p) vs = tot (sel p) us + sel p u := by
  intro vs hv
  by_cases h0 : u.f2 = 0
  · rw [if_pos h0] at hv
    subst hv
    have := ab_pos u
    refine ⟨by omega, hnz, fun p _ => ?_⟩
    unfold sel
    simp [h0]
  · rw [if_neg h0] at hv
    subst hv
    have hp := ins_perm (pos us u) u us
    refine ⟨?_, fun x hx => ?_, fun p _ => ?_⟩
    · rw [tot_perm _ hp]; simp only [tot]; omega
    · rcases List.mem_cons.1 (hp.mem_iff.1 hx) with rfl | hx
      · exact h0
      · exact hnz x hx
    · rw [tot_perm _ hp]; simp only [tot]; omega
 unfold addS
 rcases hx : us[pos us u]? with _ | x
 · exact ⟨rfl, hins _ rfl⟩
 · simp only []
   by_cases h0 : ucmp x u = 0
   · rw [if_pos h0]
     have hxm := List.mem_of_getElem? hx
     have hxa := tot_take ab_pos us _ x hx
     have htn := tot_nonneg ab_pos (us.take (pos us u))
     have e1 : ab x = x.f2.natAbs := rfl
     have e2 : ab u = u.f2.natAbs := rfl
     have hun := ab_pos u
     rw [wsum_f x.f2 u.f2 (by unfold I64; omega) (by unfold I64; omega)]
     have hw : wsum x.f2 u.f2 = (x.f2 + u.f2, 0) := by unfold wsum; rw [if_neg (by omega)]
     rw [hw]
     simp only [ne_eq, not_true_eq_false, if_false]
     have hcut := cut_perm hx
     by_cases hz : x.f2 + u.f2 = 0
     · rw [if_pos hz]
       refine ⟨trivial, ?_, fun y hy => hnz y ((List.eraseIdx_sublist us _).subset hy), fun p hp => ?_⟩
       · have h1 := tot_perm ab hcut
         simp only [tot] at h1
         have := ab_pos x
         omega
       · have h1 := tot_perm (sel p) hcut
         simp only [tot] at h1
         have h2 := hp x u h0
         have h3 : sel p x + sel p u = 0 := by
          unfold sel
          rw [h2]
          split <;> omega
         omega
     · rw [if_neg hz]
       have hset := set_perm (z := (⟨x.f0, x.f1, x.f2 + u.f2⟩ : S33)) hx
       refine ⟨trivial, ?_, fun y hy => ?_, fun p hp => ?_⟩
       · have h1 := tot_perm ab hcut
         rw [tot_perm ab hset]
         simp only [tot] at h1 ⊢
         have e3 : ab ⟨x.f0, x.f1, x.f2 + u.f2⟩ = (x.f2 + u.f2).natAbs := rfl
         omega
       · rcases List.mem_cons.1 (hset.mem_iff.1 hy) with rfl | hy
         · exact hz
         · exact hnz y ((List.eraseIdx_sublist us _).subset hy)
       · have h1 := tot_perm (sel p) hcut
         rw [tot_perm (sel p) hset]
         simp only [tot] at h1 ⊢
         have h2 := hp x u h0
         have h4 := hp ⟨x.f0, x.f1, x.f2 + u.f2⟩ x (by rw [(ucmp_key (x := ⟨x.f0, x.f1, x.f2 + u.f2⟩) (y := x) x rfl rfl).1]; exact ucmp_ok.refl x)
         have h3 : sel p ⟨x.f0, x.f1, x.f2 + u.f2⟩ = sel p x + sel p u := by
          unfold sel
          rw [h4, h2]
          split <;> simp
         omega
   · rw [if_neg h0]
     exact ⟨rfl, hins _ rfl⟩
theorem ucmp_zero {x y : S33} (h : ucmp x y = 0) : x.f1 = y.f1 ∧ rr x.f0 y.f0 = 0 := by
 unfold ucmp thenC at h
 by_cases hm : mcmp x y = 0
 · rw [if_pos hm] at h
   refine ⟨?_, h⟩
   unfold mcmp thenC at hm
   by_cases h1 : RowPure.cmpI x.f1.f0 y.f1.f0 = 0
   · rw [if_pos h1] at hm
     have e1 := RowPure.cmpI_zero.1 h1
     have e2 := RowPure.cmpI_zero.1 hm
     obtain ⟨_, ⟨_, _⟩, _⟩ := x
     obtain ⟨_, ⟨_, _⟩, _⟩ := y
     simp only at e1 e2 ⊢
     rw [e1, e2]
   · rw [if_neg h1] at hm
     exact absurd hm h1
 · rw [if_neg hm] at h
   exact absurd h hm
def atRow (t : S24) (row : List S61) (u : S33) : Bool := le u.f1 t && decide (rr u.f0 row = 0)
theorem atRow_resp (t : S24) (row : List S61) : Resp (atRow t row) := by
 intro x y h
 obtain ⟨h1, h2⟩ := ucmp_zero h
 unfold atRow
 rw [h1, rr_ok.zero_left h2 row]
theorem SS_cnt (t : S24) (row : List S61) (l : List S33) : SS (cnt t l) row = tot (sel (atRow t row)) l := by
 induction l with
 | nil => rfl
 | cons u l ih =>
  have ih' : SS ((l.filter fun u => le u.f1 t).map fun u => (⟨u.f0, u.f2⟩ : S76)) row = tot (sel (atRow t row)) l := ih
  unfold cnt
  rw [List.filter_cons]
  simp only [tot]
  unfold sel atRow
  cases hl : le u.f1 t with
  | true =>
   rw [if_pos rfl]
   simp only [List.map_cons, SS, tot, Bool.true_and, decide_eq_true_eq]
   unfold SS at ih'
   rw [ih']
   rfl
  | false =>
   rw [if_neg (by simp)]
   simp only [Bool.false_and, Bool.false_eq_true, if_false]
   rw [ih']
   show _ = 0 + tot (sel (atRow t row)) l
   omega
theorem much21 (l : List S36) (hw : ∀ a ∈ l, a.f1.f0.length ≤ maxLen) : ∃ n b, runnellaw21_Much.f n l = some b ∧ (b = false → l.length ≤ 100 ∧ ∀ a ∈ l, a.f1.f0.length ≤ 30 ∧ a.f2.length ≤ 30) := by
 obtain ⟨n, hn⟩ := bound_acts l
 by_cases hbig : (l.length : Int) > 100
 · refine ⟨0, true, ?_, fun e => by cases e⟩
   unfold runnellaw21_Much.f
   rw [if_pos hbig]
 have hl : l.length ≤ 100 := by omega
 obtain ⟨b, hb, hf⟩ := much21_l0 l hl (fun a ha => hw a ha) n hn l.length (l.length + n + 201) 0 (by omega) (by omega)
 refine ⟨l.length + n + 201, b, ?_, fun e => ⟨hl, by simpa using hf e⟩⟩
 unfold runnellaw21_Much.f
 rw [if_neg hbig]
 exact hb
def StK (k : Nat) (us i o : List S33) : Prop := Sorted us ∧ (us.length ≤ k ∧ i.length ≤ k ∧ o.length ≤ k) ∧ (∀ x ∈ us, x.f2 ≠ 0) ∧ ((∀ x ∈ us, x.f0.length ≤ 30) ∧ (∀ x ∈ i, x.f0.length ≤ 30) ∧ ∀ x ∈ o, x.f0.length ≤ 30) ∧ (tot ab (o ++ us) ≤ k * 1125899906842624 ∧ tot ab i ≤ k * 1125899906842624) ∧ ∀ p, Resp p → tot (sel p) i = tot (sel p) (o ++ us)
theorem good_keeps (l : List S36) (t : S24) (hl : l.length ≤ 100) (hr : ∀ a ∈ l, a.f1.f0.length ≤ 30 ∧ a.f2.length ≤ 30) : GoodK l t StK := by
 refine ⟨?_, ?_, ?_, ?_, fun k us i o h => h.2.1, ?_, ?_, hl⟩
 · exact ⟨List.Pairwise.nil, ⟨Nat.le_refl _, Nat.le_refl _, Nat.le_refl _⟩, fun x hx => by simp at hx, ⟨fun x hx => by simp at hx, fun x hx => by simp at hx, fun x hx => by simp at hx⟩, ⟨by simp [tot], by simp [tot]⟩, fun p _ => rfl⟩
 · rintro k us i o a ⟨hs, ⟨n1, n2, n3⟩, hnz, ⟨r1, r2, r3⟩, ⟨b1, b2⟩, he⟩ ha _ hlo hhi
   have ham := List.mem_of_getElem? ha
   have hkl := (List.getElem?_eq_some_iff.1 ha).1
   have ea : ab a.f1 = a.f1.f2.natAbs := rfl
   rw [tot_append] at b1
   have hon := tot_nonneg ab_pos o
   obtain ⟨h1, h2, h3, h4⟩ := addS_tot (u := a.f1) hs (by omega) hnz
   refine ⟨(addS us a.f1).1, ?_, addS_sorted hs, ⟨Nat.le_trans (addS_len us a.f1) (by omega), by simp; omega, by omega⟩, h3, ⟨fun x hx => ?_, fun x hx => ?_, r3⟩, ⟨?_, ?_⟩, fun p hp => ?_⟩
   · have := addS_adds (u := a.f1) hs (fun x hx => Nat.le_trans (r1 x hx) ml30)
     rw [h1] at this
     exact this
   · rcases addS_mem hx with h | ⟨y, hy, h⟩
     · rw [h]; exact (hr a ham).1
     · rw [h]; exact r1 y hy
   · rcases List.mem_append.1 hx with hx | hx
     · exact r2 x hx
     · rw [List.mem_singleton.1 hx]; exact (hr a ham).1
   · rw [tot_append]; omega
   · rw [tot_append]; simp only [tot]; omega
   · have := he p hp
     rw [tot_append] at this
     rw [tot_append, tot_append, h4 p hp]
     simp only [tot]
     omega
 · rintro k us i o a ⟨hs, ⟨n1, n2, n3⟩, hnz, ⟨r1, r2, r3⟩, ⟨b1, b2⟩, he⟩ ha _
   have ham := List.mem_of_getElem? ha
   rcases hq : us.findIdx? fun x => !(a.f2.any fun y => le y x.f1) with _ | p
   · exact .inl ⟨hq, hs, ⟨by omega, by omega, by omega⟩, hnz, ⟨r1, r2, r3⟩, ⟨by omega, by omega⟩, he⟩
   · obtain ⟨hpl, hnp, _⟩ := List.findIdx?_eq_some_iff_getElem.1 hq
     have hx : us[p]? = some us[p] := List.getElem?_eq_getElem hpl
     have hxm := List.mem_of_getElem? hx
     have hcut := cut_perm hx
     have hA := rahead_f a.f2 us[p] (by have := (hr a ham).2; omega)
     rw [show (a.f2.any fun y => le y us[p].f1) = false by simpa using hnp] at hA
     have hall : ∀ f : S33 → Int, tot f ((o ++ [us[p]]) ++ us.eraseIdx p) = tot f (o ++ us) := by
      intro f
      have := tot_perm f hcut
      simp only [tot] at this
      rw [tot_append, tot_append, tot_append]
      simp only [tot]
      omega
     refine .inr ⟨p, us[p], hq, hx, hA, hnz _ hxm, erase_sorted p hs, ⟨?_, by omega, by simp; omega⟩, fun y hy => hnz y ((List.eraseIdx_sublist us _).subset hy), ⟨fun y hy => r1 y ((List.eraseIdx_sublist us _).subset hy), r2, fun y hy => ?_⟩, ⟨by rw [hall]; omega, by omega⟩, fun q hq => by rw [hall]; exact he q hq⟩
     · rw [List.length_eraseIdx]; split <;> omega
     · rcases List.mem_append.1 hy with hy | hy
       · exact r3 y hy
       · rw [List.mem_singleton.1 hy]; exact r1 _ hxm
 · rintro us i o ⟨hs, ⟨n1, n2, n3⟩, hnz, ⟨r1, r2, r3⟩, ⟨b1, b2⟩, he⟩
   have hou : ∀ u ∈ o ++ us, u.f0.length ≤ 30 := fun u hu => (List.mem_append.1 hu).elim (r3 u) (r1 u)
   obtain ⟨ra, a1, a2, a3⟩ := at_ok t i r2 (by omega) (by omega)
   obtain ⟨rb, c1, c2, _⟩ := at_ok t (o ++ us) hou (by omega) (by simp; omega)
   obtain ⟨m1, m2⟩ := norm_same a2 c2 (fun row => by rw [SS_cnt, SS_cnt]; exact he _ (atRow_resp t row))
   have hrow : ∀ x ∈ ra, x.f0.length ≤ 30 := fun x hx => by
    obtain ⟨j, y, hy, e⟩ := a2.mem x hx
    obtain ⟨u, hu, e2⟩ := cnt_row (List.mem_of_getElem? hy)
    rw [← e, ← e2]
    exact r2 u hu
   have hlen : ra.length ≤ 1000 := by omega
   obtain ⟨n, hn⟩ := counts_f ra rb m1 hlen hrow m2
   exact ⟨ra, rb, n, a1, c1, hn⟩
 · rintro k us i o ⟨_, _, _, ⟨r1, _, _⟩, _⟩ x hx
   have := r1 x hx
   omega
 · intro a ha
   have := hr a ha
   omega
end Go.Proofs.Ytednmkmhileikaa.G
