/- HoldPlays: what the printed functions answer, for each input, by plain mathematics. -/
import Derived.Test.YtednmkmhileikaaOHoldPlaysx
import Derived.Test.YtednmkmhileikaaEqPure
namespace Go.Proofs.Ytednmkmhileikaa.BHoldPlays
open Go.RowKit Go.Proofs.Ytednmkmhileikaa.PHoldPlays Go.Proofs.Ytednmkmhileikaa.EqPure Go.Proofs.YtednmkmhileikaaW.PrintWords Go.Proofs.YtednmkmhileikaaW.PrintLast Go.Proofs.YtednmkmhileikaaW.PrintMore
set_option linter.unusedVariables false
set_option linter.unusedSimpArgs false
attribute [local irreducible] IntKind.wrap Go.bits shr shl maxLen
abbrev Tm := S24
theorem tm_ext {a b : Tm} (h0 : a.f0 = b.f0) (h1 : a.f1 = b.f1) : a = b := by cases a; cases b; simp_all
theorem wrapi {i n : Nat} (h : i < n) (hn : n ≤ 8796093022208) : wrap64 ((i : Int) + 1) = ((i + 1 : Nat) : Int) := by
  have e : wrap64 ((i : Int) + 1) = ((i : Int) + 1 + 9223372036854775808) % 18446744073709551616 - 9223372036854775808 := by with_unfolding_all rfl
  rw [e]; omega
theorem rdT (l : List Tm) (i : Nat) (h : i < l.length) : rd_T24 l (i : Int) = l[i] := by unfold rd_T24; rw [Int.toNat_natCast, List.getD_eq_getElem?_getD, List.getElem?_eq_getElem h]; rfl
/-- Not behind, in either way. -/
def le (a b : Tm) : Prop := a.f0 ≤ b.f0 ∧ a.f1 ≤ b.f1
def lx (a b : Tm) : Prop := a.f0 < b.f0 ∨ a.f0 = b.f0 ∧ a.f1 < b.f1
def any (l : List Tm) (t : Tm) : Bool := l.any fun x => decide (x.f0 ≤ t.f0) && decide (x.f1 ≤ t.f1)
theorem any_iff {l : List Tm} {t : Tm} : any l t = true ↔ ∃ x ∈ l, le x t := by
  unfold any le
  simp [List.any_eq_true]
theorem any_false {l : List Tm} {t : Tm} (h : any l t = false) : ∀ x ∈ l, ¬ le x t := fun x hx hl => by
  have : any l t = true := any_iff.2 ⟨x, hx, hl⟩
  rw [h] at this; cases this
theorem le_refl (a : Tm) : le a a := ⟨Int.le_refl _, Int.le_refl _⟩
theorem le_trans {a b c : Tm} (h : le a b) (k : le b c) : le a c := ⟨Int.le_trans h.1 k.1, Int.le_trans h.2 k.2⟩
theorem le_antisymm {a b : Tm} (h : le a b) (k : le b a) : a = b := tm_ext (Int.le_antisymm h.1 k.1) (Int.le_antisymm h.2 k.2)
theorem lx_irrefl (a : Tm) : ¬ lx a a := by unfold lx; omega
theorem lx_trans {a b c : Tm} (h : lx a b) (k : lx b c) : lx a c := by unfold lx at *; omega
/-! the sort -/
theorem srt_perm (l : List Tm) : (srt l).Perm l := List.mergeSort_perm _ _
theorem srt_mem {l : List Tm} {x : Tm} : x ∈ srt l ↔ x ∈ l := (srt_perm l).mem_iff
theorem srt_len (l : List Tm) : (srt l).length = l.length := (srt_perm l).length_eq
theorem le_ord (x y : Tm) : (!(ltOf ordI y x)) = true ↔ ¬ lx y x := by
  rw [ltOrd, Bool.not_eq_true', decide_eq_false_iff_not]
  exact Iff.rfl
theorem srt_pair (l : List Tm) : (srt l).Pairwise fun a b => ¬ lx b a := by
  have h := List.pairwise_mergeSort (le := fun x y : Tm => !(ltOf ordI y x)) (fun a b c h1 h2 => by
    rw [le_ord] at *
    unfold lx at *; omega) (fun a b => by
    have h3 := le_ord a b
    have h4 := le_ord b a
    rw [Bool.or_eq_true, h3, h4]
    unfold lx; omega) l
  exact h.imp (fun {a b} hab => (le_ord a b).1 hab)
/-! the least ones -/
def scan : List Tm → List Tm → List Tm
  | acc, [] => acc
  | acc, t :: s => if any acc t = true then scan acc s else scan (acc ++ [t]) s
def lst (l : List Tm) : List Tm := scan [] (srt l)
theorem scan_sub : ∀ (s acc : List Tm), ∀ x ∈ acc, x ∈ scan acc s
  | [], acc, x, hx => hx
  | t :: s, acc, x, hx => by
    unfold scan
    split
    · exact scan_sub s acc x hx
    · exact scan_sub s _ x (List.mem_append_left _ hx)
theorem scan_mem : ∀ (s acc : List Tm), ∀ x ∈ scan acc s, x ∈ acc ∨ x ∈ s
  | [], acc, x, hx => .inl hx
  | t :: s, acc, x, hx => by
    unfold scan at hx
    split at hx
    · rcases scan_mem s acc x hx with h | h
      · exact .inl h
      · exact .inr (List.mem_cons_of_mem _ h)
    · rcases scan_mem s _ x hx with h | h
      · rcases List.mem_append.1 h with h | h
        · exact .inl h
        · rw [List.mem_singleton.1 h]; exact .inr List.mem_cons_self
      · exact .inr (List.mem_cons_of_mem _ h)
theorem scan_cov : ∀ (s acc : List Tm), ∀ t ∈ s, ∃ x ∈ scan acc s, le x t
  | [], acc, t, ht => by cases ht
  | u :: s, acc, t, ht => by
    unfold scan
    rcases List.mem_cons.1 ht with rfl | ht
    · split
      · rename_i h
        obtain ⟨x, hx, hl⟩ := any_iff.1 h
        exact ⟨x, scan_sub s acc x hx, hl⟩
      · exact ⟨t, scan_sub s _ t (by simp), le_refl t⟩
    · split
      · exact scan_cov s _ t ht
      · exact scan_cov s _ t ht
/-- Each stands behind the one ahead of it, and none is in advance of another one. -/
def Anti (l : List Tm) : Prop := l.Pairwise fun a b => lx a b ∧ ¬ le a b ∧ ¬ le b a
theorem scan_anti : ∀ (s acc : List Tm), Anti acc → (∀ x ∈ acc, ∀ t ∈ s, ¬ lx t x) → (s.Pairwise fun a b => ¬ lx b a) → Anti (scan acc s)
  | [], acc, ha, _, _ => ha
  | t :: s, acc, ha, hs, hp => by
    obtain ⟨h1, h2⟩ := List.pairwise_cons.1 hp
    unfold scan
    split
    · exact scan_anti s acc ha (fun x hx u hu => hs x hx u (List.mem_cons_of_mem _ hu)) h2
    · rename_i hn
      have hf := any_false (Bool.eq_false_iff.2 hn)
      refine scan_anti s _ ?_ ?_ h2
      · refine List.pairwise_append.2 ⟨ha, List.pairwise_singleton _ _, fun a haa b hb => ?_⟩
        rw [List.mem_singleton.1 hb]
        have h3 := hf a haa
        have h4 := hs a haa t List.mem_cons_self
        refine ⟨?_, h3, ?_⟩
        · unfold lx le at *; omega
        · unfold lx le at *; omega
      · intro x hx u hu
        rcases List.mem_append.1 hx with hx | hx
        · exact hs x hx u (List.mem_cons_of_mem _ hu)
        · rw [List.mem_singleton.1 hx]
          exact h1 u hu
theorem lst_mem {l : List Tm} {x : Tm} (h : x ∈ lst l) : x ∈ l := by
  rcases scan_mem _ _ x h with h | h
  · cases h
  · exact srt_mem.1 h
theorem lst_cov {l : List Tm} {t : Tm} (h : t ∈ l) : ∃ x ∈ lst l, le x t := scan_cov _ _ t (srt_mem.2 h)
theorem lst_anti (l : List Tm) : Anti (lst l) := scan_anti _ _ List.Pairwise.nil (fun x hx => by cases hx) (srt_pair l)
theorem anti_eq {l : List Tm} (h : Anti l) {a b : Tm} (ha : a ∈ l) (hb : b ∈ l) (hl : le a b) : a = b := by
  induction h with
  | nil => cases ha
  | cons h1 _ ih =>
    rcases List.mem_cons.1 ha with e1 | ha'
    · rcases List.mem_cons.1 hb with e2 | hb'
      · rw [e1, e2]
      · rw [e1] at hl; exact absurd hl (h1 _ hb').2.1
    · rcases List.mem_cons.1 hb with e2 | hb'
      · rw [e2] at hl; exact absurd hl (h1 _ ha').2.2
      · exact ih ha' hb'
def IsMin (l : List Tm) (t : Tm) : Prop := t ∈ l ∧ ∀ y ∈ l, le y t → y = t
theorem lst_iff {l : List Tm} {t : Tm} : t ∈ lst l ↔ IsMin l t := by
  constructor
  · intro h
    refine ⟨lst_mem h, fun y hy hl => ?_⟩
    obtain ⟨x, hx, hxy⟩ := lst_cov hy
    have e := anti_eq (lst_anti l) hx h (le_trans hxy hl)
    rw [e] at hxy
    exact le_antisymm hl hxy
  · rintro ⟨h1, h2⟩
    obtain ⟨x, hx, hxt⟩ := lst_cov h1
    rw [← h2 x (lst_mem hx) hxt]
    exact hx
/-- Two lists, each strictly in order, of the same times are one. -/
theorem sorted_eq : ∀ {l m : List Tm}, l.Pairwise lx → m.Pairwise lx → (∀ t, t ∈ l ↔ t ∈ m) → l = m
  | [], [], _, _, _ => rfl
  | [], b :: m, _, _, h => by have := (h b).2 List.mem_cons_self; cases this
  | a :: l, [], _, _, h => by have := (h a).1 List.mem_cons_self; cases this
  | a :: l, b :: m, hl, hm, h => by
    obtain ⟨h1, h2⟩ := List.pairwise_cons.1 hl
    obtain ⟨h3, h4⟩ := List.pairwise_cons.1 hm
    have e : a = b := by
      rcases List.mem_cons.1 ((h a).1 List.mem_cons_self) with e | e
      · exact e
      · rcases List.mem_cons.1 ((h b).2 List.mem_cons_self) with e' | e'
        · exact e'.symm
        · exact absurd (lx_trans (h3 a e) (h1 b e')) (lx_irrefl _)
    subst e
    rw [sorted_eq h2 h4 fun t => ⟨fun ht => ?_, fun ht => ?_⟩]
    · rcases List.mem_cons.1 ((h t).1 (List.mem_cons_of_mem _ ht)) with e | e
      · rw [e] at ht; exact absurd (h1 a ht) (lx_irrefl _)
      · exact e
    · rcases List.mem_cons.1 ((h t).2 (List.mem_cons_of_mem _ ht)) with e | e
      · rw [e] at ht; exact absurd (h3 a ht) (lx_irrefl _)
      · exact e
theorem anti_lx {l : List Tm} (h : Anti l) : l.Pairwise lx := h.imp (fun {a b} hab => hab.1)
theorem lst_unique {l m : List Tm} (h : m.Pairwise lx) (hm : ∀ t, t ∈ m ↔ IsMin l t) : lst l = m := sorted_eq (anti_lx (lst_anti l)) h fun t => lst_iff.trans (hm t).symm
theorem scan_len : ∀ (s acc : List Tm), (scan acc s).length ≤ acc.length + s.length
  | [], acc => by simp [scan]
  | t :: s, acc => by
    unfold scan
    split
    · have := scan_len s acc; simp; omega
    · have := scan_len s (acc ++ [t]); simp at this ⊢; omega
theorem lst_len (l : List Tm) : (lst l).length ≤ l.length := by
  have := scan_len (srt l) []
  rw [srt_len] at this
  simpa [lst] using this
/-! the printed functions -/
theorem ahead_l0 (l : List Tm) (t : Tm) (hs : ∀ x ∈ l, x.f0 ≤ t.f0) (hl : l.length ≤ 8796093022208) (d : Nat) : ∀ (k i : Nat), i + d = l.length → d < k →
    front_antichain_ahead.l0 k l (l.length : Int) (i : Int) t.f0 t.f1 = some (any (l.drop i) t) := by
  induction d with
  | zero =>
    intro k i hi hk
    obtain ⟨k, rfl⟩ : ∃ n, k = n + 1 := ⟨k - 1, by omega⟩
    simp only [front_antichain_ahead.l0]
    rw [if_neg (by omega), List.drop_of_length_le (by omega)]; rfl
  | succ d ih =>
    intro k i hi hk
    obtain ⟨k, rfl⟩ : ∃ n, k = n + 1 := ⟨k - 1, by omega⟩
    have hil : i < l.length := by omega
    have hx := hs l[i] (List.getElem_mem hil)
    simp only [front_antichain_ahead.l0]
    rw [if_pos (by omega), if_pos (by omega), if_pos (by omega), rdT l i hil, if_neg (by omega), wrapi hil hl, ih k (i + 1) (by omega) (by omega), List.drop_eq_getElem_cons hil]
    unfold any
    rw [List.any_cons]
    by_cases h : l[i].f1 ≤ t.f1
    · rw [if_pos h]; simp [h, hx]
    · rw [if_neg h]; simp [h]
theorem ahead_ev (l : List Tm) (t : Tm) (hs : ∀ x ∈ l, x.f0 ≤ t.f0) (hl : l.length ≤ 8796093022208) : ∀ k, l.length < k → front_antichain_ahead.f k l t.f0 t.f1 = some (any l t) := fun k hk => by
  have := ahead_l0 l t hs hl l.length k 0 (by omega) hk
  exact this
theorem new_l0 (s : List Tm) (hp : s.Pairwise fun a b => ¬ lx b a) (hl : s.length < 8796093022208) (d : Nat) : ∀ (k i : Nat) (acc : List Tm), i + d = s.length → acc.length ≤ i → (∀ x ∈ acc, ∀ t ∈ s.drop i, x.f0 ≤ t.f0) → s.length + d < k →
    front_New.l0 k acc s (s.length : Int) (i : Int) = some (scan acc (s.drop i)) := by
  induction d with
  | zero =>
    intro k i acc hi _ _ hk
    obtain ⟨k, rfl⟩ : ∃ n, k = n + 1 := ⟨k - 1, by omega⟩
    simp only [front_New.l0]
    rw [if_neg (by omega), List.drop_of_length_le (by omega)]; rfl
  | succ d ih =>
    intro k i acc hi ha hs hk
    obtain ⟨k, rfl⟩ : ∃ n, k = n + 1 := ⟨k - 1, by omega⟩
    have hil : i < s.length := by omega
    have hd := List.drop_eq_getElem_cons hil
    have hx : ∀ x ∈ acc, x.f0 ≤ s[i].f0 := fun x hx => hs x hx s[i] (by rw [hd]; exact List.mem_cons_self)
    have hpd : (s.drop i).Pairwise fun a b => ¬ lx b a := List.Pairwise.sublist (List.drop_sublist i s) hp
    rw [hd] at hpd
    obtain ⟨h1, _⟩ := List.pairwise_cons.1 hpd
    simp only [front_New.l0]
    rw [if_pos (by omega), if_pos (by omega), if_pos (by omega), rdT s i hil, ahead_ev acc s[i] hx (by omega) k (by omega), Option.bind_some, wrapi hil (by omega), hd]
    unfold scan
    by_cases h : any acc s[i] = true
    · rw [if_pos h, if_pos h]
      exact ih k (i + 1) acc (by omega) (by omega) (fun x hx' t ht => hs x hx' t (by rw [hd]; exact List.mem_cons_of_mem _ ht)) (by omega)
    · rw [if_neg h, if_neg h, if_pos (by omega)]
      refine ih k (i + 1) _ (by omega) (by simp; omega) (fun x hx' t ht => ?_) (by omega)
      rcases List.mem_append.1 hx' with h' | h'
      · exact hs x h' t (by rw [hd]; exact List.mem_cons_of_mem _ ht)
      · rw [List.mem_singleton.1 h']
        have := h1 t ht
        unfold lx at this
        show s[i].f0 ≤ t.f0
        omega
theorem New_ev (l : List Tm) (hl : l.length < 8796093022208) : Ev (fun k => front_New.f k l) (lst l) := by
  refine ⟨(srt l).length + (srt l).length + 1, fun k hk => ?_⟩
  unfold front_New.f api_Time.f
  simp only [Option.bind_some, List.length_nil, Nat.zero_add, List.nil_append]
  rw [if_pos hl, Option.bind_some]
  have := new_l0 (srt l) (srt_pair l) (by rw [srt_len]; exact hl) (srt l).length k 0 [] (by omega) (by simp) (fun x hx => by cases hx) (by omega)
  exact this
/-! the reference's list of the least ones -/
def ins : List Tm → Tm → List Tm
  | [], t => [t]
  | a :: s, t => if a.f0 < t.f0 ∨ a.f0 = t.f0 ∧ a.f1 < t.f1 then a :: ins s t else if a.f0 = t.f0 ∧ a.f1 = t.f1 then a :: s else t :: a :: s
theorem rorder (a b : Tm) : ∃ o : Int, runnelref04_Order.f a.f0 a.f1 b.f0 b.f1 = some o ∧ (o < 0 ↔ (a.f0 < b.f0 ∨ a.f0 = b.f0 ∧ a.f1 < b.f1)) := by
  unfold runnelref04_Order.f
  by_cases h : a.f0 = b.f0 ∧ a.f1 = b.f1
  · refine ⟨0, by rw [if_pos (by simp [h])], ?_⟩
    omega
  · rw [if_neg (by simpa using h)]
    by_cases h1 : a.f0 < b.f0
    · exact ⟨-1, by rw [if_pos h1], by omega⟩
    · rw [if_neg h1]
      by_cases h2 : a.f0 = b.f0
      · rw [if_pos h2]
        by_cases h3 : a.f1 < b.f1
        · exact ⟨-1, by rw [if_pos h3], by omega⟩
        · exact ⟨1, by rw [if_neg h3], by omega⟩
      · rw [if_neg h2]
        exact ⟨1, rfl, by omega⟩
theorem ins_mem {x t : Tm} : ∀ {l : List Tm}, x ∈ ins l t ↔ x ∈ l ∨ x = t
  | [] => by simp [ins]
  | a :: s => by
    unfold ins
    split
    · rw [List.mem_cons, ins_mem, List.mem_cons, or_assoc]
    · split
      · rename_i h
        have e : a = t := tm_ext h.1 h.2
        subst e
        constructor
        · exact .inl
        · rintro (h5 | h5)
          · exact h5
          · rw [h5]; exact List.mem_cons_self
      · rw [List.mem_cons, or_comm]
theorem ins_len (t : Tm) : ∀ l : List Tm, (ins l t).length ≤ l.length + 1
  | [] => by simp [ins]
  | a :: s => by
    unfold ins
    have := ins_len t s
    split
    · simp; omega
    · split <;> simp
theorem ins_sorted (t : Tm) : ∀ {l : List Tm}, l.Pairwise lx → (ins l t).Pairwise lx
  | [], _ => List.pairwise_singleton _ _
  | a :: s, h => by
    obtain ⟨h1, h2⟩ := List.pairwise_cons.1 h
    unfold ins
    split
    · rename_i hlt
      refine List.pairwise_cons.2 ⟨fun b hb => ?_, ins_sorted t h2⟩
      rcases ins_mem.1 hb with hb | hb
      · exact h1 b hb
      · rw [hb]; exact hlt
    · split
      · exact h
      · rename_i h3 h4
        have hta : lx t a := by unfold lx; omega
        refine List.pairwise_cons.2 ⟨fun b hb => ?_, h⟩
        rcases List.mem_cons.1 hb with hb | hb
        · rw [hb]; exact hta
        · exact lx_trans hta (h1 b hb)
theorem add_l0 (l : List Tm) (t : Tm) (hl : l.length < 4398046511104) (d : Nat) : ∀ (k i : Nat), i + d = l.length → d < k →
    runnelref04_Add.l0 k l (i : Int) t.f0 t.f1 = some (l.take i ++ ins (l.drop i) t) := by
  induction d with
  | zero =>
    intro k i hi hk
    obtain ⟨k, rfl⟩ : ∃ n, k = n + 1 := ⟨k - 1, by omega⟩
    simp only [runnelref04_Add.l0]
    rw [if_neg (by omega)]
    have h1 : ((i : Int)).toNat = i := Int.toNat_natCast i
    simp only [Option.bind_some, List.nil_append, h1, List.length_nil, Nat.zero_add]
    rw [if_pos (by omega), if_pos (by omega), List.take_of_length_le (by omega), List.drop_of_length_le (by omega), if_pos (by omega), if_pos (by omega), if_pos (by simp; omega)]
    simp [ins]
  | succ d ih =>
    intro k i hi hk
    obtain ⟨k, rfl⟩ : ∃ n, k = n + 1 := ⟨k - 1, by omega⟩
    have hil : i < l.length := by omega
    obtain ⟨o, ho, hlt⟩ := rorder l[i] t
    simp only [runnelref04_Add.l0]
    rw [if_pos (by omega), if_pos (by omega), rdT l i hil, ho, Option.bind_some]
    have hd := List.drop_eq_getElem_cons hil
    rw [hd]
    unfold ins
    by_cases h : l[i].f0 < t.f0 ∨ l[i].f0 = t.f0 ∧ l[i].f1 < t.f1
    · rw [if_pos (hlt.2 h), if_pos h, wrapi hil (by omega), ih k (i + 1) (by omega) (by omega), List.take_succ_eq_append_getElem hil, List.append_assoc]
      rfl
    · rw [if_neg (fun h' => h (hlt.1 h')), if_neg h]
      by_cases he : l[i].f0 = t.f0 ∧ l[i].f1 = t.f1
      · rw [if_pos (by simp [he]), if_pos he, ← hd, List.take_append_drop]
      · rw [if_neg (by simpa using he), if_neg he]
        have h1 : ((i : Int)).toNat = i := Int.toNat_natCast i
        simp only [Option.bind_some, List.nil_append, h1, List.length_nil, Nat.zero_add]
        rw [if_pos (by omega), if_pos (by rw [List.length_take]; omega), if_pos (by rw [List.length_take]; omega), if_pos (by rw [List.length_append, List.length_take, List.length_drop]; simp only [List.length_singleton]; omega)]
        rw [hd, List.append_assoc]
        rfl
theorem add_f (l : List Tm) (t : Tm) (hl : l.length < 4398046511104) : Ev (fun k => runnelref04_Add.f k l t.f0 t.f1) (ins l t) := ⟨l.length + 1, fun k hk => by
  have := add_l0 l t hl l.length k 0 (by omega) (by omega)
  rw [List.take_zero, List.drop_zero, List.nil_append] at this
  exact this⟩
/-- Is it not in advance of another one? -/
def tst (t y : Tm) : Bool := (y.f0 == t.f0 && y.f1 == t.f1) || !(decide (y.f0 ≤ t.f0) && decide (y.f1 ≤ t.f1))
def isMinB (l : List Tm) (t : Tm) : Bool := l.all (tst t)
theorem isMinB_iff {l : List Tm} {t : Tm} (ht : t ∈ l) : isMinB l t = true ↔ IsMin l t := by
  unfold isMinB IsMin
  rw [List.all_eq_true]
  constructor
  · intro h
    refine ⟨ht, fun y hy hl => ?_⟩
    have h1 := h y hy
    unfold tst at h1
    rw [decide_eq_true hl.1, decide_eq_true hl.2] at h1
    simp at h1
    exact tm_ext h1.1 h1.2
  · rintro ⟨_, h⟩ y hy
    unfold tst
    by_cases hl : le y t
    · rw [h y hy hl]; simp
    · have : (decide (y.f0 ≤ t.f0) && decide (y.f1 ≤ t.f1)) = false := by
        unfold le at hl
        rw [Bool.and_eq_false_iff, decide_eq_false_iff_not, decide_eq_false_iff_not]
        omega
      rw [this]; simp
def nfold (l : List Tm) : List Tm → List Tm → List Tm
  | acc, [] => acc
  | acc, t :: s => if isMinB l t = true then nfold l (ins acc t) s else nfold l acc s
theorem nfold_mem (l : List Tm) {x : Tm} : ∀ {s acc : List Tm}, x ∈ nfold l acc s ↔ x ∈ acc ∨ x ∈ s ∧ isMinB l x = true
  | [], acc => by simp [nfold]
  | t :: s, acc => by
    unfold nfold
    split
    · rename_i h
      rw [nfold_mem l, ins_mem, List.mem_cons]
      constructor
      · rintro ((h1 | h1) | h1)
        · exact .inl h1
        · exact .inr ⟨.inl h1, by rw [h1]; exact h⟩
        · exact .inr ⟨.inr h1.1, h1.2⟩
      · rintro (h1 | ⟨h1 | h1, h2⟩)
        · exact .inl (.inl h1)
        · exact .inl (.inr h1)
        · exact .inr ⟨h1, h2⟩
    · rename_i h
      rw [nfold_mem l, List.mem_cons]
      constructor
      · rintro (h1 | h1)
        · exact .inl h1
        · exact .inr ⟨.inr h1.1, h1.2⟩
      · rintro (h1 | ⟨h1 | h1, h2⟩)
        · exact .inl h1
        · rw [h1] at h2; exact absurd h2 h
        · exact .inr ⟨h1, h2⟩
theorem nfold_sorted (l : List Tm) : ∀ {s acc : List Tm}, acc.Pairwise lx → (nfold l acc s).Pairwise lx
  | [], _, h => h
  | t :: s, acc, h => by
    unfold nfold
    split
    · exact nfold_sorted l (ins_sorted t h)
    · exact nfold_sorted l h
theorem nfold_lst (l : List Tm) : nfold l [] l = lst l := (lst_unique (nfold_sorted l List.Pairwise.nil) fun t => (nfold_mem l).trans ⟨fun h => by
  rcases h with h | h
  · cases h
  · exact (isMinB_iff h.1).1 h.2, fun h => .inr ⟨h.1, (isMinB_iff h.1).2 h⟩⟩).symm
theorem l1_ev (l acc : List Tm) (i : Nat) (hi : i < l.length) (hl : l.length ≤ 1099511627776) (ha : acc.length ≤ i) {R1 R0 : List Tm} (H1 : Ev (fun k => runnelref05_New.l0 k l (ins acc l[i]) ((i + 1 : Nat) : Int)) R1) (H0 : Ev (fun k => runnelref05_New.l0 k l acc ((i + 1 : Nat) : Int)) R0) (d : Nat) :
    ∀ (j : Nat) (b : Bool), j + d = l.length → Ev (fun k => runnelref05_New.l1 k l acc (i : Int) b (j : Int)) (if (b && (l.drop j).all (tst l[i])) = true then R1 else R0) := by
  induction d with
  | zero =>
    intro j b hj
    have hd : l.drop j = [] := List.drop_of_length_le (by omega)
    rw [hd, List.all_nil, Bool.and_true]
    cases b with
    | true =>
      refine Ev.step (f := fun k => (runnelref04_Add.f k acc l[i].f0 l[i].f1).bind fun t => runnelref05_New.l0 k l t ((i + 1 : Nat) : Int)) (fun k => ?_) ?_
      · simp only [runnelref05_New.l1]
        rw [if_neg (by omega), if_pos trivial, if_pos (by omega), if_pos (by omega), rdT l i hi, wrapi hi (by omega)]
      · exact Ev.bind (add_f acc l[i] (by omega)) H1
    | false =>
      refine Ev.step (f := fun k => runnelref05_New.l0 k l acc ((i + 1 : Nat) : Int)) (fun k => ?_) ?_
      · simp only [runnelref05_New.l1]
        rw [if_neg (by omega), if_neg (by simp), wrapi hi (by omega)]
      · exact H0
  | succ d ih =>
    intro j b hj
    have hjl : j < l.length := by omega
    rw [List.drop_eq_getElem_cons hjl, List.all_cons]
    cases b with
    | true =>
      rw [Bool.true_and]
      by_cases he : l[j].f0 = l[i].f0 ∧ l[j].f1 = l[i].f1
      · have ht : tst l[i] l[j] = true := by unfold tst; simp [he]
        rw [ht]
        refine Ev.step (f := fun k => runnelref05_New.l1 k l acc (i : Int) true ((j + 1 : Nat) : Int)) (fun k => ?_) (ih (j + 1) true (by omega))
        simp only [runnelref05_New.l1]
        rw [if_pos (by omega), if_pos trivial, if_pos (by omega), if_pos (by omega), if_pos (by omega), rdT l i hi, rdT l j hjl, if_pos (by simp [he]), wrapi hjl (by omega)]
      · have ht : tst l[i] l[j] = !(decide (l[j].f0 ≤ l[i].f0) && decide (l[j].f1 ≤ l[i].f1)) := by
          unfold tst
          have : (l[j].f0 == l[i].f0 && l[j].f1 == l[i].f1) = false := by simpa using he
          rw [this, Bool.false_or]
        rw [ht]
        refine Ev.step (f := fun k => runnelref05_New.l1 k l acc (i : Int) (!(decide (l[j].f0 ≤ l[i].f0) && decide (l[j].f1 ≤ l[i].f1))) ((j + 1 : Nat) : Int)) (fun k => ?_) (ih (j + 1) _ (by omega))
        simp only [runnelref05_New.l1]
        rw [if_pos (by omega), if_pos trivial, if_pos (by omega), if_pos (by omega), if_pos (by omega), rdT l i hi, rdT l j hjl, if_neg (by simpa using he), wrapi hjl (by omega)]
        unfold runnelref04_LessEq.f
        by_cases h : l[j].f0 ≤ l[i].f0
        · rw [if_pos h]; simp [h]
        · rw [if_neg h]; simp [h]
    | false =>
      rw [Bool.false_and]
      have := ih (j + 1) false (by omega)
      rw [Bool.false_and] at this
      refine Ev.step (f := fun k => runnelref05_New.l1 k l acc (i : Int) false ((j + 1 : Nat) : Int)) (fun k => ?_) this
      simp only [runnelref05_New.l1]
      rw [if_pos (by omega), if_neg (by simp), wrapi hjl (by omega)]
theorem n0_ev (l : List Tm) (hl : l.length ≤ 1099511627776) (d : Nat) : ∀ (i : Nat) (acc : List Tm), i + d = l.length → acc.length ≤ i → Ev (fun k => runnelref05_New.l0 k l acc (i : Int)) (nfold l acc (l.drop i)) := by
  induction d with
  | zero =>
    intro i acc hi ha
    rw [List.drop_of_length_le (by omega)]
    refine Ev.step (f := fun _ => some acc) (fun k => ?_) (Ev.now acc)
    simp only [runnelref05_New.l0]
    rw [if_neg (by omega)]
  | succ d ih =>
    intro i acc hi ha
    have hil : i < l.length := by omega
    have H := l1_ev l acc i hil hl ha (ih (i + 1) (ins acc l[i]) (by omega) (by have := ins_len l[i] acc; omega)) (ih (i + 1) acc (by omega) (by omega)) l.length 0 true (by omega)
    rw [Bool.true_and, List.drop_zero] at H
    rw [List.drop_eq_getElem_cons hil]
    refine Ev.step (f := fun k => runnelref05_New.l1 k l acc (i : Int) true ((0 : Nat) : Int)) (fun k => ?_) H
    simp only [runnelref05_New.l0]
    rw [if_pos (by omega)]
    rfl
theorem RNew_ev (l : List Tm) (hl : l.length ≤ 1099511627776) : Ev (fun k => runnelref05_New.f k l) (lst l) := by
  have := n0_ev l hl l.length 0 [] (by omega) (by simp)
  rw [List.drop_zero, nfold_lst] at this
  exact this
/-! alike, place by place -/
def tk (x : Tm) : Int × Int := (x.f0, x.f1)
theorem tm_test (a b : Tm) : (!(a.f0 == b.f0) || !(a.f1 == b.f1)) = !decide (tk a = tk b) := by
  unfold tk
  by_cases h0 : a.f0 = b.f0
  · by_cases h1 : a.f1 = b.f1
    · simp [h0, h1]
    · simp [h0, h1]
  · simp [h0]
theorem rsame_l0 (l m : List Tm) (hl : l.length ≤ 8796093022208) (he : l.length = m.length) (d : Nat) : ∀ (k i : Nat), i + d = l.length → d < k →
    runnelref04_Same.l0 k l m (i : Int) = some (decide ((l.drop i).map tk = (m.drop i).map tk)) := by
  induction d with
  | zero =>
    intro k i hi hk
    obtain ⟨k, rfl⟩ : ∃ n, k = n + 1 := ⟨k - 1, by omega⟩
    simp only [runnelref04_Same.l0]
    rw [if_neg (by omega), decide_end tk l m i (by omega) (by omega)]
  | succ d ih =>
    intro k i hi hk
    obtain ⟨k, rfl⟩ : ∃ n, k = n + 1 := ⟨k - 1, by omega⟩
    simp only [runnelref04_Same.l0]
    rw [if_pos (by omega), if_pos (by omega), if_pos (by omega), rdT l i (by omega), rdT m i (by omega), tm_test, wrapi (n := l.length) (by omega) hl, ih k (i + 1) (by omega) (by omega), decide_step tk l m i (by omega) (by omega)]
    by_cases h : tk (l[i]'(by omega)) = tk (m[i]'(by omega))
    · rw [if_neg (by simp [h]), decide_eq_true h]; rfl
    · rw [if_pos (by simp [h]), decide_eq_false h]; rfl
theorem RSame_ev (l m : List Tm) (hl : l.length ≤ 8796093022208) : Ev (fun k => runnelref04_Same.f k l m) (decide (l.map tk = m.map tk)) := by
  refine ⟨l.length + 1, fun k hk => ?_⟩
  unfold runnelref04_Same.f
  by_cases h : l.length = m.length
  · dsimp only
    rw [if_pos (by omega)]
    have := rsame_l0 l m hl h l.length k 0 (by omega) hk
    exact this
  · dsimp only
    rw [if_neg (by omega), decide_len tk l m h]
theorem RSame_refl (l : List Tm) (hl : l.length ≤ 8796093022208) : Ev (fun k => runnelref04_Same.f k l l) true := by
  have := RSame_ev l l hl
  rwa [decide_eq_true rfl] at this
end Go.Proofs.Ytednmkmhileikaa.BHoldPlays
