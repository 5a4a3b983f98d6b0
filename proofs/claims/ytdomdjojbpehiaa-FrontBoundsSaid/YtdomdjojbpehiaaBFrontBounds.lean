/- FrontBounds: what the printed functions answer, for each input, by plain mathematics. -/
import Derived.Test.YtdomdjojbpehiaaOFrontBoundsx
import Derived.Test.YtdomdjojbpehiaaEqPure
namespace Go.Proofs.Ytdomdjojbpehiaa.BFrontBounds
open Go.RowKit Go.Proofs.Ytdomdjojbpehiaa.PFrontBounds Go.Proofs.Ytdomdjojbpehiaa.EqPure Go.Proofs.YtdomdjojbpehiaaW.PrintWords Go.Proofs.YtdomdjojbpehiaaW.PrintLast Go.Proofs.YtdomdjojbpehiaaW.PrintMore
set_option linter.unusedVariables false
set_option linter.unusedSimpArgs false
attribute [local irreducible] IntKind.wrap Go.bits shr shl maxLen
abbrev Tm := S24
theorem tm_ext {a b : Tm} (h0 : a.f0 = b.f0) (h1 : a.f1 = b.f1) : a = b := by cases a; cases b; simp_all
theorem wrapi {i n : Nat} (h : i < n) (hn : n ≤ 8796093022208) : wrap64 ((i : Int) + 1) = ((i + 1 : Nat) : Int) := by
  have e : wrap64 ((i : Int) + 1) = ((i : Int) + 1 + 9223372036854775808) % 18446744073709551616 - 9223372036854775808 := by with_unfolding_all rfl
  rw [e]; omega
theorem rdT (l : List Tm) (i : Nat) (h : i < l.length) : rd_T24 l (i : Int) = l[i] := by unfold rd_T24; rw [Int.toNat_natCast, List.getD_eq_getElem?_getD, List.getElem?_eq_getElem h]; rfl
/-- Not behind, in either way. -/
def le (a b : Tm) : Prop := a.f0 ≤ b.f0 ∧ a.f1 ≤ b.f1
def lx (a b : Tm) : Prop := a.f0 < b.f0 ∨ a.f0 = b.f0 ∧ a.f1 < b.f1
def any (l : List Tm) (t : Tm) : Bool := l.any fun x => decide (x.f0 ≤ t.f0) && decide (x.f1 ≤ t.f1)
theorem any_iff {l : List Tm} {t : Tm} : any l t = true ↔ ∃ x ∈ l, le x t := by
  unfold any le
  simp [List.any_eq_true]
theorem any_false {l : List Tm} {t : Tm} (h : any l t = false) : ∀ x ∈ l, ¬ le x t := fun x hx hl => by
  have : any l t = true := any_iff.2 ⟨x, hx, hl⟩
  rw [h] at this; cases this
theorem le_refl (a : Tm) : le a a := ⟨Int.le_refl _, Int.le_refl _⟩
theorem le_trans {a b c : Tm} (h : le a b) (k : le b c) : le a c := ⟨Int.le_trans h.1 k.1, Int.le_trans h.2 k.2⟩
theorem le_antisymm {a b : Tm} (h : le a b) (k : le b a) : a = b := tm_ext (Int.le_antisymm h.1 k.1) (Int.le_antisymm h.2 k.2)
theorem lx_irrefl (a : Tm) : ¬ lx a a := by unfold lx; omega
theorem lx_trans {a b c : Tm} (h : lx a b) (k : lx b c) : lx a c := by unfold lx at *; omega
theorem lx_total {a b : Tm} (h : ¬ lx a b) (k : ¬ lx b a) : a = b := by
  unfold lx at *
  exact tm_ext (by omega) (by omega)
/-! the sort -/
theorem srt_perm (l : List Tm) : (srt l).Perm l := List.mergeSort_perm _ _
theorem srt_mem {l : List Tm} {x : Tm} : x ∈ srt l ↔ x ∈ l := (srt_perm l).mem_iff
theorem srt_len (l : List Tm) : (srt l).length = l.length := (srt_perm l).length_eq
theorem le_ord (x y : Tm) : (!(ltOf ordI y x)) = true ↔ ¬ lx y x := by
  rw [ltOrd, Bool.not_eq_true', decide_eq_false_iff_not]
  exact Iff.rfl
theorem srt_pair (l : List Tm) : (srt l).Pairwise fun a b => ¬ lx b a := by
  have h := List.pairwise_mergeSort (le := fun x y : Tm => !(ltOf ordI y x)) (fun a b c h1 h2 => by
    rw [le_ord] at *
    unfold lx at *; omega) (fun a b => by
    have h3 := le_ord a b
    have h4 := le_ord b a
    rw [Bool.or_eq_true, h3, h4]
    unfold lx; omega) l
  exact h.imp (fun {a b} hab => (le_ord a b).1 hab)
/-! the least ones -/
def scan : List Tm → List Tm → List Tm
  | acc, [] => acc
  | acc, t :: s => if any acc t = true then scan acc s else scan (acc ++ [t]) s
def lst (l : List Tm) : List Tm := scan [] (srt l)
theorem scan_sub : ∀ (s acc : List Tm), ∀ x ∈ acc, x ∈ scan acc s
  | [], acc, x, hx => hx
  | t :: s, acc, x, hx => by
    unfold scan
    split
    · exact scan_sub s acc x hx
    · exact scan_sub s _ x (List.mem_append_left _ hx)
theorem scan_mem : ∀ (s acc : List Tm), ∀ x ∈ scan acc s, x ∈ acc ∨ x ∈ s
  | [], acc, x, hx => .inl hx
  | t :: s, acc, x, hx => by
    unfold scan at hx
    split at hx
    · rcases scan_mem s acc x hx with h | h
      · exact .inl h
      · exact .inr (List.mem_cons_of_mem _ h)
    · rcases scan_mem s _ x hx with h | h
      · rcases List.mem_append.1 h with h | h
        · exact .inl h
        · rw [List.mem_singleton.1 h]; exact .inr List.mem_cons_self
      · exact .inr (List.mem_cons_of_mem _ h)
theorem scan_cov : ∀ (s acc : List Tm), ∀ t ∈ s, ∃ x ∈ scan acc s, le x t
  | [], acc, t, ht => by cases ht
  | u :: s, acc, t, ht => by
    unfold scan
    rcases List.mem_cons.1 ht with rfl | ht
    · split
      · rename_i h
        obtain ⟨x, hx, hl⟩ := any_iff.1 h
        exact ⟨x, scan_sub s acc x hx, hl⟩
      · exact ⟨t, scan_sub s _ t (by simp), le_refl t⟩
    · split
      · exact scan_cov s _ t ht
      · exact scan_cov s _ t ht
/-- Each stands behind the one ahead of it, and none is in advance of another one. -/
def Anti (l : List Tm) : Prop := l.Pairwise fun a b => lx a b ∧ ¬ le a b ∧ ¬ le b a
theorem scan_anti : ∀ (s acc : List Tm), Anti acc → (∀ x ∈ acc, ∀ t ∈ s, ¬ lx t x) → (s.Pairwise fun a b => ¬ lx b a) → Anti (scan acc s)
  | [], acc, ha, _, _ => ha
  | t :: s, acc, ha, hs, hp => by
    obtain ⟨h1, h2⟩ := List.pairwise_cons.1 hp
    unfold scan
    split
    · exact scan_anti s acc ha (fun x hx u hu => hs x hx u (List.mem_cons_of_mem _ hu)) h2
    · rename_i hn
      have hf := any_false (Bool.eq_false_iff.2 hn)
      refine scan_anti s _ ?_ ?_ h2
      · refine List.pairwise_append.2 ⟨ha, List.pairwise_singleton _ _, fun a haa b hb => ?_⟩
        rw [List.mem_singleton.1 hb]
        have h3 := hf a haa
        have h4 := hs a haa t List.mem_cons_self
        refine ⟨?_, h3, ?_⟩
        · unfold lx le at *; omega
        · unfold lx le at *; omega
      · intro x hx u hu
        rcases List.mem_append.1 hx with hx | hx
        · exact hs x hx u (List.mem_cons_of_mem _ hu)
        · rw [List.mem_singleton.1 hx]
          exact h1 u hu
theorem lst_mem {l : List Tm} {x : Tm} (h : x ∈ lst l) : x ∈ l := by
  rcases scan_mem _ _ x h with h | h
  · cases h
  · exact srt_mem.1 h
theorem lst_cov {l : List Tm} {t : Tm} (h : t ∈ l) : ∃ x ∈ lst l, le x t := scan_cov _ _ t (srt_mem.2 h)
theorem lst_anti (l : List Tm) : Anti (lst l) := scan_anti _ _ List.Pairwise.nil (fun x hx => by cases hx) (srt_pair l)
theorem anti_eq {l : List Tm} (h : Anti l) {a b : Tm} (ha : a ∈ l) (hb : b ∈ l) (hl : le a b) : a = b := by
  induction h with
  | nil => cases ha
  | cons h1 _ ih =>
    rcases List.mem_cons.1 ha with e1 | ha'
    · rcases List.mem_cons.1 hb with e2 | hb'
      · rw [e1, e2]
      · rw [e1] at hl; exact absurd hl (h1 _ hb').2.1
    · rcases List.mem_cons.1 hb with e2 | hb'
      · rw [e2] at hl; exact absurd hl (h1 _ ha').2.2
      · exact ih ha' hb'
def IsMin (l : List Tm) (t : Tm) : Prop := t ∈ l ∧ ∀ y ∈ l, le y t → y = t
theorem lst_iff {l : List Tm} {t : Tm} : t ∈ lst l ↔ IsMin l t := by
  constructor
  · intro h
    refine ⟨lst_mem h, fun y hy hl => ?_⟩
    obtain ⟨x, hx, hxy⟩ := lst_cov hy
    have e := anti_eq (lst_anti l) hx h (le_trans hxy hl)
    rw [e] at hxy
    exact le_antisymm hl hxy
  · rintro ⟨h1, h2⟩
    obtain ⟨x, hx, hxt⟩ := lst_cov h1
    rw [← h2 x (lst_mem hx) hxt]
    exact hx
/-- Two lists, each strictly in order, of the same times are one. -/
theorem sorted_eq : ∀ {l m : List Tm}, l.Pairwise lx → m.Pairwise lx → (∀ t, t ∈ l ↔ t ∈ m) → l = m
  | [], [], _, _, _ => rfl
  | [], b :: m, _, _, h => by have := (h b).2 List.mem_cons_self; cases this
  | a :: l, [], _, _, h => by have := (h a).1 List.mem_cons_self; cases this
  | a :: l, b :: m, hl, hm, h => by
    obtain ⟨h1, h2⟩ := List.pairwise_cons.1 hl
    obtain ⟨h3, h4⟩ := List.pairwise_cons.1 hm
    have e : a = b := by
      rcases List.mem_cons.1 ((h a).1 List.mem_cons_self) with e | e
      · exact e
      · rcases List.mem_cons.1 ((h b).2 List.mem_cons_self) with e' | e'
        · exact e'.symm
        · exact absurd (lx_trans (h3 a e) (h1 b e')) (lx_irrefl _)
    subst e
    rw [sorted_eq h2 h4 fun t => ⟨fun ht => ?_, fun ht => ?_⟩]
    · rcases List.mem_cons.1 ((h t).1 (List.mem_cons_of_mem _ ht)) with e | e
      · rw [e] at ht; exact absurd (h1 a ht) (lx_irrefl _)
      · exact e
    · rcases List.mem_cons.1 ((h t).2 (List.mem_cons_of_mem _ ht)) with e | e
      · rw [e] at ht; exact absurd (h3 a ht) (lx_irrefl _)
      · exact e
theorem anti_lx {l : List Tm} (h : Anti l) : l.Pairwise lx := h.imp (fun {a b} hab => hab.1)
theorem lst_unique {l m : List Tm} (h : m.Pairwise lx) (hm : ∀ t, t ∈ m ↔ IsMin l t) : lst l = m := sorted_eq (anti_lx (lst_anti l)) h fun t => lst_iff.trans (hm t).symm
theorem lst_lst (l : List Tm) : lst (lst l) = lst l := lst_unique (anti_lx (lst_anti l)) fun t => ⟨fun h => ⟨h, fun y hy hl => anti_eq (lst_anti l) hy h hl⟩, fun h => h.1⟩
theorem any_lst (l : List Tm) (t : Tm) : any (lst l) t = any l t := by
  rw [Bool.eq_iff_iff, any_iff, any_iff]
  constructor
  · rintro ⟨x, hx, h⟩; exact ⟨x, lst_mem hx, h⟩
  · rintro ⟨x, hx, h⟩
    obtain ⟨y, hy, h'⟩ := lst_cov hx
    exact ⟨y, hy, le_trans h' h⟩
theorem scan_len : ∀ (s acc : List Tm), (scan acc s).length ≤ acc.length + s.length
  | [], acc => by simp [scan]
  | t :: s, acc => by
    unfold scan
    split
    · have := scan_len s acc; simp; omega
    · have := scan_len s (acc ++ [t]); simp at this ⊢; omega
theorem lst_len (l : List Tm) : (lst l).length ≤ l.length := by
  have := scan_len (srt l) []
  rw [srt_len] at this
  simpa [lst] using this
/-! the printed functions -/
theorem ahead_l0 (l : List Tm) (t : Tm) (hs : ∀ x ∈ l, x.f0 ≤ t.f0) (hl : l.length ≤ 8796093022208) (d : Nat) : ∀ (k i : Nat), i + d = l.length → d < k →
    front_antichain_ahead.l0 k l (l.length : Int) (i : Int) t.f0 t.f1 = some (any (l.drop i) t) := by
  induction d with
  | zero =>
    intro k i hi hk
    obtain ⟨k, rfl⟩ : ∃ n, k = n + 1 := ⟨k - 1, by omega⟩
    simp only [front_antichain_ahead.l0]
    rw [if_neg (by omega), List.drop_of_length_le (by omega)]; rfl
  | succ d ih =>
    intro k i hi hk
    obtain ⟨k, rfl⟩ : ∃ n, k = n + 1 := ⟨k - 1, by omega⟩
    have hil : i < l.length := by omega
    have hx := hs l[i] (List.getElem_mem hil)
    simp only [front_antichain_ahead.l0]
    rw [if_pos (by omega), if_pos (by omega), if_pos (by omega), rdT l i hil, if_neg (by omega), wrapi hil hl, ih k (i + 1) (by omega) (by omega), List.drop_eq_getElem_cons hil]
    unfold any
    rw [List.any_cons]
    by_cases h : l[i].f1 ≤ t.f1
    · rw [if_pos h]; simp [h, hx]
    · rw [if_neg h]; simp [h]
theorem ahead_ev (l : List Tm) (t : Tm) (hs : ∀ x ∈ l, x.f0 ≤ t.f0) (hl : l.length ≤ 8796093022208) : ∀ k, l.length < k → front_antichain_ahead.f k l t.f0 t.f1 = some (any l t) := fun k hk => by
  have := ahead_l0 l t hs hl l.length k 0 (by omega) hk
  exact this
theorem new_l0 (s : List Tm) (hp : s.Pairwise fun a b => ¬ lx b a) (hl : s.length < 8796093022208) (d : Nat) : ∀ (k i : Nat) (acc : List Tm), i + d = s.length → acc.length ≤ i → (∀ x ∈ acc, ∀ t ∈ s.drop i, x.f0 ≤ t.f0) → s.length + d < k →
    front_New.l0 k acc s (s.length : Int) (i : Int) = some (scan acc (s.drop i)) := by
  induction d with
  | zero =>
    intro k i acc hi _ _ hk
    obtain ⟨k, rfl⟩ : ∃ n, k = n + 1 := ⟨k - 1, by omega⟩
    simp only [front_New.l0]
    rw [if_neg (by omega), List.drop_of_length_le (by omega)]; rfl
  | succ d ih =>
    intro k i acc hi ha hs hk
    obtain ⟨k, rfl⟩ : ∃ n, k = n + 1 := ⟨k - 1, by omega⟩
    have hil : i < s.length := by omega
    have hd := List.drop_eq_getElem_cons hil
    have hx : ∀ x ∈ acc, x.f0 ≤ s[i].f0 := fun x hx => hs x hx s[i] (by rw [hd]; exact List.mem_cons_self)
    have hpd : (s.drop i).Pairwise fun a b => ¬ lx b a := List.Pairwise.sublist (List.drop_sublist i s) hp
    rw [hd] at hpd
    obtain ⟨h1, _⟩ := List.pairwise_cons.1 hpd
    simp only [front_New.l0]
    rw [if_pos (by omega), if_pos (by omega), if_pos (by omega), rdT s i hil, ahead_ev acc s[i] hx (by omega) k (by omega), Option.bind_some, wrapi hil (by omega), hd]
    unfold scan
    by_cases h : any acc s[i] = true
    · rw [if_pos h, if_pos h]
      exact ih k (i + 1) acc (by omega) (by omega) (fun x hx' t ht => hs x hx' t (by rw [hd]; exact List.mem_cons_of_mem _ ht)) (by omega)
    · rw [if_neg h, if_neg h, if_pos (by omega)]
      refine ih k (i + 1) _ (by omega) (by simp; omega) (fun x hx' t ht => ?_) (by omega)
      rcases List.mem_append.1 hx' with h' | h'
      · exact hs x h' t (by rw [hd]; exact List.mem_cons_of_mem _ ht)
      · rw [List.mem_singleton.1 h']
        have := h1 t ht
        unfold lx at this
        show s[i].f0 ≤ t.f0
        omega
theorem New_ev (l : List Tm) (hl : l.length < 8796093022208) : Ev (fun k => front_New.f k l) (lst l) := by
  refine ⟨(srt l).length + (srt l).length + 1, fun k hk => ?_⟩
  unfold front_New.f api_Time.f
  simp only [Option.bind_some, List.length_nil, Nat.zero_add, List.nil_append]
  rw [if_pos hl, Option.bind_some]
  have := new_l0 (srt l) (srt_pair l) (by rw [srt_len]; exact hl) (srt l).length k 0 [] (by omega) (by simp) (fun x hx => by cases hx) (by omega)
  exact this
/-! what stands for a time -/
def join (a b : Tm) : Tm := ⟨mx a.f0 b.f0, mx a.f1 b.f1⟩
def meet (a b : Tm) : Tm := ⟨mn a.f0 b.f0, mn a.f1 b.f1⟩
def rfold (t : Tm) (o : Tm) (l : List Tm) : Tm := l.foldl (fun o x => meet o (join t x)) o
def rep (l : List Tm) (t : Tm) : Tm := match l with
  | [] => ⟨0, 0⟩
  | a :: s => rfold t (join t a) s
theorem Rep_l0 (l : List Tm) (t : Tm) (hl : l.length ≤ 8796093022208) (d : Nat) : ∀ (k i : Nat) (o : Tm), i + d = l.length → d < k →
    front_Rep.l0 k l (l.length : Int) (i : Int) t.f0 t.f1 o.f0 o.f1 = some ((rfold t o (l.drop i)).f0, (rfold t o (l.drop i)).f1) := by
  induction d with
  | zero =>
    intro k i o hi hk
    obtain ⟨k, rfl⟩ : ∃ n, k = n + 1 := ⟨k - 1, by omega⟩
    simp only [front_Rep.l0]
    rw [if_neg (by omega), List.drop_of_length_le (by omega)]; rfl
  | succ d ih =>
    intro k i o hi hk
    obtain ⟨k, rfl⟩ : ∃ n, k = n + 1 := ⟨k - 1, by omega⟩
    have hil : i < l.length := by omega
    simp only [front_Rep.l0]
    rw [if_pos (by omega), if_pos (by omega), if_pos (by omega), rdT l i hil, wrapi hil hl, List.drop_eq_getElem_cons hil]
    unfold moment_Join.f moment_Meet.f
    rw [Option.bind_some, Option.bind_some]
    exact ih k (i + 1) (meet o (join t l[i])) (by omega) (by omega)
theorem Rep_ev (l : List Tm) (t : Tm) (hl : l.length ≤ 8796093022208) : Ev (fun k => front_Rep.f k l t.f0 t.f1) ((rep l t).f0, (rep l t).f1) := by
  refine ⟨l.length + 1, fun k hk => ?_⟩
  unfold front_Rep.f
  cases l with
  | nil => rfl
  | cons a s =>
    have h0 : ¬ (((a :: s).length : Int) = 0) := by simp only [List.length_cons]; omega
    have h1 : 0 < ((a :: s).length : Int) := by simp only [List.length_cons]; omega
    have h2 : 1 ≤ ((a :: s).length : Int) := by simp only [List.length_cons]; omega
    dsimp only
    rw [if_neg h0, if_pos h1]
    unfold moment_Join.f
    rw [Option.bind_some]
    dsimp only
    rw [if_pos h2, Option.bind_some]
    have hs : s.length ≤ 8796093022208 := by simp at hl; omega
    have := Rep_l0 s t hs s.length k 0 (join t a) (by omega) (by simp at hk; omega)
    exact this
/-! the page's example -/
def liveL : List Tm := [⟨2, 0⟩, ⟨0, 2⟩, ⟨2, 2⟩]
def liveM : List Tm := [⟨0, 2⟩, ⟨2, 0⟩]
theorem live_lst : lst liveL = liveM := lst_unique (by simp [liveM, lx]) fun t => by
  unfold IsMin liveL liveM le
  constructor
  · intro h
    simp only [List.mem_cons, List.not_mem_nil, or_false] at h
    rcases h with rfl | rfl
    · refine ⟨by simp, fun y hy h => ?_⟩
      simp only [List.mem_cons, List.not_mem_nil, or_false] at hy
      rcases hy with rfl | rfl | rfl
      · simp at h
      · rfl
      · simp at h
    · refine ⟨by simp, fun y hy h => ?_⟩
      simp only [List.mem_cons, List.not_mem_nil, or_false] at hy
      rcases hy with rfl | rfl | rfl
      · rfl
      · simp at h
      · simp at h
  · rintro ⟨h, hm⟩
    simp only [List.mem_cons, List.not_mem_nil, or_false] at h ⊢
    rcases h with rfl | rfl | rfl
    · exact .inr rfl
    · exact .inl rfl
    · have := hm ⟨2, 0⟩ (by simp) (by simp)
      simp at this
theorem live_ev : Ev (fun k => runnellaw05_live.f k) true := by
  refine Ev.bind (g := fun k => front_New.f k liveL) (New_ev liveL (by decide)) ?_
  rw [live_lst]
  refine Ev.bind (g := fun k => runnelref04_Same.f k liveM liveM) (a := true) (Ev.of (fun k => runnelref04_Same.mono _ _ k) (k := 10) (by decide +kernel)) ?_
  simp only [if_true]
  refine Ev.bind (g := fun k => front_Rep.f k liveM 1 1) (a := (1, 1)) (Ev.of (fun k => front_Rep.mono _ _ _ k) (k := 10) (by decide +kernel)) ?_
  refine Ev.bind (g := fun k => front_Rep.f k liveM 0 5) (a := (0, 5)) (Ev.of (fun k => front_Rep.mono _ _ _ k) (k := 10) (by decide +kernel)) ?_
  exact Ev.now true
/-! what stands for a time, told by the least of each kind -/
def leB (a b : Tm) : Bool := decide (a.f0 ≤ b.f0) && decide (a.f1 ≤ b.f1)
theorem leB_iff {a b : Tm} : leB a b = true ↔ le a b := by unfold leB le; simp
theorem rle (a b : Tm) : runnelref04_LessEq.f a.f0 a.f1 b.f0 b.f1 = some (leB a b) := by
  unfold runnelref04_LessEq.f leB
  by_cases h : a.f0 ≤ b.f0
  · rw [if_pos h]; simp [h]
  · rw [if_neg h]; simp [h]
theorem meet_join (t m x : Tm) : meet (join t m) (join t x) = join t (meet m x) := by
  unfold meet join mn mx
  apply tm_ext
  · dsimp only; (repeat' split) <;> omega
  · dsimp only; (repeat' split) <;> omega
theorem rfold_join (t : Tm) : ∀ (s : List Tm) (m : Tm), rfold t (join t m) s = join t (s.foldl meet m)
  | [], _ => rfl
  | x :: s, m => by
    have h := rfold_join t s (meet m x)
    unfold rfold at h ⊢
    rw [List.foldl_cons, List.foldl_cons, meet_join]
    exact h
theorem low_spec : ∀ (s : List Tm) (m : Tm), (∀ x ∈ m :: s, le (s.foldl meet m) x) ∧ (∃ x ∈ m :: s, x.f0 = (s.foldl meet m).f0) ∧ (∃ x ∈ m :: s, x.f1 = (s.foldl meet m).f1)
  | [], m => ⟨fun x hx => by rw [List.mem_singleton.1 hx]; exact le_refl m, ⟨m, List.mem_cons_self, rfl⟩, ⟨m, List.mem_cons_self, rfl⟩⟩
  | y :: s, m => by
    obtain ⟨h1, ⟨a, ha, ha'⟩, ⟨b, hb, hb'⟩⟩ := low_spec s (meet m y)
    rw [List.foldl_cons]
    have hm : le (meet m y) m := by unfold le meet mn; constructor <;> (dsimp only; split <;> omega)
    have hy : le (meet m y) y := by unfold le meet mn; constructor <;> (dsimp only; split <;> omega)
    have h0 := h1 _ List.mem_cons_self
    refine ⟨fun x hx => ?_, ?_, ?_⟩
    · rcases List.mem_cons.1 hx with e | hx
      · rw [e]; exact le_trans h0 hm
      · rcases List.mem_cons.1 hx with e | hx
        · rw [e]; exact le_trans h0 hy
        · exact h1 x (List.mem_cons_of_mem _ hx)
    · rcases List.mem_cons.1 ha with e | ha
      · have : m.f0 = a.f0 ∨ y.f0 = a.f0 := by rw [e]; unfold meet mn; dsimp only; split <;> omega
        rcases this with h | h
        · exact ⟨m, by simp, by rw [h]; exact ha'⟩
        · exact ⟨y, by simp, by rw [h]; exact ha'⟩
      · exact ⟨a, by simp [ha], ha'⟩
    · rcases List.mem_cons.1 hb with e | hb
      · have : m.f1 = b.f1 ∨ y.f1 = b.f1 := by rw [e]; unfold meet mn; dsimp only; split <;> omega
        rcases this with h | h
        · exact ⟨m, by simp, by rw [h]; exact hb'⟩
        · exact ⟨y, by simp, by rw [h]; exact hb'⟩
      · exact ⟨b, by simp [hb], hb'⟩
theorem rep_spec {l : List Tm} (h : l ≠ []) : ∃ M : Tm, (∀ t, rep l t = join t M) ∧ (∀ x ∈ l, le M x) ∧ (∃ x ∈ l, x.f0 = M.f0) ∧ (∃ x ∈ l, x.f1 = M.f1) := by
  cases l with
  | nil => exact absurd rfl h
  | cons a s => exact ⟨s.foldl meet a, fun t => rfold_join t s a, low_spec s a⟩
theorem join_join (t M : Tm) : join (join t M) M = join t M := by
  unfold join mx
  apply tm_ext
  · dsimp only; (repeat' split) <;> omega
  · dsimp only; (repeat' split) <;> omega
theorem le_join (t M : Tm) : le t (join t M) := by
  unfold join mx le
  constructor <;> (dsimp only; split <;> omega)
theorem leB_join {t M v : Tm} (h : le M v) : leB (join t M) v = leB t v := by
  rw [Bool.eq_iff_iff, leB_iff, leB_iff]
  unfold join mx le at *
  dsimp only
  (repeat' split) <;> omega
theorem join_up {t M u : Tm} (h : le M u) : join (join t M) u = join t u := by
  unfold join mx le at *
  apply tm_ext
  · dsimp only; (repeat' split) <;> omega
  · dsimp only; (repeat' split) <;> omega
/-! all joins -/
def joins (f g : List Tm) : List Tm := f.flatMap fun x => g.map (join x)
theorem joins_mem {f g : List Tm} {z : Tm} : z ∈ joins f g ↔ ∃ x ∈ f, ∃ y ∈ g, z = join x y := by
  unfold joins
  rw [List.mem_flatMap]
  constructor
  · rintro ⟨x, hx, h⟩
    obtain ⟨y, hy, rfl⟩ := List.mem_map.1 h
    exact ⟨x, hx, y, hy, rfl⟩
  · rintro ⟨x, hx, y, hy, rfl⟩
    exact ⟨x, hx, List.mem_map.2 ⟨y, hy, rfl⟩⟩
theorem fj_l1 (f g : List Tm) (x : Tm) (i : Nat) (hi : i < f.length) (hf : f.length ≤ 40) (hg : g.length ≤ 40) {R : List Tm} (d : Nat) : ∀ (j : Nat) (acc : List Tm), j + d = g.length → acc.length ≤ i * 40 + j →
    Ev (fun k => front_Join.l0 k g (acc ++ (g.drop j).map (join x)) f (f.length : Int) ((i + 1 : Nat) : Int)) R →
    Ev (fun k => front_Join.l1 k g acc f (f.length : Int) (i : Int) g (g.length : Int) (j : Int) x.f0 x.f1) R := by
  induction d with
  | zero =>
    intro j acc hj _ H
    rw [List.drop_of_length_le (by omega), List.map_nil, List.append_nil] at H
    refine Ev.step (fun k => ?_) H
    simp only [front_Join.l1]
    rw [if_neg (by omega), wrapi hi (by omega)]
  | succ d ih =>
    intro j acc hj ha H
    have hjl : j < g.length := by omega
    rw [List.drop_eq_getElem_cons hjl, List.map_cons] at H
    have h1 := ih (j + 1) (acc ++ [join x g[j]]) (by omega) (by simp; omega) (by rw [List.append_assoc]; exact H)
    refine Ev.step (fun k => ?_) h1
    simp only [front_Join.l1]
    rw [if_pos (by omega), if_pos (by omega), if_pos (by omega), rdT g j hjl]
    unfold moment_Join.f
    rw [Option.bind_some, if_pos (by omega), wrapi hjl (by omega)]
    rfl
theorem fj_l0 (f g : List Tm) (hf : f.length ≤ 40) (hg : g.length ≤ 40) (d : Nat) : ∀ (i : Nat) (acc : List Tm), i + d = f.length → acc.length ≤ i * 40 →
    Ev (fun k => front_Join.l0 k g acc f (f.length : Int) (i : Int)) (lst (acc ++ joins (f.drop i) g)) := by
  induction d with
  | zero =>
    intro i acc hi ha
    rw [List.drop_of_length_le (by omega)]
    show Ev _ (lst (acc ++ []))
    rw [List.append_nil]
    refine Ev.step (f := fun k => (front_New.f k acc).bind fun t => some t) (fun k => ?_) (Ev.bind (New_ev acc (by omega)) (Ev.now _))
    simp only [front_Join.l0]
    rw [if_neg (by omega)]
  | succ d ih =>
    intro i acc hi ha
    have hil : i < f.length := by omega
    rw [List.drop_eq_getElem_cons hil]
    have h1 := ih (i + 1) (acc ++ g.map (join f[i])) (by omega) (by rw [List.length_append, List.length_map]; omega)
    rw [List.append_assoc] at h1
    have h2 := fj_l1 f g f[i] i hil hf hg (R := lst (acc ++ (g.map (join f[i]) ++ joins (f.drop (i + 1)) g))) g.length 0 acc (by omega) (by omega) (by rw [List.drop_zero]; exact h1)
    refine Ev.step (fun k => ?_) h2
    simp only [front_Join.l0]
    rw [if_pos (by omega), if_pos (by omega), if_pos (by omega), rdT f i hil]
    rfl
theorem FJoin_ev (f g : List Tm) (hf : f.length ≤ 40) (hg : g.length ≤ 40) : Ev (fun k => front_Join.f k f g) (lst (joins f g)) := by
  have := fj_l0 f g hf hg f.length 0 [] (by omega) (by simp)
  exact this
theorem Meet_ev (f g : List Tm) (hf : f.length ≤ 40) (hg : g.length ≤ 40) : Ev (fun k => front_Meet.f k f g) (lst (f ++ g)) :=
  Ev.congr (fun k => by unfold front_Meet.f; rw [if_pos (by omega)]) (New_ev (f ++ g) (by rw [List.length_append]; omega))
theorem any_both (f g : List Tm) (t : Tm) : any (lst (f ++ g)) t = (any f t || any g t) := by
  rw [any_lst]; unfold any; rw [List.any_append]
theorem any_joins (f g : List Tm) (t : Tm) : any (lst (joins f g)) t = (any f t && any g t) := by
  rw [any_lst, Bool.eq_iff_iff, Bool.and_eq_true, any_iff, any_iff, any_iff]
  constructor
  · rintro ⟨z, hz, hl⟩
    obtain ⟨x, hx, y, hy, rfl⟩ := joins_mem.1 hz
    unfold join mx le at hl
    dsimp only at hl
    refine ⟨⟨x, hx, ?_⟩, ⟨y, hy, ?_⟩⟩ <;> unfold le <;> obtain ⟨h0, h1⟩ := hl <;> (repeat' split at h0) <;> (repeat' split at h1) <;> omega
  · rintro ⟨⟨x, hx, h⟩, ⟨y, hy, h'⟩⟩
    refine ⟨join x y, joins_mem.2 ⟨x, hx, y, hy, rfl⟩, ?_⟩
    unfold join mx le at *
    dsimp only
    constructor <;> (split <;> omega)
theorem allLe_iff {f g : List Tm} : allLe f g = true ↔ ∀ y ∈ g, any f y = true := by
  show (!(g.any fun t => !any f t)) = true ↔ _
  simp
theorem allLe_any {f g : List Tm} {t : Tm} (h : allLe f g = true) (hg : any g t = true) : any f t = true := by
  obtain ⟨y, hy, hl⟩ := any_iff.1 hg
  obtain ⟨x, hx, hl'⟩ := any_iff.1 (allLe_iff.1 h y hy)
  exact any_iff.2 ⟨x, hx, le_trans hl' hl⟩
theorem allLe_both (f g : List Tm) : allLe (lst (f ++ g)) f = true := allLe_iff.2 fun y hy => by
  rw [any_lst]
  exact any_iff.2 ⟨y, List.mem_append_left _ hy, le_refl y⟩
theorem allLe_joins (f g : List Tm) : allLe f (lst (joins f g)) = true := allLe_iff.2 fun z hz => by
  obtain ⟨x, hx, y, hy, rfl⟩ := joins_mem.1 (lst_mem hz)
  exact any_iff.2 ⟨x, hx, le_join x y⟩
theorem tail_ev (f g : List Tm) (hf : f.length ≤ 40) (hg : g.length ≤ 40) : Ev (fun k => (front_Meet.f k f g).bind fun a => (front_LessEq.f k a f).bind fun p => if p = true then (front_Join.f k f g).bind fun b => (front_LessEq.f k f b).bind fun q => if q = true then (runnellaw05_live.f k).bind fun t => some t else some false else some false) true := by
  refine Ev.bind (Meet_ev f g hf hg) (Ev.bind (a := allLe (lst (f ++ g)) f) (Ev.now _) ?_)
  rw [allLe_both]
  simp only [if_true]
  refine Ev.bind (FJoin_ev f g hf hg) (Ev.bind (a := allLe f (lst (joins f g))) (Ev.now _) ?_)
  rw [allLe_joins]
  simp only [if_true]
  exact Ev.bind live_ev (Ev.now _)
end Go.Proofs.Ytdomdjojbpehiaa.BFrontBounds
