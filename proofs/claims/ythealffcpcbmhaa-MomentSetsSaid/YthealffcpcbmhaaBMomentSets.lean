/- MomentSets: what the printed functions answer, for each input, by plain mathematics. -/
import Derived.Test.YthealffcpcbmhaaOMomentSetsx
import Derived.Test.YthealffcpcbmhaaEqPure
namespace Go.Proofs.Ythealffcpcbmhaa.BMomentSets
open Go.RowKit Go.Proofs.Ythealffcpcbmhaa.PMomentSets Go.Proofs.Ythealffcpcbmhaa.EqPure Go.Proofs.YthealffcpcbmhaaW.PrintWords Go.Proofs.YthealffcpcbmhaaW.PrintLast Go.Proofs.YthealffcpcbmhaaW.PrintMore
set_option linter.unusedVariables false
set_option linter.unusedSimpArgs false
attribute [local irreducible] IntKind.wrap Go.bits shr shl maxLen
theorem wrapi {i n : Nat} (h : i < n) (hn : n ≤ 8796093022208) : wrap64 ((i : Int) + 1) = ((i + 1 : Nat) : Int) := by
  have e : wrap64 ((i : Int) + 1) = ((i : Int) + 1 + 9223372036854775808) % 18446744073709551616 - 9223372036854775808 := by with_unfolding_all rfl
  rw [e]; omega
theorem rdT (l : List Tm) (i : Nat) (h : i < l.length) : rd_T28 l (i : Int) = l[i] := by unfold rd_T28; rw [Int.toNat_natCast, List.getD_eq_getElem?_getD, List.getElem?_eq_getElem h]; rfl
theorem live_20 : runnellaw04_live.f 20 = some true := by decide +kernel
theorem live_ev : Ev (fun k => runnellaw04_live.f k) true := Ev.of (fun k => runnellaw04_live.mono k) live_20
theorem rorder (a b : Tm) : ∃ o : Int, runnelref04_Order.f a.f0 a.f1 b.f0 b.f1 = some o ∧ (o < 0 ↔ (a.f0 < b.f0 ∨ a.f0 = b.f0 ∧ a.f1 < b.f1)) := by
  unfold runnelref04_Order.f
  by_cases h : a.f0 = b.f0 ∧ a.f1 = b.f1
  · refine ⟨0, by rw [if_pos (by simp [h])], ?_⟩
    omega
  · rw [if_neg (by simpa using h)]
    by_cases h1 : a.f0 < b.f0
    · exact ⟨-1, by rw [if_pos h1], by omega⟩
    · rw [if_neg h1]
      by_cases h2 : a.f0 = b.f0
      · rw [if_pos h2]
        by_cases h3 : a.f1 < b.f1
        · exact ⟨-1, by rw [if_pos h3], by omega⟩
        · exact ⟨1, by rw [if_neg h3], by omega⟩
      · rw [if_neg h2]
        exact ⟨1, rfl, by omega⟩
theorem add_l0 (l : List Tm) (t : Tm) (hl : l.length < 4398046511104) (d : Nat) : ∀ (k i : Nat), i + d = l.length → d < k →
    runnelref04_Add.l0 k l (i : Int) t.f0 t.f1 = some (l.take i ++ ins (l.drop i) t) := by
  induction d with
  | zero =>
    intro k i hi hk
    obtain ⟨k, rfl⟩ : ∃ n, k = n + 1 := ⟨k - 1, by omega⟩
    simp only [runnelref04_Add.l0]
    rw [if_neg (by omega)]
    have h1 : ((i : Int)).toNat = i := Int.toNat_natCast i
    simp only [Option.bind_some, List.nil_append, h1, List.length_nil, Nat.zero_add]
    rw [if_pos (by omega), if_pos (by omega), List.take_of_length_le (by omega), List.drop_of_length_le (by omega), if_pos (by omega), if_pos (by omega), if_pos (by simp; omega)]
    simp [ins]
  | succ d ih =>
    intro k i hi hk
    obtain ⟨k, rfl⟩ : ∃ n, k = n + 1 := ⟨k - 1, by omega⟩
    have hil : i < l.length := by omega
    obtain ⟨o, ho, hlt⟩ := rorder l[i] t
    simp only [runnelref04_Add.l0]
    rw [if_pos (by omega), if_pos (by omega), rdT l i hil, ho, Option.bind_some]
    have hd := List.drop_eq_getElem_cons hil
    rw [hd]
    unfold ins
    by_cases h : l[i].f0 < t.f0 ∨ l[i].f0 = t.f0 ∧ l[i].f1 < t.f1
    · rw [if_pos (hlt.2 h), if_pos h, wrapi hil (by omega), ih k (i + 1) (by omega) (by omega), List.take_succ_eq_append_getElem hil, List.append_assoc]
      rfl
    · rw [if_neg (fun h' => h (hlt.1 h')), if_neg h]
      by_cases he : l[i].f0 = t.f0 ∧ l[i].f1 = t.f1
      · rw [if_pos (by simp [he]), if_pos he, ← hd, List.take_append_drop]
      · rw [if_neg (by simpa using he), if_neg he]
        have h1 : ((i : Int)).toNat = i := Int.toNat_natCast i
        simp only [Option.bind_some, List.nil_append, h1, List.length_nil, Nat.zero_add]
        rw [if_pos (by omega), if_pos (by rw [List.length_take]; omega), if_pos (by rw [List.length_take]; omega), if_pos (by rw [List.length_append, List.length_take, List.length_drop]; simp only [List.length_singleton]; omega)]
        rw [hd, List.append_assoc]
        rfl
theorem add_f (l : List Tm) (t : Tm) (hl : l.length < 4398046511104) : Ev (fun k => runnelref04_Add.f k l t.f0 t.f1) (ins l t) := ⟨l.length + 1, fun k hk => by
  have := add_l0 l t hl l.length k 0 (by omega) (by omega)
  rw [List.take_zero, List.drop_zero, List.nil_append] at this
  exact this⟩
/-! alike, place by place -/
def tk (x : Tm) : Int × Int := (x.f0, x.f1)
theorem tk_inj {a b : Tm} (h : tk a = tk b) : a = b := by
  unfold tk at h
  rw [Prod.mk.injEq] at h
  exact tm_ext h.1 h.2
theorem map_tk {l m : List Tm} : l.map tk = m.map tk ↔ l = m := ⟨fun h => (List.map_inj_right (fun _ _ => tk_inj)).1 h, fun h => by rw [h]⟩
theorem tm_test (a b : Tm) : (!(a.f0 == b.f0) || !(a.f1 == b.f1)) = !decide (tk a = tk b) := by
  unfold tk
  by_cases h0 : a.f0 = b.f0
  · by_cases h1 : a.f1 = b.f1
    · simp [h0, h1]
    · simp [h0, h1]
  · simp [h0]
theorem rsame_l0 (l m : List Tm) (hl : l.length ≤ 8796093022208) (he : l.length = m.length) (d : Nat) : ∀ (k i : Nat), i + d = l.length → d < k →
    runnelref04_Same.l0 k l m (i : Int) = some (decide ((l.drop i).map tk = (m.drop i).map tk)) := by
  induction d with
  | zero =>
    intro k i hi hk
    obtain ⟨k, rfl⟩ : ∃ n, k = n + 1 := ⟨k - 1, by omega⟩
    simp only [runnelref04_Same.l0]
    rw [if_neg (by omega), decide_end tk l m i (by omega) (by omega)]
  | succ d ih =>
    intro k i hi hk
    obtain ⟨k, rfl⟩ : ∃ n, k = n + 1 := ⟨k - 1, by omega⟩
    simp only [runnelref04_Same.l0]
    rw [if_pos (by omega), if_pos (by omega), if_pos (by omega), rdT l i (by omega), rdT m i (by omega), tm_test, wrapi (n := l.length) (by omega) hl, ih k (i + 1) (by omega) (by omega), decide_step tk l m i (by omega) (by omega)]
    by_cases h : tk (l[i]'(by omega)) = tk (m[i]'(by omega))
    · rw [if_neg (by simp [h]), decide_eq_true h]; rfl
    · rw [if_pos (by simp [h]), decide_eq_false h]; rfl
theorem RSame_ev (l m : List Tm) (hl : l.length ≤ 8796093022208) : Ev (fun k => runnelref04_Same.f k l m) (decide (l.map tk = m.map tk)) := by
  refine ⟨l.length + 1, fun k hk => ?_⟩
  unfold runnelref04_Same.f
  by_cases h : l.length = m.length
  · dsimp only
    rw [if_pos (by omega)]
    have := rsame_l0 l m hl h l.length k 0 (by omega) hk
    exact this
  · dsimp only
    rw [if_neg (by omega), decide_len tk l m h]
theorem RSame_refl (l : List Tm) (hl : l.length ≤ 8796093022208) : Ev (fun k => runnelref04_Same.f k l l) true := by
  have := RSame_ev l l hl
  rwa [decide_eq_true rfl] at this
theorem RUnique_l0 (l : List Tm) (hl : l.length ≤ 1048576) (d : Nat) : ∀ (i : Nat) (acc : List Tm), i + d = l.length → acc.length ≤ i → Ev (fun k => runnelref04_Unique.l0 k l acc (i : Int)) ((l.drop i).foldl ins acc) := by
  induction d with
  | zero =>
    intro i acc hi ha
    rw [List.drop_of_length_le (by omega)]
    refine Ev.step (f := fun _ => some acc) (fun k => ?_) (Ev.now acc)
    simp only [runnelref04_Unique.l0]
    rw [if_neg (by omega)]
  | succ d ih =>
    intro i acc hi ha
    have hil : i < l.length := by omega
    rw [List.drop_eq_getElem_cons hil, List.foldl_cons]
    refine Ev.step (f := fun k => (runnelref04_Add.f k acc l[i].f0 l[i].f1).bind fun t => runnelref04_Unique.l0 k l t ((i + 1 : Nat) : Int)) (fun k => ?_) ?_
    · simp only [runnelref04_Unique.l0]
      rw [if_pos (by omega), if_pos (by omega), rdT l i hil, wrapi hil (by omega)]
    · exact Ev.bind (add_f acc l[i] (by omega)) (ih (i + 1) _ (by omega) (by have := ins_len l[i] acc; omega))
theorem RUnique_ev (l : List Tm) (hl : l.length ≤ 1048576) : Ev (fun k => runnelref04_Unique.f k l) (uq l) := by
  have := RUnique_l0 l hl l.length 0 [] (by omega) (by simp)
  exact this
theorem rjn (a b : Tm) : runnelref04_Join.f a.f0 a.f1 b.f0 b.f1 = some ((jn a b).f0, (jn a b).f1) := by
  unfold runnelref04_Join.f jn mx
  (repeat' split) <;> first | rfl | (simp only [Option.some.injEq, Prod.mk.injEq]; omega)
def crow (l : List Tm) (x : Tm) (acc : List Tm) (s : List Tm) : List Tm := s.foldl (fun a y => ins a (jn x y)) acc
def call (l : List Tm) (acc : List Tm) (s : List Tm) : List Tm := s.foldl (fun a x => crow l x a l) acc
theorem crow_mem {l : List Tm} {x z : Tm} : ∀ {s acc : List Tm}, z ∈ crow l x acc s ↔ z ∈ acc ∨ ∃ y ∈ s, z = jn x y
  | [], acc => by simp [crow]
  | a :: s, acc => by
    have ih := crow_mem (l := l) (x := x) (z := z) (s := s) (acc := ins acc (jn x a))
    unfold crow at ih ⊢
    rw [List.foldl_cons, ih, ins_mem]
    constructor
    · rintro ((h | h) | ⟨y, hy, h⟩)
      · exact .inl h
      · exact .inr ⟨a, List.mem_cons_self, h⟩
      · exact .inr ⟨y, List.mem_cons_of_mem _ hy, h⟩
    · rintro (h | ⟨y, hy, h⟩)
      · exact .inl (.inl h)
      · rcases List.mem_cons.1 hy with e | hy
        · rw [e] at h; exact .inl (.inr h)
        · exact .inr ⟨y, hy, h⟩
theorem crow_sorted {l : List Tm} {x : Tm} : ∀ {s acc : List Tm}, acc.Pairwise lx → (crow l x acc s).Pairwise lx
  | [], _, h => h
  | a :: s, acc, h => by
    have ih := crow_sorted (l := l) (x := x) (s := s) (ins_sorted (jn x a) h)
    unfold crow at ih ⊢
    rw [List.foldl_cons]
    exact ih
theorem crow_len {l : List Tm} {x : Tm} : ∀ (s acc : List Tm), (crow l x acc s).length ≤ acc.length + s.length
  | [], acc => by simp [crow]
  | a :: s, acc => by
    have ih := crow_len (l := l) (x := x) s (ins acc (jn x a))
    have h2 := ins_len (jn x a) acc
    unfold crow at ih ⊢
    rw [List.foldl_cons, List.length_cons]
    omega
theorem call_mem {l : List Tm} {z : Tm} : ∀ {s acc : List Tm}, z ∈ call l acc s ↔ z ∈ acc ∨ ∃ x ∈ s, ∃ y ∈ l, z = jn x y
  | [], acc => by simp [call]
  | a :: s, acc => by
    have ih := call_mem (l := l) (z := z) (s := s) (acc := crow l a acc l)
    unfold call at ih ⊢
    rw [List.foldl_cons, ih, crow_mem]
    constructor
    · rintro ((h | ⟨y, hy, h⟩) | ⟨x, hx, h⟩)
      · exact .inl h
      · exact .inr ⟨a, List.mem_cons_self, y, hy, h⟩
      · exact .inr ⟨x, List.mem_cons_of_mem _ hx, h⟩
    · rintro (h | ⟨x, hx, y, hy, h⟩)
      · exact .inl (.inl h)
      · rcases List.mem_cons.1 hx with e | hx
        · rw [e] at h; exact .inl (.inr ⟨y, hy, h⟩)
        · exact .inr ⟨x, hx, y, hy, h⟩
theorem call_sorted {l : List Tm} : ∀ {s acc : List Tm}, acc.Pairwise lx → (call l acc s).Pairwise lx
  | [], _, h => h
  | a :: s, acc, h => by
    have ih := call_sorted (l := l) (s := s) (crow_sorted (l := l) (x := a) (s := l) h)
    unfold call at ih ⊢
    rw [List.foldl_cons]
    exact ih
theorem call_uq (l : List Tm) : call l [] l = uq (hj (uq l)) := by
  refine sorted_eq (call_sorted List.Pairwise.nil) (uq_sorted _) fun t => ?_
  rw [call_mem, uq_mem, hj_mem]
  constructor
  · rintro (h | ⟨x, hx, y, hy, h⟩)
    · cases h
    · exact ⟨x, uq_mem.2 hx, y, uq_mem.2 hy, h⟩
  · rintro ⟨x, hx, y, hy, h⟩
    exact .inr ⟨x, uq_mem.1 hx, y, uq_mem.1 hy, h⟩
theorem RClo_l1 (l : List Tm) (hl : l.length ≤ 60) (i : Nat) (hi : i < l.length) {R : List Tm} (d : Nat) : ∀ (j : Nat) (acc : List Tm), j + d = l.length → acc.length ≤ i * 60 + j →
    Ev (fun k => runnelref04_Closure.l0 k l (crow l l[i] acc (l.drop j)) ((i + 1 : Nat) : Int)) R → Ev (fun k => runnelref04_Closure.l1 k l acc (i : Int) (j : Int)) R := by
  induction d with
  | zero =>
    intro j acc hj _ H
    rw [List.drop_of_length_le (by omega)] at H
    refine Ev.step (fun k => ?_) H
    simp only [runnelref04_Closure.l1]
    rw [if_neg (by omega), wrapi hi (by omega)]
    rfl
  | succ d ih =>
    intro j acc hj ha H
    have hjl : j < l.length := by omega
    rw [List.drop_eq_getElem_cons hjl] at H
    have h1 := ih (j + 1) (ins acc (jn l[i] l[j])) (by omega) (by have := ins_len (jn l[i] l[j]) acc; omega) H
    refine Ev.step (f := fun k => (runnelref04_Add.f k acc (jn l[i] l[j]).f0 (jn l[i] l[j]).f1).bind fun t => runnelref04_Closure.l1 k l t (i : Int) ((j + 1 : Nat) : Int)) (fun k => ?_) (Ev.bind (add_f acc (jn l[i] l[j]) (by omega)) h1)
    simp only [runnelref04_Closure.l1]
    rw [if_pos (by omega), if_pos (by omega), if_pos (by omega), if_pos (by omega), rdT l i hi, rdT l j hjl, rjn, Option.bind_some, wrapi hjl (by omega)]
theorem RClo_l0 (l : List Tm) (hl : l.length ≤ 60) (d : Nat) : ∀ (i : Nat) (acc : List Tm), i + d = l.length → acc.length ≤ i * 60 → Ev (fun k => runnelref04_Closure.l0 k l acc (i : Int)) (call l acc (l.drop i)) := by
  induction d with
  | zero =>
    intro i acc hi ha
    rw [List.drop_of_length_le (by omega)]
    refine Ev.step (f := fun _ => some acc) (fun k => ?_) (Ev.now acc)
    simp only [runnelref04_Closure.l0]
    rw [if_neg (by omega)]
  | succ d ih =>
    intro i acc hi ha
    have hil : i < l.length := by omega
    rw [List.drop_eq_getElem_cons hil]
    have h1 := ih (i + 1) (crow l l[i] acc l) (by omega) (by have := crow_len (l := l) (x := l[i]) l acc; omega)
    have h2 := RClo_l1 l hl i hil l.length 0 acc (by omega) (by omega) (by rw [List.drop_zero]; exact h1)
    refine Ev.step (fun k => ?_) h2
    simp only [runnelref04_Closure.l0]
    rw [if_pos (by omega)]
    rfl
theorem RClosure_ev (l : List Tm) (hl : l.length ≤ 60) : Ev (fun k => runnelref04_Closure.f k l) (uq (hj (uq l))) := by
  have := RClo_l0 l hl l.length 0 [] (by omega) (by simp)
  rw [List.drop_zero, call_uq] at this
  exact this
theorem hjTo_len (t : List Tm) (N : Nat) (h : t.length ≤ N) : ∀ i, (hjTo t i).length ≤ i * N
  | 0 => by simp [hjTo]
  | i + 1 => by
    have := hjTo_len t N h i
    have h2 : (hrow t i).length ≤ N := by unfold hrow; rw [List.length_map, List.length_drop]; omega
    rw [hjTo_succ, List.length_append, Nat.add_mul, Nat.one_mul]
    omega
theorem clo_len (l : List Tm) (h : l.length ≤ 60) : (uq (hj (uq l))).length ≤ 3600 := by
  have h1 := uq_len (hj (uq l))
  have h2 := hjTo_len (uq l) 60 (Nat.le_trans (uq_len l) h) (uq l).length
  have h3 := uq_len l
  have h4 : (hj (uq l)).length ≤ (uq l).length * 60 := h2
  omega
end Go.Proofs.Ythealffcpcbmhaa.BMomentSets
