/- MomentCloses: what the printed functions answer, for each input, by plain mathematics. -/
import Derived.Test.YthealffcpcbmhaaOMomentClosesx
import Derived.Test.YthealffcpcbmhaaEqPure
namespace Go.Proofs.Ythealffcpcbmhaa.BMomentCloses
open Go.RowKit Go.Proofs.Ythealffcpcbmhaa.PMomentCloses Go.Proofs.Ythealffcpcbmhaa.EqPure Go.Proofs.YthealffcpcbmhaaW.PrintWords Go.Proofs.YthealffcpcbmhaaW.PrintLast Go.Proofs.YthealffcpcbmhaaW.PrintMore
set_option linter.unusedVariables false
set_option linter.unusedSimpArgs false
attribute [local irreducible] IntKind.wrap Go.bits shr shl maxLen
theorem wrapi {i n : Nat} (h : i < n) (hn : n ≤ 8796093022208) : wrap64 ((i : Int) + 1) = ((i + 1 : Nat) : Int) := by
  have e : wrap64 ((i : Int) + 1) = ((i : Int) + 1 + 9223372036854775808) % 18446744073709551616 - 9223372036854775808 := by with_unfolding_all rfl
  rw [e]; omega
theorem rdT (l : List Tm) (i : Nat) (h : i < l.length) : rd_T28 l (i : Int) = l[i] := by unfold rd_T28; rw [Int.toNat_natCast, List.getD_eq_getElem?_getD, List.getElem?_eq_getElem h]; rfl
theorem live_20 : runnellaw04_live.f 20 = some true := by decide +kernel
theorem live_ev : Ev (fun k => runnellaw04_live.f k) true := Ev.of (fun k => runnellaw04_live.mono k) live_20
/-! alike, place by place -/
def tk (x : Tm) : Int × Int := (x.f0, x.f1)
theorem tk_inj {a b : Tm} (h : tk a = tk b) : a = b := by
  unfold tk at h
  rw [Prod.mk.injEq] at h
  exact tm_ext h.1 h.2
theorem map_tk {l m : List Tm} : l.map tk = m.map tk ↔ l = m := ⟨fun h => (List.map_inj_right (fun _ _ => tk_inj)).1 h, fun h => by rw [h]⟩
theorem tm_test (a b : Tm) : (!(a.f0 == b.f0) || !(a.f1 == b.f1)) = !decide (tk a = tk b) := by
  unfold tk
  by_cases h0 : a.f0 = b.f0
  · by_cases h1 : a.f1 = b.f1
    · simp [h0, h1]
    · simp [h0, h1]
  · simp [h0]
theorem rsame_l0 (l m : List Tm) (hl : l.length ≤ 8796093022208) (he : l.length = m.length) (d : Nat) : ∀ (k i : Nat), i + d = l.length → d < k →
    runnelref04_Same.l0 k l m (i : Int) = some (decide ((l.drop i).map tk = (m.drop i).map tk)) := by
  induction d with
  | zero =>
    intro k i hi hk
    obtain ⟨k, rfl⟩ : ∃ n, k = n + 1 := ⟨k - 1, by omega⟩
    simp only [runnelref04_Same.l0]
    rw [if_neg (by omega), decide_end tk l m i (by omega) (by omega)]
  | succ d ih =>
    intro k i hi hk
    obtain ⟨k, rfl⟩ : ∃ n, k = n + 1 := ⟨k - 1, by omega⟩
    simp only [runnelref04_Same.l0]
    rw [if_pos (by omega), if_pos (by omega), if_pos (by omega), rdT l i (by omega), rdT m i (by omega), tm_test, wrapi (n := l.length) (by omega) hl, ih k (i + 1) (by omega) (by omega), decide_step tk l m i (by omega) (by omega)]
    by_cases h : tk (l[i]'(by omega)) = tk (m[i]'(by omega))
    · rw [if_neg (by simp [h]), decide_eq_true h]; rfl
    · rw [if_pos (by simp [h]), decide_eq_false h]; rfl
theorem RSame_ev (l m : List Tm) (hl : l.length ≤ 8796093022208) : Ev (fun k => runnelref04_Same.f k l m) (decide (l.map tk = m.map tk)) := by
  refine ⟨l.length + 1, fun k hk => ?_⟩
  unfold runnelref04_Same.f
  by_cases h : l.length = m.length
  · dsimp only
    rw [if_pos (by omega)]
    have := rsame_l0 l m hl h l.length k 0 (by omega) hk
    exact this
  · dsimp only
    rw [if_neg (by omega), decide_len tk l m h]
theorem RSame_refl (l : List Tm) (hl : l.length ≤ 8796093022208) : Ev (fun k => runnelref04_Same.f k l l) true := by
  have := RSame_ev l l hl
  rwa [decide_eq_true rfl] at this
theorem hjTo_len (t : List Tm) (N : Nat) (h : t.length ≤ N) : ∀ i, (hjTo t i).length ≤ i * N
  | 0 => by simp [hjTo]
  | i + 1 => by
    have := hjTo_len t N h i
    have h2 : (hrow t i).length ≤ N := by unfold hrow; rw [List.length_map, List.length_drop]; omega
    rw [hjTo_succ, List.length_append, Nat.add_mul, Nat.one_mul]
    omega
theorem clo_len (l : List Tm) (h : l.length ≤ 60) : (uq (hj (uq l))).length ≤ 3600 := by
  have h1 := uq_len (hj (uq l))
  have h2 := hjTo_len (uq l) 60 (Nat.le_trans (uq_len l) h) (uq l).length
  have h3 := uq_len l
  have h4 : (hj (uq l)).length ≤ (uq l).length * 60 := h2
  omega
def le (a b : Tm) : Prop := a.f0 ≤ b.f0 ∧ a.f1 ≤ b.f1
def leB (a b : Tm) : Bool := decide (a.f0 ≤ b.f0) && decide (a.f1 ≤ b.f1)
theorem leB_iff {a b : Tm} : leB a b = true ↔ le a b := by unfold leB le; simp
theorem mle (a b : Tm) : moment_LessEq.f a.f0 a.f1 b.f0 b.f1 = some (leB a b) := by
  unfold moment_LessEq.f leB
  by_cases h : a.f0 ≤ b.f0
  · rw [if_pos h]; simp [h]
  · rw [if_neg h]; simp [h]
/-- Of each kind of number the greatest is one of the list's. -/
def Of (l : List Tm) (z : Tm) : Prop := (∃ u ∈ l, u.f0 = z.f0 ∧ u.f1 ≤ z.f1) ∧ ∃ v ∈ l, v.f1 = z.f1 ∧ v.f0 ≤ z.f0
theorem mx_l (a b : Int) : a ≤ mx a b := by unfold mx; split <;> omega
theorem mx_r (a b : Int) : b ≤ mx a b := by unfold mx; split <;> omega
theorem mx_or (a b : Int) : mx a b = a ∨ mx a b = b := by unfold mx; split <;> simp
theorem of_self {l : List Tm} {x : Tm} (h : x ∈ l) : Of l x := ⟨⟨x, h, rfl, Int.le_refl _⟩, ⟨x, h, rfl, Int.le_refl _⟩⟩
theorem of_jn {l : List Tm} {a b : Tm} (ha : Of l a) (hb : Of l b) : Of l (jn a b) := by
  obtain ⟨⟨u, hu, u0, u1⟩, ⟨v, hv, v1, v0⟩⟩ := ha
  obtain ⟨⟨p, hp, p0, p1⟩, ⟨q, hq, q1, q0⟩⟩ := hb
  have l0 := mx_l a.f0 b.f0
  have r0 := mx_r a.f0 b.f0
  have l1 := mx_l a.f1 b.f1
  have r1 := mx_r a.f1 b.f1
  constructor
  · rcases mx_or a.f0 b.f0 with h | h
    · exact ⟨u, hu, by show u.f0 = mx a.f0 b.f0; omega, by show u.f1 ≤ mx a.f1 b.f1; omega⟩
    · exact ⟨p, hp, by show p.f0 = mx a.f0 b.f0; omega, by show p.f1 ≤ mx a.f1 b.f1; omega⟩
  · rcases mx_or a.f1 b.f1 with h | h
    · exact ⟨v, hv, by show v.f1 = mx a.f1 b.f1; omega, by show v.f0 ≤ mx a.f0 b.f0; omega⟩
    · exact ⟨q, hq, by show q.f1 = mx a.f1 b.f1; omega, by show q.f0 ≤ mx a.f0 b.f0; omega⟩
theorem clo_mem {l : List Tm} {z : Tm} : z ∈ uq (hj (uq l)) ↔ Of l z := by
  rw [uq_mem, hj_mem]
  constructor
  · rintro ⟨a, ha, b, hb, rfl⟩
    exact of_jn (of_self (uq_mem.1 ha)) (of_self (uq_mem.1 hb))
  · rintro ⟨⟨u, hu, u0, u1⟩, ⟨v, hv, v1, v0⟩⟩
    refine ⟨u, uq_mem.2 hu, v, uq_mem.2 hv, tm_ext ?_ ?_⟩
    · show z.f0 = mx u.f0 v.f0
      unfold mx; split <;> omega
    · show z.f1 = mx u.f1 v.f1
      unfold mx; split <;> omega
theorem clo_clo (l : List Tm) : uq (hj (uq (uq (hj (uq l))))) = uq (hj (uq l)) := by
  refine sorted_eq (uq_sorted _) (uq_sorted _) fun z => ?_
  rw [uq_mem, hj_mem]
  constructor
  · rintro ⟨a, ha, b, hb, rfl⟩
    exact clo_mem.2 (of_jn (clo_mem.1 (uq_mem.1 ha)) (clo_mem.1 (uq_mem.1 hb)))
  · intro h
    refine ⟨z, uq_mem.2 h, z, uq_mem.2 h, tm_ext ?_ ?_⟩
    · show z.f0 = mx z.f0 z.f0
      unfold mx; split <;> rfl
    · show z.f1 = mx z.f1 z.f1
      unfold mx; split <;> rfl
theorem clo_wf {l : List Tm} (h : ∀ x ∈ l, wfT x) : ∀ z ∈ uq (hj (uq l)), wfT z := fun z hz => by
  obtain ⟨⟨u, hu, u0, _⟩, ⟨v, hv, v1, _⟩⟩ := clo_mem.1 hz
  exact ⟨by rw [← u0]; exact (h u hu).1, by rw [← v1]; exact (h v hv).2⟩
theorem cl1_false (c : List Tm) (t j : Tm) (hl : c.length ≤ 1048576) (d : Nat) : ∀ i : Nat, i + d = c.length → Ev (fun k => runnellaw04_MomentCloses.l1 k c false (i : Int) t.f0 t.f1 j.f0 j.f1) true := by
  induction d with
  | zero =>
    intro i hi
    refine Ev.step (f := fun k => (runnellaw04_live.f k).bind fun t => some t) (fun k => ?_) (Ev.bind live_ev (Ev.now _))
    simp only [runnellaw04_MomentCloses.l1]
    rw [if_neg (by omega), if_neg (by simp)]
  | succ d ih =>
    intro i hi
    have hil : i < c.length := by omega
    by_cases h : (c[i].f0 == j.f0 && c[i].f1 == j.f1) = true
    · cases hb : leB j t with
      | false =>
        refine Ev.step (f := fun k => (runnellaw04_live.f k).bind fun b => if b = true then some true else (runnellaw04_live.f k).bind fun t => some t) (fun k => ?_) (Ev.bind live_ev (by simp only [if_true]; exact Ev.now _))
        simp only [runnellaw04_MomentCloses.l1]
        rw [if_pos (by omega), if_pos (by omega), rdT c i hil, if_pos h, mle, Option.bind_some, hb, if_pos (by rfl)]
        simp
      | true =>
        refine Ev.step (f := fun k => (runnellaw04_live.f k).bind fun t => some t) (fun k => ?_) (Ev.bind live_ev (Ev.now _))
        simp only [runnellaw04_MomentCloses.l1]
        rw [if_pos (by omega), if_pos (by omega), rdT c i hil, if_pos h, mle, Option.bind_some, hb, if_neg (by decide), if_neg (by simp)]
    · refine Ev.step (fun k => ?_) (ih (i + 1) (by omega))
      simp only [runnellaw04_MomentCloses.l1]
      rw [if_pos (by omega), if_pos (by omega), rdT c i hil, if_neg h, wrapi hil (by omega)]
theorem cl1_true (c : List Tm) (t j : Tm) (hl : c.length ≤ 1048576) (hjt : le j t) (d : Nat) : ∀ i : Nat, i + d = c.length → j ∈ c.drop i → Ev (fun k => runnellaw04_MomentCloses.l1 k c true (i : Int) t.f0 t.f1 j.f0 j.f1) true := by
  induction d with
  | zero =>
    intro i hi hm
    rw [List.drop_of_length_le (by omega)] at hm
    cases hm
  | succ d ih =>
    intro i hi hm
    have hil : i < c.length := by omega
    by_cases h : (c[i].f0 == j.f0 && c[i].f1 == j.f1) = true
    · have hb : leB j t = true := leB_iff.2 hjt
      refine Ev.step (f := fun k => (runnellaw04_live.f k).bind fun b => if b = true then some true else some false) (fun k => ?_) (Ev.bind live_ev (by simp only [if_true]; exact Ev.now _))
      simp only [runnellaw04_MomentCloses.l1]
      rw [if_pos (by omega), if_pos (by omega), rdT c i hil, if_pos h, mle, Option.bind_some, hb, if_pos (by rfl)]
      simp
    · rw [List.drop_eq_getElem_cons hil] at hm
      have hm2 : j ∈ c.drop (i + 1) := by
        rcases List.mem_cons.1 hm with e | hm
        · rw [← e] at h; simp at h
        · exact hm
      refine Ev.step (fun k => ?_) (ih (i + 1) (by omega) hm2)
      simp only [runnellaw04_MomentCloses.l1]
      rw [if_pos (by omega), if_pos (by omega), rdT c i hil, if_neg h, wrapi hil (by omega)]
theorem cl0_ev (l c : List Tm) (t : Tm) (hl : l.length ≤ 30) (hcl : c.length ≤ 1048576) (hc : ∀ z, Of l z → z ∈ c) (d : Nat) : ∀ (i : Nat) (b : Bool) (j : Tm), i + d = l.length → (b = true → Of l j ∧ le j t) →
    Ev (fun k => runnellaw04_MomentCloses.l0 k l c b (i : Int) t.f0 t.f1 j.f0 j.f1) true := by
  induction d with
  | zero =>
    intro i b j hi hb
    have h1 : Ev (fun k => runnellaw04_MomentCloses.l1 k c b ((0 : Nat) : Int) t.f0 t.f1 j.f0 j.f1) true := by
      cases b with
      | false => exact cl1_false c t j hcl c.length 0 (by omega)
      | true => exact cl1_true c t j hcl (hb rfl).2 c.length 0 (by omega) (by rw [List.drop_zero]; exact hc j (hb rfl).1)
    refine Ev.step (fun k => ?_) h1
    simp only [runnellaw04_MomentCloses.l0]
    rw [if_neg (by omega)]
    rfl
  | succ d ih =>
    intro i b j hi hb
    have hil : i < l.length := by omega
    have hm : l[i] ∈ l := List.getElem_mem hil
    cases hx : leB l[i] t with
    | false =>
      refine Ev.step (fun k => ?_) (ih (i + 1) b j (by omega) hb)
      simp only [runnellaw04_MomentCloses.l0]
      rw [if_pos (by omega), if_pos (by omega), rdT l i hil, mle, Option.bind_some, hx, if_neg (by decide), wrapi hil (by omega)]
    | true =>
      have hle := leB_iff.1 hx
      cases b with
      | true =>
        obtain ⟨h1, h2⟩ := hb rfl
        have h3 : le (jn j l[i]) t := by
          unfold le jn mx at *
          constructor <;> (dsimp only; split <;> omega)
        refine Ev.step (fun k => ?_) (ih (i + 1) true (jn j l[i]) (by omega) (fun _ => ⟨of_jn h1 (of_self hm), h3⟩))
        simp only [runnellaw04_MomentCloses.l0]
        rw [if_pos (by omega), if_pos (by omega), rdT l i hil, mle, Option.bind_some, hx, if_pos rfl, if_pos trivial, wrapi hil (by omega)]
        rfl
      | false =>
        refine Ev.step (fun k => ?_) (ih (i + 1) true l[i] (by omega) (fun _ => ⟨of_self hm, hle⟩))
        simp only [runnellaw04_MomentCloses.l0]
        rw [if_pos (by omega), if_pos (by omega), rdT l i hil, mle, Option.bind_some, hx, if_pos rfl, if_neg (by decide), wrapi hil (by omega)]
end Go.Proofs.Ythealffcpcbmhaa.BMomentCloses
