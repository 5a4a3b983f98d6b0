/- QueuePlays: the plain facts that the walk asks for. -/
import Derived.Test.YtbaboemhjcdpbaaBQueuePlays
import Derived.Test.YtbaboemhjcdpbaaB2QueuePlays
import Derived.Test.YtbaboemhjcdpbaaH12
namespace Go.Proofs.Ytbaboemhjcdpbaa.Q
open Go.RowKit Go.Proofs.YtbaboemhjcdpbaaW.PrintWords Go.Proofs.YtbaboemhjcdpbaaW.PrintLast Go.Proofs.YtbaboemhjcdpbaaW.PrintMore Go.Proofs.Ytbaboemhjcdpbaa.PQueuePlays
set_option linter.unusedVariables false
set_option linter.unusedSimpArgs false
attribute [local irreducible] IntKind.wrap Go.bits shr shl maxLen
theorem wrapk {i n : Nat} (h : i < n) (hn : n ≤ 1000000) : wrap64 ((i : Int) + 1) = ((i + 1 : Nat) : Int) := by
 unfold wrap64; omega
theorem rd42 (l : List S42) (i : Nat) (h : i < l.length) : rd_T42 l (i : Int) = l[i] := by unfold rd_T42; rw [Int.toNat_natCast, List.getD_eq_getElem?_getD, List.getElem?_eq_getElem h]; rfl
theorem rd36 (l : List S36) (i : Nat) (h : i < l.length) : rd_T36 l (i : Int) = l[i] := by unfold rd_T36; rw [Int.toNat_natCast, List.getD_eq_getElem?_getD, List.getElem?_eq_getElem h]; rfl
theorem same_self (u : S42) (hm : u.f0.length ≤ maxLen) : ∃ k, runnelref07_Same.f k [u] [u] = some true := by
 refine ⟨2 * u.f0.length + 5, ?_⟩
 have ho : runnelref07_Order.f (2 * u.f0.length + 4) u.f0 u.f1.f0 u.f1.f1 u.f2 u.f0 u.f1.f0 u.f1.f1 u.f2 = some 0 := by
  unfold runnelref07_Order.f
  rw [B2QueuePlays.ROrder_f u.f0 u.f0 hm (by omega), RowPure.ord_ok.refl]
  simp [runnelref04_Order.f]
 have hr : rd_T42 [u] 0 = u := rfl
 unfold runnelref07_Same.f
 rw [if_pos rfl]
 simp only [runnelref07_Same.l0]
 rw [if_pos (by simp), if_pos (by omega), if_pos (by simp), hr, ho]
 simp only [Option.bind_some, if_true]
 have hw : wrap64 (0 + 1) = 1 := by unfold wrap64; omega
 rw [hw]
 simp
theorem much7_l0 (l : List S42) (hl : l.length ≤ 1000000) (hm : ∀ u ∈ l, u.f0.length ≤ maxLen) (n : Nat) (hn : ∀ u ∈ l, u.f0.length ≤ n) (d : Nat) : ∀ (k i : Nat), i + d = l.length → d + n < k → ∃ b, runnelref07_Much.l0 k l (i : Int) = some b ∧ (b = false → ∀ x ∈ l.drop i, x.f0.length ≤ 30) := by
 induction d with
 | zero =>
  intro k i hi hk
  obtain ⟨k, rfl⟩ : ∃ n, k = n + 1 := ⟨k - 1, by omega⟩
  simp only [runnelref07_Much.l0]
  rw [if_neg (by omega)]
  exact ⟨false, rfl, fun _ => by rw [List.drop_of_length_le (by omega)]; simp⟩
 | succ d ih =>
  intro k i hi hk
  obtain ⟨k, rfl⟩ : ∃ n, k = n + 1 := ⟨k - 1, by omega⟩
  simp only [runnelref07_Much.l0]
  have hi' : i < l.length := by omega
  rw [if_pos (by omega), if_pos (by omega), rd42 l i hi']
  have hx := hn l[i] (List.getElem_mem hi')
  obtain ⟨b, hb, hf⟩ := B2QueuePlays.Long_f (k := k) l[i].f0 (hm _ (List.getElem_mem hi')) (by omega)
  rw [hb]
  simp only [Option.bind_some]
  cases b with
  | true => exact ⟨true, rfl, fun e => by cases e⟩
  | false =>
   rw [if_neg (by simp), wrapk hi' hl]
   obtain ⟨b2, hb2, hf2⟩ := ih k (i + 1) (by omega) (by omega)
   refine ⟨b2, hb2, fun e x hx => ?_⟩
   rw [List.drop_eq_getElem_cons hi'] at hx
   rcases List.mem_cons.1 hx with rfl | hx
   · exact (hf rfl).1
   · exact hf2 e x hx
theorem much7 (l : List S42) (hm : ∀ u ∈ l, u.f0.length ≤ maxLen) (n : Nat) (hn : ∀ u ∈ l, u.f0.length ≤ n) (k : Nat) (hk : n + 100 < k) : ∃ b, runnelref07_Much.f k l = some b ∧ (b = false → l.length ≤ 60 ∧ ∀ x ∈ l, x.f0.length ≤ 30) := by
 unfold runnelref07_Much.f
 by_cases h : (l.length : Int) > 60
 · rw [if_pos h]; exact ⟨true, rfl, fun e => by cases e⟩
 · rw [if_neg h]
   obtain ⟨b, hb, hf⟩ := much7_l0 l (by omega) hm n hn l.length k 0 (by omega) (by omega)
   exact ⟨b, hb, fun e => ⟨by omega, by simpa using hf e⟩⟩
theorem much19_l0 (l : List S36) (hl : l.length ≤ 1000000) (hm : ∀ a ∈ l, ∀ u ∈ a.f1, u.f0.length ≤ maxLen) (n : Nat) (hn : ∀ a ∈ l, ∀ u ∈ a.f1, u.f0.length ≤ n) (d : Nat) : ∀ (k i : Nat), i + d = l.length → d + n + 101 < k → ∃ b, runnellaw19_Much.l0 k l (i : Int) = some b ∧ (b = false → ∀ a ∈ l.drop i, a.f1.length ≤ 60 ∧ ∀ x ∈ a.f1, x.f0.length ≤ 30) := by
 induction d with
 | zero =>
  intro k i hi hk
  obtain ⟨k, rfl⟩ : ∃ n, k = n + 1 := ⟨k - 1, by omega⟩
  simp only [runnellaw19_Much.l0]
  rw [if_neg (by omega)]
  exact ⟨false, rfl, fun _ => by rw [List.drop_of_length_le (by omega)]; simp⟩
 | succ d ih =>
  intro k i hi hk
  obtain ⟨k, rfl⟩ : ∃ n, k = n + 1 := ⟨k - 1, by omega⟩
  simp only [runnellaw19_Much.l0]
  have hi' : i < l.length := by omega
  rw [if_pos (by omega), if_pos (by omega), rd36 l i hi']
  obtain ⟨b, hb, hf⟩ := much7 l[i].f1 (hm _ (List.getElem_mem hi')) n (hn _ (List.getElem_mem hi')) k (by omega)
  rw [hb]
  simp only [Option.bind_some]
  cases b with
  | true => exact ⟨true, rfl, fun e => by cases e⟩
  | false =>
   rw [if_neg (by simp), wrapk hi' hl]
   obtain ⟨b2, hb2, hf2⟩ := ih k (i + 1) (by omega) (by omega)
   refine ⟨b2, hb2, fun e x hx => ?_⟩
   rw [List.drop_eq_getElem_cons hi'] at hx
   rcases List.mem_cons.1 hx with rfl | hx
   · exact hf rfl
   · exact hf2 e x hx
theorem bound_rows : ∀ (l : List S36), ∃ n, ∀ a ∈ l, ∀ u ∈ a.f1, u.f0.length ≤ n := by
 have h1 : ∀ us : List S42, ∃ n, ∀ u ∈ us, u.f0.length ≤ n := by
  intro us
  induction us with
  | nil => exact ⟨0, fun u hu => by simp at hu⟩
  | cons u us ih =>
   obtain ⟨n, hn⟩ := ih
   refine ⟨max n u.f0.length, fun x hx => ?_⟩
   rcases List.mem_cons.1 hx with rfl | hx
   · exact Nat.le_max_right _ _
   · exact Nat.le_trans (hn x hx) (Nat.le_max_left _ _)
 intro l
 induction l with
 | nil => exact ⟨0, fun a ha => by simp at ha⟩
 | cons a l ih =>
  obtain ⟨n, hn⟩ := ih
  obtain ⟨m, hm⟩ := h1 a.f1
  refine ⟨max n m, fun x hx u hu => ?_⟩
  rcases List.mem_cons.1 hx with rfl | hx
  · exact Nat.le_trans (hm u hu) (Nat.le_max_right _ _)
  · exact Nat.le_trans (hn x hx u hu) (Nat.le_max_left _ _)
theorem much19 (l : List S36) (hm : ∀ a ∈ l, ∀ u ∈ a.f1, u.f0.length ≤ maxLen) : ∃ k b, runnellaw19_Much.f k l = some b ∧ (b = false → l.length ≤ 100 ∧ ∀ a ∈ l, a.f1.length ≤ 60 ∧ ∀ x ∈ a.f1, x.f0.length ≤ 30) := by
 obtain ⟨n, hn⟩ := bound_rows l
 refine ⟨n + 300, ?_⟩
 unfold runnellaw19_Much.f
 by_cases h : (l.length : Int) > 100
 · rw [if_pos h]; exact ⟨true, rfl, fun e => by cases e⟩
 · rw [if_neg h]
   obtain ⟨b, hb, hf⟩ := much19_l0 l (by omega) hm n hn l.length (n + 300) 0 (by omega) (by omega)
   exact ⟨b, hb, fun e => ⟨by omega, by simpa using hf e⟩⟩
theorem lower_ev (us : List S42) (hl : us.length ≤ 6000) (d : Nat) : ∀ (i : Nat) (acc : List S40), i + d = us.length → acc = (us.take i).map (·.f1) → Ev (fun k => runnelref07_Lower.l0 k us acc (i : Int)) (BQueuePlays.lst (us.map (·.f1))) := by
 induction d with
 | zero =>
  intro i acc hi ha
  have h1 : acc = us.map (·.f1) := by rw [ha, List.take_of_length_le (by omega)]
  rw [h1]
  refine Ev.step (f := fun k => (runnelref05_New.f k (us.map (·.f1))).bind fun t => some t) (fun k => ?_) ?_
  · simp only [runnelref07_Lower.l0]
    rw [if_neg (by omega)]
  · exact Ev.bind (f := fun _ t => some t) (BQueuePlays.RNew_ev _ (by simp; omega)) (Ev.now _)
 | succ d ih =>
  intro i acc hi ha
  have hi' : i < us.length := by omega
  have hal : acc.length = i := by rw [ha]; simp; omega
  refine Ev.step (f := fun k => runnelref07_Lower.l0 k us (acc ++ [us[i].f1]) ((i + 1 : Nat) : Int)) (fun k => ?_) (ih (i + 1) _ (by omega) ?_)
  · simp only [runnelref07_Lower.l0]
    rw [if_pos (by omega), if_pos (by omega), if_pos (by omega), rd42 us i hi', wrapk hi' (by omega)]
  · have e : us.take (i + 1) = us.take i ++ [us[i]] := List.take_succ_eq_append_getElem hi'
    rw [ha, e, List.map_append]
    rfl
theorem good (l : List S36) (hm : ∀ a ∈ l, ∀ u ∈ a.f1, u.f0.length ≤ maxLen) : ∃ b, Good l b := by
 obtain ⟨km, b, hb, hf⟩ := much19 l hm
 refine ⟨b, ⟨km, hb⟩, fun e => ⟨(hf e).1, fun a ha => ⟨((hf e).2 a ha).1, fun u hu => by have := ((hf e).2 a ha).2 u hu; omega⟩⟩, fun e a ha u hu => same_self u (hm a ha u hu), fun e us hus hlen => ?_⟩
 have h1 : Ev (fun k => runnelref07_Lower.f k us) (BQueuePlays.lst (us.map (·.f1))) := lower_ev us hlen us.length 0 [] (by omega) rfl
 have h2 := BQueuePlays.New_ev (us.map (·.f1)) (by simp; omega)
 have hll := BQueuePlays.lst_len (us.map (·.f1))
 have h3 := BQueuePlays.RSame_refl (BQueuePlays.lst (us.map (·.f1))) (by simp at hll; omega)
 obtain ⟨k1, h1⟩ := h1
 obtain ⟨k2, h2⟩ := h2
 obtain ⟨k3, h3⟩ := h3
 refine ⟨BQueuePlays.lst (us.map (·.f1)), max k1 k3, ?_, h1 _ (Nat.le_max_left _ _), h3 _ (Nat.le_max_right _ _)⟩
 intro w A c hC hc
 refine (front_New.calls k2 A c _ _ w hC hc (h2 k2 (Nat.le_refl _))).mono ?_
 rintro e w' ⟨v, rfl, hR, hB⟩
 exact ⟨v, rfl, hR, hB⟩
end Go.Proofs.Ytbaboemhjcdpbaa.Q
