/- HoldPlays: what the printed functions answer, for each input, by plain mathematics. -/
import Derived.Test.YtednmkmhileikaaOHoldPlaysx
import Derived.Test.YtednmkmhileikaaRowPure
namespace Go.Proofs.Ytednmkmhileikaa.B2HoldPlays
open Go.RowKit Go.Proofs.Ytednmkmhileikaa.PHoldPlays Go.Proofs.Ytednmkmhileikaa.RowPure Go.Proofs.YtednmkmhileikaaW.PrintWords Go.Proofs.YtednmkmhileikaaW.PrintLast Go.Proofs.YtednmkmhileikaaW.PrintMore
set_option linter.unusedVariables false
set_option linter.unusedSimpArgs false
attribute [local irreducible] IntKind.wrap Go.bits shr shl maxLen
/-- A value in the plain words. -/
def toV (x : S61) : V := ⟨x.f0, x.f1, x.f2.toList⟩
def vs (l : List S61) : List V := l.map toV
theorem vs_drop (l : List S61) (i : Nat) (h : i < l.length) : vs (l.drop i) = toV (rd_T61 l (i : Int)) :: vs (l.drop (i + 1)) := by
  rw [List.drop_eq_getElem_cons h]
  show toV l[i] :: vs (l.drop (i + 1)) = _
  rw [show rd_T61 l (i : Int) = l[i] by unfold rd_T61; rw [Int.toNat_natCast, List.getD_eq_getElem?_getD, List.getElem?_eq_getElem h]; rfl]
theorem vs_nil (l : List S61) (i : Nat) (h : l.length ≤ i) : vs (l.drop i) = [] := by rw [List.drop_of_length_le h]; rfl
theorem wrapi {i n : Nat} (h : i < n) (hn : n ≤ maxLen) : wrap64 ((i : Int) + 1) = ((i + 1 : Nat) : Int) := by
  have : maxLen = 9223372036854775807 := by with_unfolding_all rfl
  have e : wrap64 ((i : Int) + 1) = ((i : Int) + 1 + 9223372036854775808) % 18446744073709551616 - 9223372036854775808 := by with_unfolding_all rfl
  rw [e]; omega
theorem cmpInt_f (a b : Int) : cmp_Compare_int.f a b = some (cmpI a b) := by
  unfold cmp_Compare_int.f cmp_isNaN_int.f cmpI
  simp only [Option.bind_some, bne_self_eq_false, Bool.false_eq_true, if_false]
  split
  · rfl
  · split <;> rfl
theorem cmpStr_f (a b : ByteArray) : cmp_Compare_string.f a b = some (cmpS a.toList b.toList) := by
  unfold cmp_Compare_string.f cmp_isNaN_string.f
  rw [cmpS_eq]
  simp only [Option.bind_some, bne_self_eq_false, Bool.false_eq_true, if_false]
  split
  · rfl
  · split <;> rfl
theorem Cmp_f (a b : S61) : row_Cmp.f a.f0 a.f1 a.f2 b.f0 b.f1 b.f2 = some (vcmp (toV a) (toV b)) := by
  unfold row_Cmp.f vcmp toV
  rw [cmpInt_f, cmpInt_f, cmpStr_f]
  simp only [Option.bind_some]
  split
  · split
    · rfl
    · split <;> rfl
  · rfl
theorem CompareFunc_l0 (l m : List S61) (hm : l.length ≤ maxLen) (d : Nat) : ∀ (k i : Nat), i + d = l.length → i ≤ m.length → d < k →
    api_Val_60.l0 k l m l (l.length : Int) (i : Int) = some (ord (vs (l.drop i)) (vs (m.drop i))) := by
  induction d with
  | zero =>
    intro k i hi him hk
    obtain ⟨k, rfl⟩ : ∃ n, k = n + 1 := ⟨k - 1, by omega⟩
    simp only [api_Val_60.l0]
    rw [if_neg (by omega), vs_nil l i (by omega)]
    by_cases h : l.length < m.length
    · rw [if_pos (by omega), vs_drop m i (by omega)]; rfl
    · rw [if_neg (by omega), vs_nil m i (by omega)]; rfl
  | succ d ih =>
    intro k i hi him hk
    obtain ⟨k, rfl⟩ : ∃ n, k = n + 1 := ⟨k - 1, by omega⟩
    simp only [api_Val_60.l0]
    rw [if_pos (by omega), if_pos (by omega), if_pos (by omega), vs_drop l i (by omega)]
    by_cases h : i < m.length
    · rw [if_neg (by omega), if_pos (by omega), Cmp_f, vs_drop m i h]
      simp only [Option.bind_some]
      rw [wrapi (n := l.length) (by omega) hm, ih k (i + 1) (by omega) (by omega) (by omega)]
      show _ = some (if vcmp _ _ = 0 then ord _ _ else vcmp _ _)
      split <;> rfl
    · rw [if_pos (by omega), vs_nil m i (by omega)]; rfl
theorem Order_f {k : Nat} (l m : List S61) (hm : l.length ≤ maxLen) (hk : l.length < k) : row_Order.f k l m = some (ord (vs l) (vs m)) := by
  unfold row_Order.f api_Val_60.f
  have h := CompareFunc_l0 l m hm l.length k 0 (by omega) (by omega) hk
  rw [show ((0 : Nat) : Int) = 0 from rfl] at h
  rw [h]
  rfl
theorem RCmp_f {k : Nat} (a b : S61) (hk : 1 ≤ k) : runnelref03_Cmp.f k a.f0 a.f1 a.f2 b.f0 b.f1 b.f2 = some (vcmp (toV a) (toV b)) := by
  obtain ⟨k, rfl⟩ : ∃ n, k = n + 1 := ⟨k - 1, by omega⟩
  unfold runnelref03_Cmp.f vcmp toV
  simp only [runnelref03_Cmp.j0]
  rw [cmpS_eq]
  unfold cmpI
  by_cases h1 : a.f0 = b.f0
  · by_cases h2 : a.f0 = 0
    · have h3 : ¬ (a.f0 = 1) := by omega
      simp only [h1] at h2 h3 ⊢
      by_cases h4 : a.f1 < b.f1
      · simp [h2, h4]
      · by_cases h5 : b.f1 < a.f1
        · simp [h2, h4, h5]
        · simp [h2, h4, h5]
    · by_cases h3 : a.f0 = 1
      · simp only [h1] at h2 h3 ⊢
        by_cases h4 : Op.bytesLess a.f2.toList b.f2.toList = true
        · simp [h3, h4]
        · by_cases h5 : Op.bytesLess b.f2.toList a.f2.toList = true
          · simp [h3, h4, h5]
          · simp [h3, h4, h5]
      · simp only [h1] at h2 h3 ⊢
        simp [h2, h3]
  · by_cases h4 : a.f0 < b.f0
    · simp [h1, h4]
    · by_cases h5 : b.f0 < a.f0
      · simp [h1, h4, h5]
      · omega
theorem ROrder_l0 (l m : List S61) (hm : l.length ≤ maxLen) (d : Nat) : ∀ (k i : Nat), i + d = l.length → i ≤ m.length → 2 * d + 2 < k →
    runnelref03_Order.l0 k l m (i : Int) = some (ord (vs (l.drop i)) (vs (m.drop i))) := by
  induction d with
  | zero =>
    intro k i hi him hk
    obtain ⟨k, rfl⟩ : ∃ n, k = n + 1 + 1 := ⟨k - 2, by omega⟩
    simp only [runnelref03_Order.l0, runnelref03_Order.j1]
    rw [if_neg (by omega), if_neg (show ¬ (false = true) by decide), vs_nil l i (by omega)]
    by_cases h : l.length < m.length
    · rw [if_pos (by omega), vs_drop m i (by omega)]; rfl
    · rw [if_neg (by omega), if_neg (by omega), vs_nil m i (by omega)]; rfl
  | succ d ih =>
    intro k i hi him hk
    obtain ⟨k, rfl⟩ : ∃ n, k = n + 1 + 1 := ⟨k - 2, by omega⟩
    simp only [runnelref03_Order.l0, runnelref03_Order.j1]
    rw [if_pos (by omega), vs_drop l i (by omega)]
    by_cases h : i < m.length
    · rw [decide_eq_true (by omega), if_pos rfl, if_pos (by omega), if_pos (by omega), if_pos (by omega), RCmp_f _ _ (by omega), vs_drop m i h]
      simp only [Option.bind_some]
      rw [wrapi (n := l.length) (by omega) hm, ih k (i + 1) (by omega) (by omega) (by omega)]
      show _ = some (if vcmp _ _ = 0 then ord _ _ else vcmp _ _)
      split <;> rfl
    · rw [decide_eq_false (by omega), if_neg (show ¬ (false = true) by decide), if_neg (by omega), if_pos (by omega), vs_nil m i (by omega)]; rfl
theorem ROrder_f {k : Nat} (l m : List S61) (hm : l.length ≤ maxLen) (hk : 2 * l.length + 2 < k) : runnelref03_Order.f k l m = some (ord (vs l) (vs m)) := by
  unfold runnelref03_Order.f
  exact ROrder_l0 l m hm l.length k 0 (by omega) (by omega) hk
theorem Long_l0 (l : List S61) (hm : l.length ≤ maxLen) (d : Nat) : ∀ (k i : Nat), i + d = l.length → d < k → ∃ b, runnelref03_Long.l0 k l (i : Int) = some b ∧ (b = false → ∀ x ∈ l.drop i, x.f2.size ≤ 5000) := by
  induction d with
  | zero =>
    intro k i hi hk
    obtain ⟨k, rfl⟩ : ∃ n, k = n + 1 := ⟨k - 1, by omega⟩
    simp only [runnelref03_Long.l0]
    rw [if_neg (by omega)]
    exact ⟨false, rfl, fun _ => by rw [List.drop_of_length_le (by omega)]; simp⟩
  | succ d ih =>
    intro k i hi hk
    obtain ⟨k, rfl⟩ : ∃ n, k = n + 1 := ⟨k - 1, by omega⟩
    simp only [runnelref03_Long.l0]
    rw [if_pos (by omega), if_pos (by omega)]
    have hi' : i < l.length := by omega
    have e : rd_T61 l (i : Int) = l[i] := by unfold rd_T61; rw [Int.toNat_natCast, List.getD_eq_getElem?_getD, List.getElem?_eq_getElem hi']; rfl
    rw [e]
    by_cases h : (l[i].f2.size : Int) > 5000
    · rw [if_pos h]; exact ⟨true, rfl, fun e => by cases e⟩
    · rw [if_neg h, wrapi (n := l.length) hi' hm]
      obtain ⟨b, hb, hf⟩ := ih k (i + 1) (by omega) (by omega)
      refine ⟨b, hb, fun e x hx => ?_⟩
      rw [List.drop_eq_getElem_cons hi'] at hx
      rcases List.mem_cons.1 hx with rfl | hx
      · omega
      · exact hf e x hx
theorem Long_f {k : Nat} (l : List S61) (hm : l.length ≤ maxLen) (hk : l.length < k) : ∃ b, runnelref03_Long.f k l = some b ∧ (b = false → l.length ≤ 30 ∧ ∀ x ∈ l, x.f2.size ≤ 5000) := by
  unfold runnelref03_Long.f
  by_cases h : (l.length : Int) > 30
  · rw [if_pos h]; exact ⟨true, rfl, fun e => by cases e⟩
  · rw [if_neg h]
    obtain ⟨b, hb, hf⟩ := Long_l0 l hm l.length k 0 (by omega) hk
    exact ⟨b, hb, fun e => ⟨by omega, by simpa using hf e⟩⟩
end Go.Proofs.Ytednmkmhileikaa.B2HoldPlays
