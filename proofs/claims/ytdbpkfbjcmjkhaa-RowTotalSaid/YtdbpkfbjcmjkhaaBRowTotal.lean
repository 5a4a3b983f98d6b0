/- RowTotal: what the printed functions answer, for each input, by plain mathematics. -/
import Derived.Test.YtdbpkfbjcmjkhaaORowTotalx
import Derived.Test.YtdbpkfbjcmjkhaaRowPure
namespace Go.Proofs.Ytdbpkfbjcmjkhaa.BRowTotal
open Go.RowKit Go.Proofs.Ytdbpkfbjcmjkhaa.PRowTotal Go.Proofs.Ytdbpkfbjcmjkhaa.RowPure Go.Proofs.YtdbpkfbjcmjkhaaW.PrintWords Go.Proofs.YtdbpkfbjcmjkhaaW.PrintLast Go.Proofs.YtdbpkfbjcmjkhaaW.PrintMore
set_option linter.unusedVariables false
set_option linter.unusedSimpArgs false
attribute [local irreducible] IntKind.wrap Go.bits shr shl maxLen
/-- A value in the plain words. -/
def toV (x : S28) : V := ⟨x.f0, x.f1, x.f2.toList⟩
def vs (l : List S28) : List V := l.map toV
theorem vs_drop (l : List S28) (i : Nat) (h : i < l.length) : vs (l.drop i) = toV (rd_T28 l (i : Int)) :: vs (l.drop (i + 1)) := by
  rw [List.drop_eq_getElem_cons h]
  show toV l[i] :: vs (l.drop (i + 1)) = _
  rw [show rd_T28 l (i : Int) = l[i] by unfold rd_T28; rw [Int.toNat_natCast, List.getD_eq_getElem?_getD, List.getElem?_eq_getElem h]; rfl]
theorem vs_nil (l : List S28) (i : Nat) (h : l.length ≤ i) : vs (l.drop i) = [] := by rw [List.drop_of_length_le h]; rfl
theorem wrapi {i n : Nat} (h : i < n) (hn : n ≤ maxLen) : wrap64 ((i : Int) + 1) = ((i + 1 : Nat) : Int) := by
  have : maxLen = 9223372036854775807 := by with_unfolding_all rfl
  have e : wrap64 ((i : Int) + 1) = ((i : Int) + 1 + 9223372036854775808) % 18446744073709551616 - 9223372036854775808 := by with_unfolding_all rfl
  rw [e]; omega
theorem cmpInt_f (a b : Int) : cmp_Compare_int.f a b = some (cmpI a b) := by
  unfold cmp_Compare_int.f cmp_isNaN_int.f cmpI
  simp only [Option.bind_some, bne_self_eq_false, Bool.false_eq_true, if_false]
  split
  · rfl
  · split <;> rfl
theorem cmpStr_f (a b : ByteArray) : cmp_Compare_string.f a b = some (cmpS a.toList b.toList) := by
  unfold cmp_Compare_string.f cmp_isNaN_string.f
  rw [cmpS_eq]
  simp only [Option.bind_some, bne_self_eq_false, Bool.false_eq_true, if_false]
  split
  · rfl
  · split <;> rfl
theorem Cmp_f (a b : S28) : row_Cmp.f a.f0 a.f1 a.f2 b.f0 b.f1 b.f2 = some (vcmp (toV a) (toV b)) := by
  unfold row_Cmp.f vcmp toV
  rw [cmpInt_f, cmpInt_f, cmpStr_f]
  simp only [Option.bind_some]
  split
  · split
    · rfl
    · split <;> rfl
  · rfl
theorem CompareFunc_l0 (l m : List S28) (hm : l.length ≤ maxLen) (d : Nat) : ∀ (k i : Nat), i + d = l.length → i ≤ m.length → d < k →
    api_Val.l0 k l m l (l.length : Int) (i : Int) = some (ord (vs (l.drop i)) (vs (m.drop i))) := by
  induction d with
  | zero =>
    intro k i hi him hk
    obtain ⟨k, rfl⟩ : ∃ n, k = n + 1 := ⟨k - 1, by omega⟩
    simp only [api_Val.l0]
    rw [if_neg (by omega), vs_nil l i (by omega)]
    by_cases h : l.length < m.length
    · rw [if_pos (by omega), vs_drop m i (by omega)]; rfl
    · rw [if_neg (by omega), vs_nil m i (by omega)]; rfl
  | succ d ih =>
    intro k i hi him hk
    obtain ⟨k, rfl⟩ : ∃ n, k = n + 1 := ⟨k - 1, by omega⟩
    simp only [api_Val.l0]
    rw [if_pos (by omega), if_pos (by omega), if_pos (by omega), vs_drop l i (by omega)]
    by_cases h : i < m.length
    · rw [if_neg (by omega), if_pos (by omega), Cmp_f, vs_drop m i h]
      simp only [Option.bind_some]
      rw [wrapi (n := l.length) (by omega) hm, ih k (i + 1) (by omega) (by omega) (by omega)]
      show _ = some (if vcmp _ _ = 0 then ord _ _ else vcmp _ _)
      split <;> rfl
    · rw [if_pos (by omega), vs_nil m i (by omega)]; rfl
theorem Order_f {k : Nat} (l m : List S28) (hm : l.length ≤ maxLen) (hk : l.length < k) : row_Order.f k l m = some (ord (vs l) (vs m)) := by
  unfold row_Order.f api_Val.f
  have h := CompareFunc_l0 l m hm l.length k 0 (by omega) (by omega) hk
  rw [show ((0 : Nat) : Int) = 0 from rfl] at h
  rw [h]
  rfl
theorem Long_l0 (l : List S28) (hm : l.length ≤ maxLen) (d : Nat) : ∀ (k i : Nat), i + d = l.length → d < k → ∃ b, runnelref03_Long.l0 k l (i : Int) = some b ∧ (b = false → ∀ x ∈ l.drop i, x.f2.size ≤ 5000) := by
  induction d with
  | zero =>
    intro k i hi hk
    obtain ⟨k, rfl⟩ : ∃ n, k = n + 1 := ⟨k - 1, by omega⟩
    simp only [runnelref03_Long.l0]
    rw [if_neg (by omega)]
    exact ⟨false, rfl, fun _ => by rw [List.drop_of_length_le (by omega)]; simp⟩
  | succ d ih =>
    intro k i hi hk
    obtain ⟨k, rfl⟩ : ∃ n, k = n + 1 := ⟨k - 1, by omega⟩
    simp only [runnelref03_Long.l0]
    rw [if_pos (by omega), if_pos (by omega)]
    have hi' : i < l.length := by omega
    have e : rd_T28 l (i : Int) = l[i] := by unfold rd_T28; rw [Int.toNat_natCast, List.getD_eq_getElem?_getD, List.getElem?_eq_getElem hi']; rfl
    rw [e]
    by_cases h : (l[i].f2.size : Int) > 5000
    · rw [if_pos h]; exact ⟨true, rfl, fun e => by cases e⟩
    · rw [if_neg h, wrapi (n := l.length) hi' hm]
      obtain ⟨b, hb, hf⟩ := ih k (i + 1) (by omega) (by omega)
      refine ⟨b, hb, fun e x hx => ?_⟩
      rw [List.drop_eq_getElem_cons hi'] at hx
      rcases List.mem_cons.1 hx with rfl | hx
      · omega
      · exact hf e x hx
theorem Long_f {k : Nat} (l : List S28) (hm : l.length ≤ maxLen) (hk : l.length < k) : ∃ b, runnelref03_Long.f k l = some b ∧ (b = false → l.length ≤ 30 ∧ ∀ x ∈ l, x.f2.size ≤ 5000) := by
  unfold runnelref03_Long.f
  by_cases h : (l.length : Int) > 30
  · rw [if_pos h]; exact ⟨true, rfl, fun e => by cases e⟩
  · rw [if_neg h]
    obtain ⟨b, hb, hf⟩ := Long_l0 l hm l.length k 0 (by omega) hk
    exact ⟨b, hb, fun e => ⟨by omega, by simpa using hf e⟩⟩
theorem live_60 : runnellaw03_live.f 60 = some true := by decide +kernel
theorem live_f {k : Nat} (hk : 60 ≤ k) : runnellaw03_live.f k = some true := at_rounds runnellaw03_live.mono hk live_60
theorem Join_l0 (ls : List (List S28)) (hm : ls.length ≤ maxLen) (d : Nat) : ∀ (k i : Nat) (acc : List S28), i + d = ls.length → d < k → acc.length + (ls.drop i).flatten.length < 4398046511104 →
    row_Join.l0 k acc ls (ls.length : Int) (i : Int) = some (acc ++ (ls.drop i).flatten) := by
  induction d with
  | zero =>
    intro k i acc hi hk hl
    obtain ⟨k, rfl⟩ : ∃ n, k = n + 1 := ⟨k - 1, by omega⟩
    simp only [row_Join.l0]
    rw [if_neg (by omega), List.drop_of_length_le (by omega)]
    simp
  | succ d ih =>
    intro k i acc hi hk hl
    obtain ⟨k, rfl⟩ : ∃ n, k = n + 1 := ⟨k - 1, by omega⟩
    have hi' : i < ls.length := by omega
    simp only [row_Join.l0]
    have e : rd_L4 ls (i : Int) = ls[i] := by unfold rd_L4; rw [Int.toNat_natCast, List.getD_eq_getElem?_getD, List.getElem?_eq_getElem hi']; rfl
    have e2 : (ls.drop i).flatten = ls[i] ++ (ls.drop (i + 1)).flatten := by rw [List.drop_eq_getElem_cons hi', List.flatten_cons]
    rw [e2] at hl ⊢
    rw [List.length_append] at hl
    rw [if_pos (by omega), if_pos (by omega), if_pos (by omega), e, if_pos (by omega), wrapi (n := ls.length) hi' hm, ih k (i + 1) _ (by omega) (by omega) (by rw [List.length_append]; omega), List.append_assoc]
theorem Join_f {k : Nat} (ls : List (List S28)) (hm : ls.length ≤ maxLen) (hk : ls.length < k) (hl : ls.flatten.length < 4398046511104) : row_Join.f k ls = some ls.flatten := by
  unfold row_Join.f
  have h := Join_l0 ls hm ls.length k 0 [] (by omega) hk (by simpa using hl)
  rw [show ((0 : Nat) : Int) = 0 from rfl] at h
  rw [h]
  simp
end Go.Proofs.Ytdbpkfbjcmjkhaa.BRowTotal
