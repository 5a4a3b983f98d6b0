/- RowChecks: what the printed functions answer, for each input, by plain mathematics. -/
import Derived.Test.YtdbpkfbjcmjkhaaORowChecksx
import Derived.Test.YtdbpkfbjcmjkhaaRowPure
namespace Go.Proofs.Ytdbpkfbjcmjkhaa.BRowChecks
open Go.RowKit Go.Proofs.Ytdbpkfbjcmjkhaa.PRowChecks Go.Proofs.Ytdbpkfbjcmjkhaa.RowPure Go.Proofs.YtdbpkfbjcmjkhaaW.PrintWords Go.Proofs.YtdbpkfbjcmjkhaaW.PrintLast Go.Proofs.YtdbpkfbjcmjkhaaW.PrintMore
set_option linter.unusedVariables false
set_option linter.unusedSimpArgs false
attribute [local irreducible] IntKind.wrap Go.bits shr shl maxLen
/-- A value in the plain words. -/
def toV (x : S28) : V := ⟨x.f0, x.f1, x.f2.toList⟩
def vs (l : List S28) : List V := l.map toV
theorem vs_drop (l : List S28) (i : Nat) (h : i < l.length) : vs (l.drop i) = toV (rd_T28 l (i : Int)) :: vs (l.drop (i + 1)) := by
  rw [List.drop_eq_getElem_cons h]
  show toV l[i] :: vs (l.drop (i + 1)) = _
  rw [show rd_T28 l (i : Int) = l[i] by unfold rd_T28; rw [Int.toNat_natCast, List.getD_eq_getElem?_getD, List.getElem?_eq_getElem h]; rfl]
theorem vs_nil (l : List S28) (i : Nat) (h : l.length ≤ i) : vs (l.drop i) = [] := by rw [List.drop_of_length_le h]; rfl
theorem wrapi {i n : Nat} (h : i < n) (hn : n ≤ maxLen) : wrap64 ((i : Int) + 1) = ((i + 1 : Nat) : Int) := by
  have : maxLen = 9223372036854775807 := by with_unfolding_all rfl
  have e : wrap64 ((i : Int) + 1) = ((i : Int) + 1 + 9223372036854775808) % 18446744073709551616 - 9223372036854775808 := by with_unfolding_all rfl
  rw [e]; omega
theorem cmpInt_f (a b : Int) : cmp_Compare_int.f a b = some (cmpI a b) := by
  unfold cmp_Compare_int.f cmp_isNaN_int.f cmpI
  simp only [Option.bind_some, bne_self_eq_false, Bool.false_eq_true, if_false]
  split
  · rfl
  · split <;> rfl
theorem cmpStr_f (a b : ByteArray) : cmp_Compare_string.f a b = some (cmpS a.toList b.toList) := by
  unfold cmp_Compare_string.f cmp_isNaN_string.f
  rw [cmpS_eq]
  simp only [Option.bind_some, bne_self_eq_false, Bool.false_eq_true, if_false]
  split
  · rfl
  · split <;> rfl
theorem Cmp_f (a b : S28) : row_Cmp.f a.f0 a.f1 a.f2 b.f0 b.f1 b.f2 = some (vcmp (toV a) (toV b)) := by
  unfold row_Cmp.f vcmp toV
  rw [cmpInt_f, cmpInt_f, cmpStr_f]
  simp only [Option.bind_some]
  split
  · split
    · rfl
    · split <;> rfl
  · rfl
theorem CompareFunc_l0 (l m : List S28) (hm : l.length ≤ maxLen) (d : Nat) : ∀ (k i : Nat), i + d = l.length → i ≤ m.length → d < k →
    api_Val.l0 k l m l (l.length : Int) (i : Int) = some (ord (vs (l.drop i)) (vs (m.drop i))) := by
  induction d with
  | zero =>
    intro k i hi him hk
    obtain ⟨k, rfl⟩ : ∃ n, k = n + 1 := ⟨k - 1, by omega⟩
    simp only [api_Val.l0]
    rw [if_neg (by omega), vs_nil l i (by omega)]
    by_cases h : l.length < m.length
    · rw [if_pos (by omega), vs_drop m i (by omega)]; rfl
    · rw [if_neg (by omega), vs_nil m i (by omega)]; rfl
  | succ d ih =>
    intro k i hi him hk
    obtain ⟨k, rfl⟩ : ∃ n, k = n + 1 := ⟨k - 1, by omega⟩
    simp only [api_Val.l0]
    rw [if_pos (by omega), if_pos (by omega), if_pos (by omega), vs_drop l i (by omega)]
    by_cases h : i < m.length
    · rw [if_neg (by omega), if_pos (by omega), Cmp_f, vs_drop m i h]
      simp only [Option.bind_some]
      rw [wrapi (n := l.length) (by omega) hm, ih k (i + 1) (by omega) (by omega) (by omega)]
      show _ = some (if vcmp _ _ = 0 then ord _ _ else vcmp _ _)
      split <;> rfl
    · rw [if_pos (by omega), vs_nil m i (by omega)]; rfl
theorem Order_f {k : Nat} (l m : List S28) (hm : l.length ≤ maxLen) (hk : l.length < k) : row_Order.f k l m = some (ord (vs l) (vs m)) := by
  unfold row_Order.f api_Val.f
  have h := CompareFunc_l0 l m hm l.length k 0 (by omega) (by omega) hk
  rw [show ((0 : Nat) : Int) = 0 from rfl] at h
  rw [h]
  rfl
theorem Long_l0 (l : List S28) (hm : l.length ≤ maxLen) (d : Nat) : ∀ (k i : Nat), i + d = l.length → d < k → ∃ b, runnelref03_Long.l0 k l (i : Int) = some b ∧ (b = false → ∀ x ∈ l.drop i, x.f2.size ≤ 5000) := by
  induction d with
  | zero =>
    intro k i hi hk
    obtain ⟨k, rfl⟩ : ∃ n, k = n + 1 := ⟨k - 1, by omega⟩
    simp only [runnelref03_Long.l0]
    rw [if_neg (by omega)]
    exact ⟨false, rfl, fun _ => by rw [List.drop_of_length_le (by omega)]; simp⟩
  | succ d ih =>
    intro k i hi hk
    obtain ⟨k, rfl⟩ : ∃ n, k = n + 1 := ⟨k - 1, by omega⟩
    simp only [runnelref03_Long.l0]
    rw [if_pos (by omega), if_pos (by omega)]
    have hi' : i < l.length := by omega
    have e : rd_T28 l (i : Int) = l[i] := by unfold rd_T28; rw [Int.toNat_natCast, List.getD_eq_getElem?_getD, List.getElem?_eq_getElem hi']; rfl
    rw [e]
    by_cases h : (l[i].f2.size : Int) > 5000
    · rw [if_pos h]; exact ⟨true, rfl, fun e => by cases e⟩
    · rw [if_neg h, wrapi (n := l.length) hi' hm]
      obtain ⟨b, hb, hf⟩ := ih k (i + 1) (by omega) (by omega)
      refine ⟨b, hb, fun e x hx => ?_⟩
      rw [List.drop_eq_getElem_cons hi'] at hx
      rcases List.mem_cons.1 hx with rfl | hx
      · omega
      · exact hf e x hx
theorem Long_f {k : Nat} (l : List S28) (hm : l.length ≤ maxLen) (hk : l.length < k) : ∃ b, runnelref03_Long.f k l = some b ∧ (b = false → l.length ≤ 30 ∧ ∀ x ∈ l, x.f2.size ≤ 5000) := by
  unfold runnelref03_Long.f
  by_cases h : (l.length : Int) > 30
  · rw [if_pos h]; exact ⟨true, rfl, fun e => by cases e⟩
  · rw [if_neg h]
    obtain ⟨b, hb, hf⟩ := Long_l0 l hm l.length k 0 (by omega) hk
    exact ⟨b, hb, fun e => ⟨by omega, by simpa using hf e⟩⟩
theorem live_60 : runnellaw03_live.f 60 = some true := by decide +kernel
theorem live_f {k : Nat} (hk : 60 ≤ k) : runnellaw03_live.f k = some true := at_rounds runnellaw03_live.mono hk live_60
theorem rd_at (l : List S28) (i : Nat) (h : i < l.length) : rd_T28 l (i : Int) = l[i] := by unfold rd_T28; rw [Int.toNat_natCast, List.getD_eq_getElem?_getD, List.getElem?_eq_getElem h]; rfl
/-- P3.2: what is wrong with values. -/
def chkL : List S28 → Int
  | [] => 0
  | x :: l => if x.f0 = 1 then (if (x.f2.size : Int) > 4096 then 2 else chkL l) else if x.f0 = 0 then chkL l else 8
def chk (l : List S28) : Int := if (l.length : Int) > 16 then 3 else chkL l
theorem Check_l0 (l : List S28) (hm : l.length ≤ maxLen) (d : Nat) : ∀ (k i : Nat), i + d = l.length → d < k → row_Check.l0 k l (l.length : Int) (i : Int) = some (chkL (l.drop i)) := by
  induction d with
  | zero =>
    intro k i hi hk
    obtain ⟨k, rfl⟩ : ∃ n, k = n + 1 := ⟨k - 1, by omega⟩
    simp only [row_Check.l0]
    rw [if_neg (by omega), List.drop_of_length_le (by omega)]; rfl
  | succ d ih =>
    intro k i hi hk
    obtain ⟨k, rfl⟩ : ∃ n, k = n + 1 := ⟨k - 1, by omega⟩
    have hi' : i < l.length := by omega
    simp only [row_Check.l0]
    rw [if_pos (by omega), if_pos (by omega), if_pos (by omega), rd_at l i hi', wrapi (n := l.length) hi' hm, ih k (i + 1) (by omega) (by omega), List.drop_eq_getElem_cons hi', chkL]
    split
    · split <;> rfl
    · split <;> rfl
theorem Check_f {k : Nat} (l : List S28) (hm : l.length ≤ maxLen) (hk : l.length < k) : row_Check.f k l = some (chk l) := by
  unfold row_Check.f chk
  have h := Check_l0 l hm l.length k 0 (by omega) hk
  rw [show ((0 : Nat) : Int) = 0 from rfl] at h
  rw [h]
  split <;> rfl
theorem RCheck_l0 (l : List S28) (hm : l.length ≤ maxLen) (d : Nat) : ∀ (k i : Nat), i + d = l.length → 2 * d + 1 < k → runnelref03_Check.l0 k l (i : Int) = some (chkL (l.drop i)) := by
  induction d with
  | zero =>
    intro k i hi hk
    obtain ⟨k, rfl⟩ : ∃ n, k = n + 1 := ⟨k - 1, by omega⟩
    simp only [runnelref03_Check.l0]
    rw [if_neg (by omega), List.drop_of_length_le (by omega)]; rfl
  | succ d ih =>
    intro k i hi hk
    obtain ⟨k, rfl⟩ : ∃ n, k = n + 1 + 1 := ⟨k - 2, by omega⟩
    have hi' : i < l.length := by omega
    have h1 := ih k (i + 1) (by omega) (by omega)
    simp only [runnelref03_Check.l0, runnelref03_Check.j1]
    have c1 : (i : Int) < (l.length : Int) := by omega
    have c2 : (0 : Int) ≤ (i : Int) := by omega
    rw [rd_at l i hi', wrapi (n := l.length) hi' hm, h1, List.drop_eq_getElem_cons hi', chkL]
    generalize l[i] = x
    simp only [if_pos c1, if_pos c2]
    by_cases h0 : x.f0 = 0
    · have h2 : ¬ x.f0 = 1 := by omega
      simp [h0]
    · by_cases h2 : x.f0 = 1
      · simp [h2]
        split <;> rfl
      · simp [h0, h2]
theorem RCheck_f {k : Nat} (l : List S28) (hm : l.length ≤ maxLen) (hk : 2 * l.length + 1 < k) : runnelref03_Check.f k l = some (chk l) := by
  unfold runnelref03_Check.f chk
  have h := RCheck_l0 l hm l.length k 0 (by omega) hk
  rw [show ((0 : Nat) : Int) = 0 from rfl] at h
  rw [h]
  split <;> rfl
/-- P3.2: has it these kinds? -/
def fitL : List S28 → List Int → Bool
  | [], [] => true
  | x :: l, k :: m => if x.f0 = k then fitL l m else false
  | _, _ => false
theorem rdi_at (l : List Int) (i : Nat) (h : i < l.length) : rd l (i : Int) = l[i] := by unfold rd; rw [Int.toNat_natCast, List.getD_eq_getElem?_getD, List.getElem?_eq_getElem h]; rfl
theorem fitL_len : ∀ (l : List S28) (m : List Int), l.length ≠ m.length → fitL l m = false
  | [], [], h => absurd rfl h
  | [], _ :: _, _ => rfl
  | _ :: _, [], _ => rfl
  | x :: l, k :: m, h => by
    rw [fitL, fitL_len l m (by simpa using h)]
    split <;> rfl
theorem EqualFunc_l0 (l : List S28) (m : List Int) (hm : l.length ≤ maxLen) (hlm : l.length = m.length) (d : Nat) : ∀ (k i : Nat), i + d = l.length → d < k →
    api_Val_int.l0 k m l (l.length : Int) (i : Int) = some (fitL (l.drop i) (m.drop i)) := by
  induction d with
  | zero =>
    intro k i hi hk
    obtain ⟨k, rfl⟩ : ∃ n, k = n + 1 := ⟨k - 1, by omega⟩
    simp only [api_Val_int.l0]
    rw [if_neg (by omega), List.drop_of_length_le (by omega), List.drop_of_length_le (by omega)]; rfl
  | succ d ih =>
    intro k i hi hk
    obtain ⟨k, rfl⟩ : ∃ n, k = n + 1 := ⟨k - 1, by omega⟩
    have hi' : i < l.length := by omega
    simp only [api_Val_int.l0]
    rw [if_pos (by omega), if_pos (by omega), if_pos (by omega), if_pos (by omega), rd_at l i hi', rdi_at m i (by omega), wrapi (n := l.length) hi' hm, ih k (i + 1) (by omega) (by omega), List.drop_eq_getElem_cons hi', List.drop_eq_getElem_cons (by omega : i < m.length), fitL]
    unfold row_Fits_1.f
    simp only [Option.bind_some, beq_iff_eq]
    split <;> rfl
theorem Fits_f {k : Nat} (l : List S28) (m : List Int) (hm : l.length ≤ maxLen) (hk : l.length < k) : row_Fits.f k l m = some (fitL l m) := by
  unfold row_Fits.f api_Val_int.f
  by_cases h : l.length = m.length
  · rw [if_pos (by omega)]
    have h1 := EqualFunc_l0 l m hm h l.length k 0 (by omega) hk
    rw [show ((0 : Nat) : Int) = 0 from rfl] at h1
    rw [h1]; rfl
  · rw [if_neg (by omega), fitL_len l m h]; rfl
theorem RFits_l0 (l : List S28) (m : List Int) (hm : l.length ≤ maxLen) (hlm : l.length = m.length) (d : Nat) : ∀ (k i : Nat), i + d = l.length → d < k →
    runnelref03_Fits.l0 k l m (i : Int) = some (fitL (l.drop i) (m.drop i)) := by
  induction d with
  | zero =>
    intro k i hi hk
    obtain ⟨k, rfl⟩ : ∃ n, k = n + 1 := ⟨k - 1, by omega⟩
    simp only [runnelref03_Fits.l0]
    rw [if_neg (by omega), List.drop_of_length_le (by omega), List.drop_of_length_le (by omega)]; rfl
  | succ d ih =>
    intro k i hi hk
    obtain ⟨k, rfl⟩ : ∃ n, k = n + 1 := ⟨k - 1, by omega⟩
    have hi' : i < l.length := by omega
    simp only [runnelref03_Fits.l0]
    rw [if_pos (by omega), if_pos (by omega), if_pos (by omega), rd_at l i hi', rdi_at m i (by omega), wrapi (n := l.length) hi' hm, ih k (i + 1) (by omega) (by omega), List.drop_eq_getElem_cons hi', List.drop_eq_getElem_cons (by omega : i < m.length), fitL]
    split <;> rfl
theorem RFits_f {k : Nat} (l : List S28) (m : List Int) (hm : l.length ≤ maxLen) (hk : l.length < k) : runnelref03_Fits.f k l m = some (fitL l m) := by
  unfold runnelref03_Fits.f
  by_cases h : l.length = m.length
  · rw [if_pos (by omega)]
    exact RFits_l0 l m hm h l.length k 0 (by omega) hk
  · rw [if_neg (by omega), fitL_len l m h]
end Go.Proofs.Ytdbpkfbjcmjkhaa.BRowChecks
