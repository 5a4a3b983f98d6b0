/- NumOrders: what the printed functions of the numbers' layer answer, for each input: by the plain mathematics of NumPure. -/
import Derived.Test.YtocgcnmlgkhgpaaPNumOrdersx2
import Derived.Test.YtocgcnmlgkhgpaaNumPure
namespace Go.Proofs.Ytocgcnmlgkhgpaa.BNumOrders
open Go.RowKit Go.Proofs.Ytocgcnmlgkhgpaa.PNumOrders Go.Proofs.Ytocgcnmlgkhgpaa.NumPure Go.Proofs.YtocgcnmlgkhgpaaW.PrintWords Go.Proofs.YtocgcnmlgkhgpaaW.PrintLast Go.Proofs.YtocgcnmlgkhgpaaW.PrintMore
set_option linter.unusedVariables false
attribute [local irreducible] IntKind.wrap Go.bits shr shl str maxLen
theorem size_l0 (d : Nat) : ∀ (k n : Nat) (c : Int), (hi n).length = d → d < k → 0 ≤ c → c + d ≤ 100 → num_Size.l0 k n c = some (c + d) := by
  induction d with
  | zero =>
    intro k n c hd hk _ _
    obtain ⟨k, rfl⟩ : ∃ m, k = m + 1 := ⟨k - 1, by omega⟩
    have h0 : n = 0 := by
      rcases Nat.eq_zero_or_pos n with h | h
      · exact h
      · rw [hi_pos h] at hd; simp at hd
    subst h0
    simp only [num_Size.l0]
    rw [if_neg (by omega)]
    simp
  | succ d ih =>
    intro k n c hd hk h0 h1
    obtain ⟨k, rfl⟩ : ∃ m, k = m + 1 := ⟨k - 1, by omega⟩
    rcases Nat.eq_zero_or_pos n with h | h
    · subst h; rw [hi_zero] at hd; simp at hd
    · rw [hi_pos h] at hd
      simp only [List.length_append, List.length_singleton] at hd
      simp only [num_Size.l0]
      rw [if_pos (by omega), show ((n : Int) / 128) = ((n / 128 : Nat) : Int) by omega]
      rw [wrap_in _ (by omega) (by omega), ih k _ _ (by omega) (by omega) (by omega) (by omega)]
      congr 1
      omega
theorem size_f {k n : Nat} (hn : n < 18446744073709551616) (hk : 12 ≤ k) : num_Size.f k n = some ((enc n).length : Int) := by
  have h := hi_ten hn
  unfold num_Size.f
  rw [show ((n : Int) / 128) = ((n / 128 : Nat) : Int) by omega, size_l0 _ k _ 1 rfl (by omega) (by omega) (by omega), enc_length]
  congr 1
  omega
theorem shr128 (n e : Nat) (he : e ≤ 9) : shr .u64 (n : Int) (7 * (e : Int)) = ((n / 128 ^ e : Nat) : Int) := by
  have h1 : (7 * (e : Int)).toNat = 7 * e := by omega
  have h2 : min (7 * e) IntKind.u64.bits = 7 * e := Nat.min_eq_left (by simp only [IntKind.bits]; omega)
  have h3 : (128 : Nat) ^ e = 2 ^ (7 * e) := by rw [Nat.pow_mul]
  have h4 : shr .u64 (n : Int) (7 * (e : Int)) = (n : Int) / 2 ^ min (7 * (e : Int)).toNat IntKind.u64.bits := by with_unfolding_all rfl
  rw [h4, h1, h2, h3, Int.natCast_ediv, Int.natCast_pow]
  rfl
theorem put_l0 (n m : Nat) (e : List Int) (hm : m ≤ 9) (h1 : ∀ j, j < m → e.drop j = (((n / 128 ^ (m - j) % 128 : Nat) : Int) + 128) :: e.drop (j + 1)) (h2 : e.drop m = [((n % 128 : Nat) : Int)])
    (h3 : e.drop (m + 1) = []) (d : Nat) : ∀ (k j : Nat) (acc : List Int), j + d = m + 1 → d < k → acc.length + d ≤ capN →
    num_put.l0 k acc n ((m + 1 : Nat) : Int) ((m + 1 : Nat) : Int) j = some (acc ++ e.drop j) := by
  induction d with
  | zero =>
    intro k j acc hj hk _
    obtain ⟨k, rfl⟩ : ∃ m, k = m + 1 := ⟨k - 1, by omega⟩
    simp only [num_put.l0]
    rw [if_neg (by omega), show j = m + 1 by omega, h3, List.append_nil]
  | succ d ih =>
    intro k j acc hj hk ha
    obtain ⟨k, rfl⟩ : ∃ m, k = m + 1 := ⟨k - 1, by omega⟩
    have hd9 : d ≤ 9 := by omega
    have hc : acc.length < 140737488355328 := cap_lt (Nat.le_trans (Nat.le_add_right _ _) ha)
    have hi0 : ∀ x : Int, (acc ++ [x]).length + d ≤ capN := fun x => by rw [List.length_append, List.length_singleton]; omega
    clear ha
    have e1 : wrap64 (((m + 1 : Nat) : Int) - 1) = (m : Int) := by rw [wrap_in _ (by omega) (by omega)]; omega
    have e2 : wrap64 ((m : Int) - (j : Int)) = (d : Int) := by rw [wrap_in _ (by omega) (by omega)]; omega
    have e3 : wrap64 (7 * (d : Int)) = 7 * (d : Int) := wrap_in _ (by omega) (by omega)
    have e4 : wrap64 ((j : Int) + 1) = ((j + 1 : Nat) : Int) := by rw [wrap_in _ (by omega) (by omega)]; omega
    have e5 : bits .and .u8 (((n / 128 ^ d : Nat) : Int) % 256) 127 = ((n / 128 ^ d % 128 : Nat) : Int) := by
      generalize n / 128 ^ d = q
      rw [u8_and127 _ (by omega) (by omega)]; omega
    have e6 : bits .or .u8 ((n / 128 ^ d % 128 : Nat) : Int) 128 = ((n / 128 ^ d % 128 : Nat) : Int) + 128 := by
      generalize n / 128 ^ d = q
      rw [u8_or_128 _ (by omega) (by omega)]
    have hlt : (j : Int) < ((m + 1 : Nat) : Int) := by omega
    simp only [num_put.l0]
    rw [if_pos hlt, e1, e2, e3, if_pos (by omega), shr128 n d hd9, e4, e5, e6, if_pos hc, if_pos hc]
    by_cases hd : d = 0
    · subst hd
      obtain rfl : j = m := by omega
      rw [if_neg (Int.lt_irrefl _), ih k (j + 1) _ (by omega) (by omega) (hi0 _), List.append_assoc, h3, h2]
      simp
    · have hjm : j < m := by omega
      rw [if_pos (by omega), ih k (j + 1) _ (by omega) (by omega) (hi0 _), List.append_assoc, h1 j hjm, show m - j = d by omega]
      rfl
theorem put_f {k n : Nat} (l : List Int) (hn : n < 18446744073709551616) (hk : 12 ≤ k) (hl : l.length + 10 ≤ capN) : num_put.f k l n = some (l ++ enc n) := by
  have h10 := hi_ten hn
  unfold num_put.f
  rw [size_f hn hk, enc_length]
  simp only [Option.bind_some]
  have h := put_l0 n (hi (n / 128)).length (enc n) h10 (fun j hj => enc_drop hj) (enc_last n) (List.drop_of_length_le (by rw [enc_length]; exact Nat.le_refl _)) _ k 0 l (Nat.zero_add _) (by omega) (by omega)
  exact h
theorem fresh_f (l : List Int) (hl : l.length + 10 ≤ capN) : num_fresh.f l = some l := by
  unfold num_fresh.f
  simp only [Option.bind_some]
  rw [if_pos (cap_lt (by simp; omega))]
  rfl
theorem Put_f {k n : Nat} (l : List Int) (hn : n < 18446744073709551616) (hk : 12 ≤ k) (hl : l.length + 10 ≤ capN) : num_Put.f k l n = some (l ++ enc n) := by
  unfold num_Put.f
  rw [fresh_f l hl]
  simp only [Option.bind_some]
  rw [put_f l hn hk hl]
  rfl
theorem live_40 : runnellaw01_live.f 40 = some true := by decide +kernel
theorem live_f {k : Nat} (hk : 40 ≤ k) : runnellaw01_live.f k = some true := at_rounds runnellaw01_live.mono hk live_40
/-- Groups flagged at the same places. -/
def alike : List Int → List Int → Prop
  | [], [] => True
  | x :: l, y :: m => (0 ≤ x ∧ x < 256 ∧ 0 ≤ y ∧ y < 256 ∧ (128 ≤ x ↔ 128 ≤ y)) ∧ alike l m
  | _, _ => False
theorem alike_length : ∀ l m, alike l m → l.length = m.length
  | [], [], _ => rfl
  | x :: l, y :: m, h => by simp [alike_length l m h.2]
  | [], _ :: _, h => h.elim
  | _ :: _, [], h => h.elim
theorem val_span (a : Int) (ha : 0 ≤ a) (l : List Int) : a * 128 ^ l.length ≤ valF a l ∧ valF a l < (a + 1) * 128 ^ l.length := by
  induction l using snoc_ind with
  | nil => rw [valF_nil, List.length_nil, Int.pow_zero]; omega
  | append_singleton l x ih =>
    rw [valF_snoc, List.length_append, List.length_singleton, Int.pow_succ, ← Int.mul_assoc, ← Int.mul_assoc]
    omega
theorem less_of_val (l : List Int) : ∀ (m : List Int) (a : Int), 0 ≤ a → alike l m → valF a l < valF a m → Op.bytesLess (str l) (str m) = true := by
  induction l with
  | nil =>
    intro m a _ h hv
    cases m with
    | nil => exact absurd hv (Int.lt_irrefl _)
    | cons y m => exact h.elim
  | cons x l ih =>
    intro m a ha h hv
    cases m with
    | nil => exact h.elim
    | cons y m =>
      obtain ⟨⟨hx0, hx1, hy0, hy1, hxy⟩, h2⟩ := h
      have hl := alike_length l m h2
      have e1 : valF a (x :: l) = valF (a * 128 + x % 128) l := rfl
      have e2 : valF a (y :: m) = valF (a * 128 + y % 128) m := rfl
      rw [e1, e2] at hv
      have s1 : str (x :: l) = UInt8.ofNat x.toNat :: str l := by with_unfolding_all rfl
      have s2 : str (y :: m) = UInt8.ofNat y.toNat :: str m := by with_unfolding_all rfl
      rw [s1, s2, Op.bytesLess]
      have t1 : (UInt8.ofNat x.toNat).toNat = x.toNat := by rw [UInt8.toNat_ofNat']; omega
      have t2 : (UInt8.ofNat y.toNat).toNat = y.toNat := by rw [UInt8.toNat_ofNat']; omega
      rcases Int.lt_trichotomy x y with hlt | heq | hgt
      · have h3 : decide (UInt8.ofNat x.toNat < UInt8.ofNat y.toNat) = true := decide_eq_true (by rw [UInt8.lt_iff_toNat_lt, t1, t2]; omega)
        rw [h3]; rfl
      · subst heq
        rw [ih m _ (by omega) h2 hv]
        simp
      · exfalso
        have h3 := (val_span (a * 128 + x % 128) (by omega) l).1
        have h4 := (val_span (a * 128 + y % 128) (by omega) m).2
        rw [hl] at h3
        have h5 : (a * 128 + y % 128 + 1) ≤ a * 128 + x % 128 := by omega
        have h6 := Int.mul_le_mul_of_nonneg_right h5 (Int.le_of_lt (Int.pow_pos (by decide : (0 : Int) < 128) : (0 : Int) < 128 ^ m.length))
        omega
theorem alike_snoc (l : List Int) (x y : Int) (h : 0 ≤ x ∧ x < 256 ∧ 0 ≤ y ∧ y < 256 ∧ (128 ≤ x ↔ 128 ≤ y)) : ∀ m, alike l m → alike (l ++ [x]) (m ++ [y]) := by
  induction l with
  | nil => intro m hm; cases m with | nil => exact ⟨h, trivial⟩ | cons _ _ => exact hm.elim
  | cons z l ih => intro m hm; cases m with | nil => exact hm.elim | cons u m => exact ⟨hm.1, ih m hm.2⟩
theorem alike_flag : ∀ (l m : List Int), l.length = m.length → (∀ x ∈ l, 128 ≤ x ∧ x < 256) → (∀ x ∈ m, 128 ≤ x ∧ x < 256) → alike l m
  | [], [], _, _, _ => trivial
  | x :: l, y :: m, h, hl, hm => ⟨by have := hl x (by simp); have := hm y (by simp); omega, alike_flag l m (by simpa using h) (fun z hz => hl z (by simp [hz])) (fun z hz => hm z (by simp [hz]))⟩
  | [], _ :: _, h, _, _ => by simp at h
  | _ :: _, [], h, _, _ => by simp at h
theorem enc_less {a b : Nat} (h : a < b) : (enc a).length < (enc b).length ∨ ((enc a).length = (enc b).length ∧ Op.bytesLess (str (enc a)) (str (enc b)) = true) := by
  have h1 : (hi (a / 128)).length ≤ (hi (b / 128)).length := by
    apply hi_length
    have h2 := val_high (hi (b / 128)) _ (Nat.le_refl _)
    rw [val_hi] at h2
    have h3 : (b / 128 : Nat) < 128 ^ (hi (b / 128)).length := by
      have : (((b / 128 : Nat)) : Int) < ((128 ^ (hi (b / 128)).length : Nat) : Int) := by rw [Int.natCast_pow]; exact h2
      omega
    omega
  rw [enc_length, enc_length]
  by_cases h2 : (hi (a / 128)).length = (hi (b / 128)).length
  · refine .inr ⟨by omega, less_of_val _ _ 0 (Int.le_refl _) (alike_snoc _ _ _ (by omega) _ (alike_flag _ _ h2 (hi_flag _) (hi_flag _))) ?_⟩
    show valF 0 (enc a) < valF 0 (enc b)
    rw [val_enc, val_enc]
    omega
  · exact .inl (by omega)
end Go.Proofs.Ytocgcnmlgkhgpaa.BNumOrders
