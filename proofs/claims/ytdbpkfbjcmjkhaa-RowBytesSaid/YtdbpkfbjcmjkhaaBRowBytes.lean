/- RowBytes: what the printed functions answer, for each input, by plain mathematics. -/
import Derived.Test.YtdbpkfbjcmjkhaaORowBytesx
import Derived.Test.YtdbpkfbjcmjkhaaRowPure
import Derived.Test.YtdbpkfbjcmjkhaaNumPure
namespace Go.Proofs.Ytdbpkfbjcmjkhaa.BRowBytes
open Go.RowKit Go.Proofs.Ytdbpkfbjcmjkhaa.PRowBytes Go.Proofs.Ytdbpkfbjcmjkhaa.RowPure Go.Proofs.Ytdbpkfbjcmjkhaa.NumPure Go.Proofs.YtdbpkfbjcmjkhaaW.PrintWords Go.Proofs.YtdbpkfbjcmjkhaaW.PrintLast Go.Proofs.YtdbpkfbjcmjkhaaW.PrintMore
set_option linter.unusedVariables false
set_option linter.unusedSimpArgs false
attribute [local irreducible] IntKind.wrap Go.bits shr shl maxLen str
theorem size_l0 (d : Nat) : ∀ (k n : Nat) (c : Int), (hi n).length = d → d < k → 0 ≤ c → c + d ≤ 100 → num_Size.l0 k n c = some (c + d) := by
  induction d with
  | zero =>
    intro k n c hd hk _ _
    obtain ⟨k, rfl⟩ : ∃ m, k = m + 1 := ⟨k - 1, by omega⟩
    have h0 : n = 0 := by
      rcases Nat.eq_zero_or_pos n with h | h
      · exact h
      · rw [hi_pos h] at hd; simp at hd
    subst h0
    simp only [num_Size.l0]
    rw [if_neg (by omega)]
    simp
  | succ d ih =>
    intro k n c hd hk h0 h1
    obtain ⟨k, rfl⟩ : ∃ m, k = m + 1 := ⟨k - 1, by omega⟩
    rcases Nat.eq_zero_or_pos n with h | h
    · subst h; rw [hi_zero] at hd; simp at hd
    · rw [hi_pos h] at hd
      simp only [List.length_append, List.length_singleton] at hd
      simp only [num_Size.l0]
      rw [if_pos (by omega), show ((n : Int) / 128) = ((n / 128 : Nat) : Int) by omega]
      rw [wrap_in _ (by omega) (by omega), ih k _ _ (by omega) (by omega) (by omega) (by omega)]
      congr 1
      omega
theorem size_f {k n : Nat} (hn : n < 18446744073709551616) (hk : 12 ≤ k) : num_Size.f k n = some ((enc n).length : Int) := by
  have h := hi_ten hn
  unfold num_Size.f
  rw [show ((n : Int) / 128) = ((n / 128 : Nat) : Int) by omega, size_l0 _ k _ 1 rfl (by omega) (by omega) (by omega), enc_length]
  congr 1
  omega
theorem shr128 (n e : Nat) (he : e ≤ 9) : shr .u64 (n : Int) (7 * (e : Int)) = ((n / 128 ^ e : Nat) : Int) := by
  have h1 : (7 * (e : Int)).toNat = 7 * e := by omega
  have h2 : min (7 * e) IntKind.u64.bits = 7 * e := Nat.min_eq_left (by simp only [IntKind.bits]; omega)
  have h3 : (128 : Nat) ^ e = 2 ^ (7 * e) := by rw [Nat.pow_mul]
  have h4 : shr .u64 (n : Int) (7 * (e : Int)) = (n : Int) / 2 ^ min (7 * (e : Int)).toNat IntKind.u64.bits := by with_unfolding_all rfl
  rw [h4, h1, h2, h3, Int.natCast_ediv, Int.natCast_pow]
  rfl
theorem put_l0 (n m : Nat) (e : List Int) (hm : m ≤ 9) (h1 : ∀ j, j < m → e.drop j = (((n / 128 ^ (m - j) % 128 : Nat) : Int) + 128) :: e.drop (j + 1)) (h2 : e.drop m = [((n % 128 : Nat) : Int)])
    (h3 : e.drop (m + 1) = []) (d : Nat) : ∀ (k j : Nat) (acc : List Int), j + d = m + 1 → d < k → acc.length + d ≤ capN →
    num_put.l0 k acc n ((m + 1 : Nat) : Int) ((m + 1 : Nat) : Int) j = some (acc ++ e.drop j) := by
  induction d with
  | zero =>
    intro k j acc hj hk _
    obtain ⟨k, rfl⟩ : ∃ m, k = m + 1 := ⟨k - 1, by omega⟩
    simp only [num_put.l0]
    rw [if_neg (by omega), show j = m + 1 by omega, h3, List.append_nil]
  | succ d ih =>
    intro k j acc hj hk ha
    obtain ⟨k, rfl⟩ : ∃ m, k = m + 1 := ⟨k - 1, by omega⟩
    have hd9 : d ≤ 9 := by omega
    have hc : acc.length < 140737488355328 := cap_lt (Nat.le_trans (Nat.le_add_right _ _) ha)
    have hi0 : ∀ x : Int, (acc ++ [x]).length + d ≤ capN := fun x => by rw [List.length_append, List.length_singleton]; omega
    clear ha
    have e1 : wrap64 (((m + 1 : Nat) : Int) - 1) = (m : Int) := by rw [wrap_in _ (by omega) (by omega)]; omega
    have e2 : wrap64 ((m : Int) - (j : Int)) = (d : Int) := by rw [wrap_in _ (by omega) (by omega)]; omega
    have e3 : wrap64 (7 * (d : Int)) = 7 * (d : Int) := wrap_in _ (by omega) (by omega)
    have e4 : wrap64 ((j : Int) + 1) = ((j + 1 : Nat) : Int) := by rw [wrap_in _ (by omega) (by omega)]; omega
    have e5 : bits .and .u8 (((n / 128 ^ d : Nat) : Int) % 256) 127 = ((n / 128 ^ d % 128 : Nat) : Int) := by
      generalize n / 128 ^ d = q
      rw [u8_and127 _ (by omega) (by omega)]; omega
    have e6 : bits .or .u8 ((n / 128 ^ d % 128 : Nat) : Int) 128 = ((n / 128 ^ d % 128 : Nat) : Int) + 128 := by
      generalize n / 128 ^ d = q
      rw [u8_or_128 _ (by omega) (by omega)]
    have hlt : (j : Int) < ((m + 1 : Nat) : Int) := by omega
    simp only [num_put.l0]
    rw [if_pos hlt, e1, e2, e3, if_pos (by omega), shr128 n d hd9, e4, e5, e6, if_pos hc, if_pos hc]
    by_cases hd : d = 0
    · subst hd
      obtain rfl : j = m := by omega
      rw [if_neg (Int.lt_irrefl _), ih k (j + 1) _ (by omega) (by omega) (hi0 _), List.append_assoc, h3, h2]
      simp
    · have hjm : j < m := by omega
      rw [if_pos (by omega), ih k (j + 1) _ (by omega) (by omega) (hi0 _), List.append_assoc, h1 j hjm, show m - j = d by omega]
      rfl
theorem put_f {k n : Nat} (l : List Int) (hn : n < 18446744073709551616) (hk : 12 ≤ k) (hl : l.length + 10 ≤ capN) : num_put.f k l n = some (l ++ enc n) := by
  have h10 := hi_ten hn
  unfold num_put.f
  rw [size_f hn hk, enc_length]
  simp only [Option.bind_some]
  have h := put_l0 n (hi (n / 128)).length (enc n) h10 (fun j hj => enc_drop hj) (enc_last n) (List.drop_of_length_le (by rw [enc_length]; exact Nat.le_refl _)) _ k 0 l (Nat.zero_add _) (by omega) (by omega)
  exact h
theorem fresh_f (l : List Int) (hl : l.length + 10 ≤ capN) : num_fresh.f l = some l := by
  unfold num_fresh.f
  simp only [Option.bind_some]
  rw [if_pos (cap_lt (by simp; omega))]
  rfl
theorem Put_f {k n : Nat} (l : List Int) (hn : n < 18446744073709551616) (hk : 12 ≤ k) (hl : l.length + 10 ≤ capN) : num_Put.f k l n = some (l ++ enc n) := by
  unfold num_Put.f
  rw [fresh_f l hl]
  simp only [Option.bind_some]
  rw [put_f l hn hk hl]
  rfl
theorem Bytes_l0 (n : Nat) : ∀ (k : Nat) (acc : List Int), (hi n).length < k → n < 18446744073709551616 → acc.length + (hi n).length ≤ capN → runnelref01_Bytes.l0 k n acc = some (hi n ++ acc) := by
  induction n using Nat.strongRecOn with
  | ind n ih =>
    intro k acc hk hn ha
    obtain ⟨k, rfl⟩ : ∃ m, k = m + 1 := ⟨k - 1, by omega⟩
    simp only [runnelref01_Bytes.l0]
    rcases Nat.eq_zero_or_pos n with h | h
    · subst h
      rw [if_neg (by omega), hi_zero]
      rfl
    · rw [if_pos (by omega)]
      simp only [Option.bind_some]
      rw [hi_pos h] at hk ha
      simp only [List.length_append, List.length_singleton] at hk ha
      rw [if_pos (cap_lt (by simp; omega))]
      have e1 : IntKind.u64.wrap (Int.tmod (n : Int) 128 + 128) = ((n % 128 : Nat) : Int) + 128 := by
        rw [Int.tmod_eq_emod_of_nonneg (by omega), u64_in _ (by omega) (by omega)]; omega
      have e2 : IntKind.u64.wrap (Int.tdiv (n : Int) 128) = ((n / 128 : Nat) : Int) := by
        rw [Int.tdiv_eq_ediv_of_nonneg (by omega), u64_in _ (by omega) (by omega)]; omega
      rw [e1, e2, ih (n / 128) (by omega) k _ (by omega) (by omega) (by simp; omega)]
      rw [hi_pos h, show (((n % 128 : Nat) : Int) + 128) % 256 = ((n % 128 : Nat) : Int) + 128 by omega]
      simp
theorem Bytes_f {k n : Nat} (hn : n < 18446744073709551616) (hk : 12 ≤ k) : runnelref01_Bytes.f k n = some (enc n) := by
  have h := hi_ten hn
  have hc := cap_ge
  unfold runnelref01_Bytes.f
  have e1 : Int.tmod (n : Int) 128 % 256 = ((n % 128 : Nat) : Int) := by rw [Int.tmod_eq_emod_of_nonneg (by omega)]; omega
  have e2 : IntKind.u64.wrap (Int.tdiv (n : Int) 128) = ((n / 128 : Nat) : Int) := by rw [Int.tdiv_eq_ediv_of_nonneg (by omega), u64_in _ (by omega) (by omega)]; omega
  rw [e1, e2, Bytes_l0 _ k _ (by omega) (by omega) (by simp; omega), enc]
theorem Get_l0 (l : List Int) (hl : ∀ x ∈ l, 0 ≤ x ∧ x < 256) (at0 : Int) (d : Nat) : ∀ (k i : Nat) (n : Int), 2 * d < k → (l.length : Int) < i + d → i ≤ l.length → l.length + 10 ≤ capN → 0 ≤ n → n < 18446744073709551616 →
    num_Get.l0 k l at0 n i = some (Get l i n at0 d) := by
  induction d with
  | zero => intro k i n hk hd hi _ _ _; omega
  | succ d ih =>
    intro k i n hk hd hi hc hn0 hn1
    obtain ⟨k, rfl⟩ : ∃ m, k = m + 1 := ⟨k - 1, by omega⟩
    obtain ⟨k, rfl⟩ : ∃ m, k = m + 1 := ⟨k - 1, by omega⟩
    simp only [num_Get.l0, num_Get.j2, Get]
    by_cases h : (i : Int) < (l.length : Int)
    · rw [if_pos h, if_pos h]
      have h0 : (0 : Int) ≤ (i : Int) := by omega
      have hb := hl (l.getD i 0) (by rw [List.getD_eq_getElem?_getD, List.getElem?_eq_getElem (by omega)]; exact List.getElem_mem _)
      have hcap : (i : Int) + 1 ≤ 9223372036854775807 := by have := cap_lt (Nat.le_trans (Nat.le_add_right _ _) hc); omega
      have e0 : rd l (i : Int) = l.getD i 0 := rfl
      have e1 : (l.getD (i : Int).toNat 0) = l.getD i 0 := rfl
      have e2 : wrap64 ((i : Int) + 1) = ((i + 1 : Nat) : Int) := by rw [wrap_in _ (by omega) (by omega)]; omega
      have e3 : ((i : Int) + 1) = ((i + 1 : Nat) : Int) := by omega
      rw [e0, e1, if_pos h0, if_pos h0, if_pos h]
      generalize l.getD i 0 = b at hb ⊢
      have e4 : bits .and .u8 b 127 = b % 128 := u8_and127 b hb.1 hb.2
      by_cases g : 144115188075855872 ≤ n
      · have g1 : decide (n / 144115188075855872 > 0) = true := decide_eq_true (by omega)
        rw [g1, if_pos (Or.inr g)]
        simp only [if_true]
        split
        · split <;> rfl
        · rfl
      · have g1 : decide (n / 144115188075855872 > 0) = false := decide_eq_false (by omega)
        rw [g1]
        simp only [if_true, Bool.false_eq_true, if_false]
        have e5 : bits .or .u64 (IntKind.u64.wrap (n * 128)) (IntKind.u64.wrap (b % 128)) = n * 128 + b % 128 := u64_or_low n (b % 128) hn0 (by omega) (by omega) (by omega)
        rw [e4, e5, e2, e3]
        have rest : (if b < 128 then some (n * 128 + b % 128, ((i + 1 : Nat) : Int), (0 : Int)) else num_Get.l0 k l at0 (n * 128 + b % 128) ((i + 1 : Nat) : Int)) =
            some (if b < 128 then (n * 128 + b % 128, ((i + 1 : Nat) : Int), (0 : Int)) else Get l ((i + 1 : Nat) : Int) (n * 128 + b % 128) at0 d) := by
          by_cases hb1 : b < 128
          · rw [if_pos hb1, if_pos hb1]
          · rw [if_neg hb1, if_neg hb1, ih k (i + 1) _ (by omega) (by omega) (by omega) hc (by omega) (by omega)]
        by_cases ha : (i : Int) = at0
        · rw [if_pos ha]
          by_cases hb2 : b = 128
          · rw [if_pos hb2, if_pos (Or.inl ⟨ha, hb2⟩)]
          · rw [if_neg hb2, if_neg (show ¬ (((i : Int) = at0 ∧ b = 128) ∨ 144115188075855872 ≤ n) from fun o => o.elim (fun o => hb2 o.2) g)]
            exact rest
        · rw [if_neg ha, if_neg (show ¬ (((i : Int) = at0 ∧ b = 128) ∨ 144115188075855872 ≤ n) from fun o => o.elim (fun o => ha o.1) g)]
          exact rest
    · rw [if_neg h, if_neg h]
theorem get_f {k : Nat} (l : List Int) (hl : ∀ x ∈ l, 0 ≤ x ∧ x < 256) (at0 : Int) (hk : 2 * l.length + 8 ≤ k) (hc : l.length + 10 ≤ capN) : num_Get.f k l at0 = some (NumPure.get l at0) := by
  obtain ⟨k, rfl⟩ : ∃ m, k = m + 1 := ⟨k - 1, by omega⟩
  unfold num_Get.f NumPure.get
  simp only [num_Get.j0]
  by_cases h0 : at0 < 0
  · rw [if_pos h0, if_pos (Or.inl h0)]
    rfl
  · rw [if_neg h0]
    by_cases h1 : (l.length : Int) < at0
    · rw [decide_eq_true (show at0 > (l.length : Int) from h1), if_pos (Or.inr h1)]
      rfl
    · rw [decide_eq_false (show ¬ at0 > (l.length : Int) from h1), if_neg (show ¬ (false = true) by decide), if_neg (show ¬ (at0 < 0 ∨ (l.length : Int) < at0) from fun o => o.elim h0 h1)]
      obtain ⟨a, rfl⟩ := Int.eq_ofNat_of_zero_le (by omega : 0 ≤ at0)
      exact Get_l0 l hl _ _ k a 0 (by omega) (by omega) (by omega) hc (by omega) (by omega)
theorem get_range (l : List Int) (hl : ∀ x ∈ l, 0 ≤ x ∧ x < 256) (at0 : Int) (d : Nat) : ∀ (i n : Int), 0 ≤ n → 0 ≤ i → 0 ≤ (Get l i n at0 d).1 ∧ (Get l i n at0 d).1 < 18446744073709551616 := by
  induction d with
  | zero => intro i n _ _; exact ⟨Int.le_refl _, (by decide : (0 : Int) < 18446744073709551616)⟩
  | succ d ih =>
    intro i n hn hi
    rw [Get]
    split
    · rename_i h
      have hb : 0 ≤ l.getD i.toNat 0 ∧ l.getD i.toNat 0 < 256 := hl _ (by rw [List.getD_eq_getElem?_getD, List.getElem?_eq_getElem (by omega)]; exact List.getElem_mem _)
      generalize l.getD i.toNat 0 = b at hb ⊢
      split
      · exact ⟨Int.le_refl _, (by decide : (0 : Int) < 18446744073709551616)⟩
      · rename_i h2
        split
        · show 0 ≤ n * 128 + b % 128 ∧ n * 128 + b % 128 < 18446744073709551616
          have h3 : ¬ 144115188075855872 ≤ n := fun h3 => h2 (Or.inr h3)
          omega
        · exact ih _ _ (by omega) (by omega)
    · exact ⟨Int.le_refl _, (by decide : (0 : Int) < 18446744073709551616)⟩
theorem got_range (l : List Int) (hl : ∀ x ∈ l, 0 ≤ x ∧ x < 256) (at0 : Int) : 0 ≤ (NumPure.get l at0).1 ∧ (NumPure.get l at0).1 < 18446744073709551616 := by
  unfold NumPure.get
  split
  · exact ⟨Int.le_refl _, (by decide : (0 : Int) < 18446744073709551616)⟩
  · rename_i h
    exact get_range l hl at0 _ _ _ (Int.le_refl _) (by omega)
/-- P1.2: the way back. -/
def zag (x : Int) : Int := if x % 2 = 1 then -(x / 2) - 1 else x / 2
theorem xor_zero (a : Int) (h : -9223372036854775808 ≤ a) (h' : a ≤ 9223372036854775807) : bits .xor .i64 a 0 = a := by
  have e : bits .xor .i64 a 0 = IntKind.i64.wrap ((BitVec.ofInt 64 a ^^^ BitVec.ofInt 64 0).toNat : Int) := by with_unfolding_all rfl
  rw [e, show BitVec.ofInt 64 0 = 0#64 from rfl, BitVec.xor_zero, BitVec.toNat_ofInt, IntKind.wrap_i64]
  omega
theorem xor_ones (a : Int) (h : -9223372036854775808 ≤ a) (h' : a ≤ 9223372036854775807) : bits .xor .i64 a (-1) = -a - 1 := by
  have e : bits .xor .i64 a (-1) = IntKind.i64.wrap ((BitVec.ofInt 64 a ^^^ BitVec.ofInt 64 (-1)).toNat : Int) := by with_unfolding_all rfl
  rw [e, show BitVec.ofInt 64 (-1) = BitVec.allOnes 64 by decide, BitVec.xor_allOnes, BitVec.toNat_not, BitVec.toNat_ofInt, IntKind.wrap_i64]
  omega
theorem zag_f (x : Int) (h0 : 0 ≤ x) (h1 : x < 18446744073709551616) : num_zag.f x = some (zag x) := by
  unfold num_zag.f zag
  have e1 : bits .and .u64 x 1 = x % 2 := by
    rw [u64_and x 1 h0 h1 (by decide) (by decide), show ((1 : Int).toNat) = 1 from rfl, nat_mask1]; omega
  rw [e1, wrap_in (x / 2) (by omega) (by omega), wrap_in (x % 2) (by omega) (by omega), wrap_in (-(x % 2)) (by omega) (by omega)]
  by_cases h : x % 2 = 1
  · rw [if_pos h, h, xor_ones _ (by omega) (by omega)]
  · rw [if_neg h, show x % 2 = 0 by omega]
    exact congrArg some (xor_zero _ (by omega) (by omega))
theorem getInt_f {k : Nat} (l : List Int) (hl : ∀ x ∈ l, 0 ≤ x ∧ x < 256) (at0 : Int) (hk : 2 * l.length + 8 ≤ k) (hc : l.length + 10 ≤ capN) : num_GetInt.f k l at0 = some (zag (NumPure.get l at0).1, (NumPure.get l at0).2.1, (NumPure.get l at0).2.2) := by
  have h := got_range l hl at0
  unfold num_GetInt.f
  rw [get_f l hl at0 hk hc]
  simp only [Option.bind_some]
  rw [zag_f _ h.1 h.2]
  rfl
theorem cut_mid (p f r : List Int) (j a : Int) (hj : j = ((p.length + f.length : Nat) : Int)) (ha : a = (p.length : Int)) : ((p ++ (f ++ r)).take j.toNat).drop a.toNat = f := by
  subst hj; subst ha
  rw [Int.toNat_natCast, Int.toNat_natCast, ← List.append_assoc, show p.length + f.length = (p ++ f).length by simp, List.take_left, List.drop_left]
theorem getD_mid (p f r : List Int) (b : Int) : (p ++ (f ++ b :: r)).getD ((p.length + f.length : Nat) : Int).toNat 0 = b := by
  rw [Int.toNat_natCast, List.getD_eq_getElem?_getD, List.getElem?_append_right (by omega), List.getElem?_append_right (by omega)]
  simp
/-- What a number's reading tells: a fault, or the number whose bytes these are. -/
theorem Get_ok (p r : List Int) : ∀ (f : List Int) (d : Nat), r.length < d → (∀ x ∈ f, 128 ≤ x ∧ x < 256) → (∀ x t, f = x :: t → x ≠ 128) → (∀ x ∈ r, 0 ≤ x ∧ x < 256) →
    Get (p ++ (f ++ r)) ((p.length + f.length : Nat) : Int) (valF 0 f) (p.length : Int) d = (0, 0, 6) ∨
    ∃ (m : Nat) (t : List Int) (r' : List Int), m < 18446744073709551616 ∧ f ++ r = enc m ++ r' ∧ Get (p ++ (f ++ r)) ((p.length + f.length : Nat) : Int) (valF 0 f) (p.length : Int) d = ((m : Int), ((p.length + (enc m).length : Nat) : Int), 0) := by
  induction r with
  | nil =>
    intro f d hd hf hh _
    obtain ⟨d, rfl⟩ : ∃ m, d = m + 1 := ⟨d - 1, by omega⟩
    left
    rw [Get, if_neg (by simp)]
  | cons b r ih =>
    intro f d hd hf hh hr
    obtain ⟨d, rfl⟩ : ∃ m, d = m + 1 := ⟨d - 1, by omega⟩
    have hb := hr b (by simp)
    rw [Get, if_pos (by simp; omega), getD_mid]
    have hv0 := valF_nonneg 0 (Int.le_refl 0) f
    by_cases hbad : (((p.length + f.length : Nat) : Int) = (p.length : Int) ∧ b = 128) ∨ 144115188075855872 ≤ valF 0 f
    · rw [if_pos hbad]; exact .inl rfl
    · rw [if_neg hbad]
      have h57 : valF 0 f < 144115188075855872 := by
        rcases Int.lt_or_le (valF 0 f) 144115188075855872 with h | h
        · exact h
        · exact absurd (Or.inr h) hbad
      by_cases h : b < 128
      · rw [if_pos h]
        right
        have hce := canon_enc f hf hh b hb.1 h
        rw [valF_snoc] at hce
        refine ⟨(valF 0 f * 128 + b % 128).toNat, [], r, by omega, by rw [hce]; simp, ?_⟩
        rw [hce]
        simp only [List.length_append, List.length_singleton, Prod.mk.injEq, and_true]
        exact ⟨by omega, by omega⟩
      · rw [if_neg h, show valF 0 f * 128 + b % 128 = valF 0 (f ++ [b]) from (valF_snoc _ _ _).symm]
        have h1 := ih (f ++ [b]) d (by simp at hd; omega) (fun x hx => by
          rcases List.mem_append.1 hx with hx | hx
          · exact hf x hx
          · rw [List.mem_singleton] at hx; omega) (fun x t e => by
          rcases f with _ | ⟨y, s⟩
          · simp only [List.nil_append, List.cons.injEq] at e
            rw [← e.1]
            intro hb2
            exact hbad (.inl ⟨by simp, hb2⟩)
          · simp only [List.cons_append, List.cons.injEq] at e
            rw [← e.1]
            exact hh y s rfl) (fun x hx => hr x (by simp [hx]))
        rw [show (p ++ ((f ++ [b]) ++ r)) = p ++ (f ++ b :: r) by simp, show ((p.length + (f ++ [b]).length : Nat) : Int) = ((p.length + f.length : Nat) : Int) + 1 by simp; omega] at h1
        rcases h1 with h1 | ⟨m, t, r', h2, h3, h4⟩
        · exact .inl h1
        · exact .inr ⟨m, t, r', h2, by rw [← h3]; simp, h4⟩
/-- P1.4: whatever is got: a fault tells noughts; else these bytes are the number's own. -/
theorem get_ok (l : List Int) (hl : ∀ x ∈ l, 0 ≤ x ∧ x < 256) (at0 : Int) : (NumPure.get l at0 = (0, 0, 9) ∧ (at0 < 0 ∨ (l.length : Int) < at0)) ∨ (NumPure.get l at0 = (0, 0, 6) ∧ 0 ≤ at0 ∧ at0 ≤ l.length) ∨
    ∃ (m : Nat) (p r : List Int), m < 18446744073709551616 ∧ l = p ++ (enc m ++ r) ∧ at0 = p.length ∧ NumPure.get l at0 = ((m : Int), ((p.length + (enc m).length : Nat) : Int), 0) := by
  unfold NumPure.get
  by_cases h : at0 < 0 ∨ (l.length : Int) < at0
  · rw [if_pos h]; exact .inl ⟨rfl, h⟩
  · rw [if_neg h]
    have h0 : 0 ≤ at0 := by omega
    obtain ⟨a, rfl⟩ := Int.eq_ofNat_of_zero_le h0
    have hp : (l.take a).length = a := by rw [List.length_take]; omega
    have e : l.take a ++ ([] ++ l.drop a) = l := by simp
    have h2 := Get_ok (l.take a) (l.drop a) [] (l.length + 1 - a) (by rw [List.length_drop]; omega) (by simp) (by simp) (fun x hx => hl x (List.mem_of_mem_drop hx))
    rw [e, hp] at h2
    rcases h2 with h2 | ⟨m, t, r', h3, h4, h5⟩
    · exact .inr (.inl ⟨h2, h0, by omega⟩)
    · refine .inr (.inr ⟨m, l.take a, r', h3, ?_, by rw [hp], ?_⟩)
      · rw [← h4, e]
      · rw [hp]; exact h5
theorem Get_flags (p r : List Int) (b : Int) (hb0 : 0 ≤ b) (hb : b < 128) (g : List Int) : ∀ (f : List Int) (d : Nat), g.length < d → (∀ x ∈ f ++ g, 128 ≤ x ∧ x < 256) → (∀ x t, f ++ g = x :: t → x ≠ 128) → valF 0 (f ++ g) < 144115188075855872 →
    Get (p ++ (f ++ (g ++ b :: r))) ((p.length + f.length : Nat) : Int) (valF 0 f) (p.length : Int) d = (valF 0 (f ++ g ++ [b]), ((p.length + f.length + g.length + 1 : Nat) : Int), 0) := by
  induction g with
  | nil =>
    intro f d hd hf hh hv
    obtain ⟨d, rfl⟩ : ∃ m, d = m + 1 := ⟨d - 1, by omega⟩
    rw [List.nil_append, Get, if_pos (by simp; omega), getD_mid, if_neg, if_pos hb, valF_snoc, List.append_nil]
    · simp
    · rw [List.append_nil] at hv
      rintro (⟨_, h⟩ | h) <;> omega
  | cons x g ih =>
    intro f d hd hf hh hv
    obtain ⟨d, rfl⟩ : ∃ m, d = m + 1 := ⟨d - 1, by omega⟩
    have hx := hf x (by simp)
    have hle : valF 0 f ≤ valF 0 (f ++ x :: g) := by rw [valF_append]; exact valF_ge _ (valF_nonneg 0 (Int.le_refl 0) f) _
    rw [List.cons_append, Get, if_pos (by simp; omega), getD_mid, if_neg, if_neg (by omega), show valF 0 f * 128 + x % 128 = valF 0 (f ++ [x]) from (valF_snoc _ _ _).symm]
    · have h1 := ih (f ++ [x]) d (by simp at hd; omega) (by simpa using hf) (by simpa using hh) (by simpa using hv)
      rw [show (p ++ ((f ++ [x]) ++ (g ++ b :: r))) = p ++ (f ++ x :: (g ++ b :: r)) by simp, show ((p.length + (f ++ [x]).length : Nat) : Int) = ((p.length + f.length : Nat) : Int) + 1 by simp; omega] at h1
      rw [h1, show f ++ [x] ++ g ++ [b] = f ++ x :: g ++ [b] by simp, show ((p.length + (f ++ [x]).length + g.length + 1 : Nat) : Int) = ((p.length + f.length + (x :: g).length + 1 : Nat) : Int) by simp; omega]
    · rintro (⟨h1, h2⟩ | h)
      · have hf0 : f = [] := List.eq_nil_of_length_eq_zero (by omega)
        subst hf0
        exact hh x g rfl h2
      · omega
/-- P1.4: what is put is got, whatever stands ahead and behind. -/
theorem get_enc (p r : List Int) (n : Nat) (hn : n < 18446744073709551616) (at0 : Int) (ha : at0 = (p.length : Int)) : NumPure.get (p ++ (enc n ++ r)) at0 = ((n : Int), ((p.length + (enc n).length : Nat) : Int), 0) := by
  subst ha
  unfold NumPure.get
  rw [if_neg (by simp; omega)]
  have h1 := Get_flags p r ((n % 128 : Nat) : Int) (by omega) (by omega) (hi (n / 128)) [] ((p ++ (enc n ++ r)).length + 1 - (p.length : Int).toNat) (by rw [List.length_append, List.length_append, enc_length]; omega) (by simpa using hi_flag _) (by simpa using hi_head _) (by rw [List.nil_append, val_hi]; omega)
  have e : enc n = hi (n / 128) ++ [((n % 128 : Nat) : Int)] := rfl
  have e2 : valF 0 ([] ++ hi (n / 128) ++ [((n % 128 : Nat) : Int)]) = (n : Int) := by rw [List.nil_append, ← e, val_enc]
  rw [e2, show p ++ ([] ++ (hi (n / 128) ++ ((n % 128 : Nat) : Int) :: r)) = p ++ (enc n ++ r) by rw [e]; simp] at h1
  rw [enc_length]
  exact h1
/-- P1.2: a number with a sign as one without. -/
def zig (a : Int) : Nat := if 0 ≤ a then (2 * a).toNat else (-2 * a - 1).toNat
theorem zig_lt (a : Int) (h : -9223372036854775808 ≤ a) (h' : a ≤ 9223372036854775807) : zig a < 18446744073709551616 := by unfold zig; split <;> omega
theorem zag_zig (a : Int) : (if ((zig a : Nat) : Int) % 2 = 1 then -(((zig a : Nat) : Int) / 2) - 1 else ((zig a : Nat) : Int) / 2) = a := by unfold zig; split <;> split <;> omega
theorem uxor_zero (a : Int) (h : 0 ≤ a) (h' : a < 18446744073709551616) : bits .xor .u64 a 0 = a := by
  rw [u64_xor a 0 h h' (by decide) (by decide), show ((0 : Int).toNat) = 0 from rfl, Nat.xor_zero]; omega
theorem uxor_ones (a : Int) (h : 0 ≤ a) (h' : a < 18446744073709551616) : bits .xor .u64 a 18446744073709551615 = 18446744073709551615 - a := by
  have e : bits .xor .u64 a 18446744073709551615 = IntKind.u64.wrap ((BitVec.ofInt 64 a ^^^ BitVec.ofInt 64 18446744073709551615).toNat : Int) := by with_unfolding_all rfl
  rw [e, show BitVec.ofInt 64 18446744073709551615 = BitVec.allOnes 64 by decide, BitVec.xor_allOnes, BitVec.toNat_not, BitVec.toNat_ofInt, u64_mod]
  omega
theorem zig_f (a : Int) (h : -9223372036854775808 ≤ a) (h' : a ≤ 9223372036854775807) : num_zig.f a = some ((zig a : Nat) : Int) := by
  unfold num_zig.f zig
  by_cases h0 : 0 ≤ a
  · rw [if_pos h0, show a / 9223372036854775808 = 0 by omega, u64_in a h0 (by omega), u64_in (a * 2) (by omega) (by omega), u64_in 0 (by decide) (by decide), uxor_zero _ (by omega) (by omega)]
    congr 1
    omega
  · rw [if_neg h0, show a / 9223372036854775808 = -1 by omega]
    rw [show IntKind.u64.wrap a = a + 18446744073709551616 by rw [u64_mod]; omega, show IntKind.u64.wrap ((a + 18446744073709551616) * 2) = 2 * a + 18446744073709551616 by rw [u64_mod]; omega, show IntKind.u64.wrap (-1) = 18446744073709551615 by rw [u64_mod]; omega]
    rw [uxor_ones _ (by omega) (by omega)]
    congr 1
    omega
theorem PutInt_f {k : Nat} (l : List Int) (a : Int) (h : -9223372036854775808 ≤ a) (h' : a ≤ 9223372036854775807) (hk : 12 ≤ k) (hl : l.length + 10 ≤ capN) : num_PutInt.f k l a = some (l ++ enc (zig a)) := by
  unfold num_PutInt.f
  rw [fresh_f l hl, zig_f a h h']
  simp only [Option.bind_some]
  rw [put_f l (zig_lt a h h') hk hl]
  rfl
theorem Signed_f (a : Int) (h : -9223372036854775808 ≤ a) (h' : a ≤ 9223372036854775807) : runnelref01_Signed.f a = some ((zig a : Nat) : Int) := by
  unfold runnelref01_Signed.f zig
  by_cases h0 : 0 ≤ a
  · rw [if_pos (show a ≥ 0 from h0), if_pos h0, u64_in a h0 (by omega), u64_in (2 * a) (by omega) (by omega)]
    congr 1
    omega
  · rw [if_neg (show ¬ a ≥ 0 from h0), if_neg h0, wrap_in (a + 1) (by omega) (by omega), wrap_in (-(a + 1)) (by omega) (by omega), u64_in (-(a + 1)) (by omega) (by omega), u64_in (2 * -(a + 1)) (by omega) (by omega), u64_in _ (by omega) (by omega)]
    congr 1
    omega
theorem bytesOf_byte (s : ByteArray) : ∀ x ∈ bytesOf s, 0 ≤ x ∧ x < 256 := by
  intro x hx
  unfold bytesOf at hx
  obtain ⟨u, _, rfl⟩ := List.mem_map.1 hx
  have := u.toNat_lt
  omega
theorem str_bytesOf (s : ByteArray) : str (bytesOf s) = s.toList := by
  have e : ∀ l : List UInt8, str (l.map fun b => (b.toNat : Int)) = l := by
    intro l
    have e0 : ∀ m : List Int, str m = m.map fun n => UInt8.ofNat n.toNat := fun m => by with_unfolding_all rfl
    rw [e0]
    induction l with
    | nil => rfl
    | cons u l ih => rw [List.map_cons, List.map_cons, ih, Int.toNat_natCast, UInt8.ofNat_toNat]
  unfold bytesOf
  rw [e, toList_eq]
/-- P1.3: a text's bytes. -/
def txt (s : ByteArray) : List Int := enc s.size ++ bytesOf s
theorem PutText_f {k : Nat} (l : List Int) (s : ByteArray) (hk : 12 ≤ k) (hl : l.length + 10 + s.size ≤ capN) : num_PutText.f k l s = some (l ++ txt s) := by
  have h1 := cap_lt hl
  have hn : s.size < 18446744073709551616 := by omega
  have h10 := enc_ten hn
  unfold num_PutText.f
  rw [fresh_f l (by omega)]
  simp only [Option.bind_some]
  rw [u64_in _ (by omega) (by omega), put_f l hn hk (by omega)]
  simp only [Option.bind_some]
  rw [if_pos (by rw [List.length_append]; generalize (enc s.size).length = E at h10 ⊢; omega), txt, List.append_assoc]
theorem GetText_f {k : Nat} (l : List Int) (hl : ∀ x ∈ l, 0 ≤ x ∧ x < 256) (at0 most : Int) (hk : 2 * l.length + 8 ≤ k) (hc : l.length + 10 ≤ capN) (hm : most ≤ 9223372036854775807) :
    num_GetText.f k l at0 most = some (if most < 0 then ((⟨#[]⟩ : ByteArray), 0, 1) else if (NumPure.get l at0).2.2 = 0 then
      (if most < (NumPure.get l at0).1 then ((⟨#[]⟩ : ByteArray), 0, 2) else if (l.length : Int) - (NumPure.get l at0).2.1 < (NumPure.get l at0).1 then ((⟨#[]⟩ : ByteArray), 0, 6)
       else (strOfNums ((l.take ((NumPure.get l at0).2.1 + (NumPure.get l at0).1).toNat).drop (NumPure.get l at0).2.1.toNat), (NumPure.get l at0).2.1 + (NumPure.get l at0).1, 0))
      else ((⟨#[]⟩ : ByteArray), 0, (NumPure.get l at0).2.2)) := by
  have hcc := cap_lt (Nat.le_trans (Nat.le_add_right _ _) hc)
  unfold num_GetText.f
  by_cases h0 : most < 0
  · rw [if_pos h0, if_pos h0]
  · rw [if_neg h0, if_neg h0, get_f l hl at0 hk hc]
    simp only [Option.bind_some]
    have ho := get_ok l hl at0
    have hin : (NumPure.get l at0).2.2 = 0 → 0 ≤ (NumPure.get l at0).1 ∧ (NumPure.get l at0).1 < 18446744073709551616 ∧ 0 ≤ (NumPure.get l at0).2.1 ∧ (NumPure.get l at0).2.1 ≤ (l.length : Int) := by
      intro he
      rcases ho with ⟨ho, _⟩ | ⟨ho, _⟩ | ⟨m, p, r, h1, h2, h3, ho⟩
      · rw [ho] at he; cases he
      · rw [ho] at he; cases he
      · rw [ho, h2]
        simp only [List.length_append]
        generalize (enc m).length = E
        exact ⟨by omega, by omega, by omega, by omega⟩
    generalize NumPure.get l at0 = g at hin ⊢
    obtain ⟨n, b, e⟩ := g
    simp only at hin ⊢
    by_cases he : e = 0
    · obtain ⟨h1, h2, h3, h4⟩ := hin he
      rw [if_pos he, if_pos he, u64_in most (by omega) (by omega)]
      by_cases h5 : most < n
      · rw [if_pos (show n > most from h5), if_pos h5]
      · rw [if_neg (show ¬ n > most from h5), if_neg h5, wrap_in ((l.length : Int) - b) (by omega) (by omega), u64_in ((l.length : Int) - b) (by omega) (by omega)]
        by_cases h6 : (l.length : Int) - b < n
        · rw [if_pos (show n > (l.length : Int) - b from h6), if_pos h6]
        · rw [if_neg (show ¬ n > (l.length : Int) - b from h6), if_neg h6, wrap_in n (by omega) (by omega), wrap_in (b + n) (by omega) (by omega), if_pos h3, if_pos (by omega), if_pos (by omega)]
    · rw [if_neg he, if_neg he]
theorem RText_f {k : Nat} (s : ByteArray) (hk : 12 ≤ k) (hl : s.size + 10 ≤ capN) : runnelref01_Text.f k s = some (txt s) := by
  have h1 := cap_lt hl
  have hn : s.size < 18446744073709551616 := by omega
  have h10 := enc_ten hn
  unfold runnelref01_Text.f
  rw [u64_in _ (by omega) (by omega), Bytes_f hn hk]
  simp only [Option.bind_some]
  rw [if_pos (by generalize (enc s.size).length = E at h10 ⊢; omega), txt]
/-- A value in the plain words. -/
def toV (x : S28) : V := ⟨x.f0, x.f1, x.f2.toList⟩
def vs (l : List S28) : List V := l.map toV
theorem vs_drop (l : List S28) (i : Nat) (h : i < l.length) : vs (l.drop i) = toV (rd_T28 l (i : Int)) :: vs (l.drop (i + 1)) := by
  rw [List.drop_eq_getElem_cons h]
  show toV l[i] :: vs (l.drop (i + 1)) = _
  rw [show rd_T28 l (i : Int) = l[i] by unfold rd_T28; rw [Int.toNat_natCast, List.getD_eq_getElem?_getD, List.getElem?_eq_getElem h]; rfl]
theorem vs_nil (l : List S28) (i : Nat) (h : l.length ≤ i) : vs (l.drop i) = [] := by rw [List.drop_of_length_le h]; rfl
theorem wrapi {i n : Nat} (h : i < n) (hn : n ≤ maxLen) : wrap64 ((i : Int) + 1) = ((i + 1 : Nat) : Int) := by
  have : maxLen = 9223372036854775807 := by with_unfolding_all rfl
  have e : wrap64 ((i : Int) + 1) = ((i : Int) + 1 + 9223372036854775808) % 18446744073709551616 - 9223372036854775808 := by with_unfolding_all rfl
  rw [e]; omega
theorem cmpInt_f (a b : Int) : cmp_Compare_int.f a b = some (cmpI a b) := by
  unfold cmp_Compare_int.f cmp_isNaN_int.f cmpI
  simp only [Option.bind_some, bne_self_eq_false, Bool.false_eq_true, if_false]
  split
  · rfl
  · split <;> rfl
theorem cmpStr_f (a b : ByteArray) : cmp_Compare_string.f a b = some (cmpS a.toList b.toList) := by
  unfold cmp_Compare_string.f cmp_isNaN_string.f
  rw [cmpS_eq]
  simp only [Option.bind_some, bne_self_eq_false, Bool.false_eq_true, if_false]
  split
  · rfl
  · split <;> rfl
theorem Cmp_f (a b : S28) : row_Cmp.f a.f0 a.f1 a.f2 b.f0 b.f1 b.f2 = some (vcmp (toV a) (toV b)) := by
  unfold row_Cmp.f vcmp toV
  rw [cmpInt_f, cmpInt_f, cmpStr_f]
  simp only [Option.bind_some]
  split
  · split
    · rfl
    · split <;> rfl
  · rfl
theorem CompareFunc_l0 (l m : List S28) (hm : l.length ≤ maxLen) (d : Nat) : ∀ (k i : Nat), i + d = l.length → i ≤ m.length → d < k →
    api_Val.l0 k l m l (l.length : Int) (i : Int) = some (ord (vs (l.drop i)) (vs (m.drop i))) := by
  induction d with
  | zero =>
    intro k i hi him hk
    obtain ⟨k, rfl⟩ : ∃ n, k = n + 1 := ⟨k - 1, by omega⟩
    simp only [api_Val.l0]
    rw [if_neg (by omega), vs_nil l i (by omega)]
    by_cases h : l.length < m.length
    · rw [if_pos (by omega), vs_drop m i (by omega)]; rfl
    · rw [if_neg (by omega), vs_nil m i (by omega)]; rfl
  | succ d ih =>
    intro k i hi him hk
    obtain ⟨k, rfl⟩ : ∃ n, k = n + 1 := ⟨k - 1, by omega⟩
    simp only [api_Val.l0]
    rw [if_pos (by omega), if_pos (by omega), if_pos (by omega), vs_drop l i (by omega)]
    by_cases h : i < m.length
    · rw [if_neg (by omega), if_pos (by omega), Cmp_f, vs_drop m i h]
      simp only [Option.bind_some]
      rw [wrapi (n := l.length) (by omega) hm, ih k (i + 1) (by omega) (by omega) (by omega)]
      show _ = some (if vcmp _ _ = 0 then ord _ _ else vcmp _ _)
      split <;> rfl
    · rw [if_pos (by omega), vs_nil m i (by omega)]; rfl
theorem Order_f {k : Nat} (l m : List S28) (hm : l.length ≤ maxLen) (hk : l.length < k) : row_Order.f k l m = some (ord (vs l) (vs m)) := by
  unfold row_Order.f api_Val.f
  have h := CompareFunc_l0 l m hm l.length k 0 (by omega) (by omega) hk
  rw [show ((0 : Nat) : Int) = 0 from rfl] at h
  rw [h]
  rfl
theorem RCmp_f {k : Nat} (a b : S28) (hk : 1 ≤ k) : runnelref03_Cmp.f k a.f0 a.f1 a.f2 b.f0 b.f1 b.f2 = some (vcmp (toV a) (toV b)) := by
  obtain ⟨k, rfl⟩ : ∃ n, k = n + 1 := ⟨k - 1, by omega⟩
  unfold runnelref03_Cmp.f vcmp toV
  simp only [runnelref03_Cmp.j0]
  rw [cmpS_eq]
  unfold cmpI
  by_cases h1 : a.f0 = b.f0
  · by_cases h2 : a.f0 = 0
    · have h3 : ¬ (a.f0 = 1) := by omega
      simp only [h1] at h2 h3 ⊢
      by_cases h4 : a.f1 < b.f1
      · simp [h2, h4]
      · by_cases h5 : b.f1 < a.f1
        · simp [h2, h4, h5]
        · simp [h2, h4, h5]
    · by_cases h3 : a.f0 = 1
      · simp only [h1] at h2 h3 ⊢
        by_cases h4 : Op.bytesLess a.f2.toList b.f2.toList = true
        · simp [h3, h4]
        · by_cases h5 : Op.bytesLess b.f2.toList a.f2.toList = true
          · simp [h3, h4, h5]
          · simp [h3, h4, h5]
      · simp only [h1] at h2 h3 ⊢
        simp [h2, h3]
  · by_cases h4 : a.f0 < b.f0
    · simp [h1, h4]
    · by_cases h5 : b.f0 < a.f0
      · simp [h1, h4, h5]
      · omega
theorem ROrder_l0 (l m : List S28) (hm : l.length ≤ maxLen) (d : Nat) : ∀ (k i : Nat), i + d = l.length → i ≤ m.length → 2 * d + 2 < k →
    runnelref03_Order.l0 k l m (i : Int) = some (ord (vs (l.drop i)) (vs (m.drop i))) := by
  induction d with
  | zero =>
    intro k i hi him hk
    obtain ⟨k, rfl⟩ : ∃ n, k = n + 1 + 1 := ⟨k - 2, by omega⟩
    simp only [runnelref03_Order.l0, runnelref03_Order.j1]
    rw [if_neg (by omega), if_neg (show ¬ (false = true) by decide), vs_nil l i (by omega)]
    by_cases h : l.length < m.length
    · rw [if_pos (by omega), vs_drop m i (by omega)]; rfl
    · rw [if_neg (by omega), if_neg (by omega), vs_nil m i (by omega)]; rfl
  | succ d ih =>
    intro k i hi him hk
    obtain ⟨k, rfl⟩ : ∃ n, k = n + 1 + 1 := ⟨k - 2, by omega⟩
    simp only [runnelref03_Order.l0, runnelref03_Order.j1]
    rw [if_pos (by omega), vs_drop l i (by omega)]
    by_cases h : i < m.length
    · rw [decide_eq_true (by omega), if_pos rfl, if_pos (by omega), if_pos (by omega), if_pos (by omega), RCmp_f _ _ (by omega), vs_drop m i h]
      simp only [Option.bind_some]
      rw [wrapi (n := l.length) (by omega) hm, ih k (i + 1) (by omega) (by omega) (by omega)]
      show _ = some (if vcmp _ _ = 0 then ord _ _ else vcmp _ _)
      split <;> rfl
    · rw [decide_eq_false (by omega), if_neg (show ¬ (false = true) by decide), if_neg (by omega), if_pos (by omega), vs_nil m i (by omega)]; rfl
theorem ROrder_f {k : Nat} (l m : List S28) (hm : l.length ≤ maxLen) (hk : 2 * l.length + 2 < k) : runnelref03_Order.f k l m = some (ord (vs l) (vs m)) := by
  unfold runnelref03_Order.f
  exact ROrder_l0 l m hm l.length k 0 (by omega) (by omega) hk
theorem Long_l0 (l : List S28) (hm : l.length ≤ maxLen) (d : Nat) : ∀ (k i : Nat), i + d = l.length → d < k → ∃ b, runnelref03_Long.l0 k l (i : Int) = some b ∧ (b = false → ∀ x ∈ l.drop i, x.f2.size ≤ 5000) := by
  induction d with
  | zero =>
    intro k i hi hk
    obtain ⟨k, rfl⟩ : ∃ n, k = n + 1 := ⟨k - 1, by omega⟩
    simp only [runnelref03_Long.l0]
    rw [if_neg (by omega)]
    exact ⟨false, rfl, fun _ => by rw [List.drop_of_length_le (by omega)]; simp⟩
  | succ d ih =>
    intro k i hi hk
    obtain ⟨k, rfl⟩ : ∃ n, k = n + 1 := ⟨k - 1, by omega⟩
    simp only [runnelref03_Long.l0]
    rw [if_pos (by omega), if_pos (by omega)]
    have hi' : i < l.length := by omega
    have e : rd_T28 l (i : Int) = l[i] := by unfold rd_T28; rw [Int.toNat_natCast, List.getD_eq_getElem?_getD, List.getElem?_eq_getElem hi']; rfl
    rw [e]
    by_cases h : (l[i].f2.size : Int) > 5000
    · rw [if_pos h]; exact ⟨true, rfl, fun e => by cases e⟩
    · rw [if_neg h, wrapi (n := l.length) hi' hm]
      obtain ⟨b, hb, hf⟩ := ih k (i + 1) (by omega) (by omega)
      refine ⟨b, hb, fun e x hx => ?_⟩
      rw [List.drop_eq_getElem_cons hi'] at hx
      rcases List.mem_cons.1 hx with rfl | hx
      · omega
      · exact hf e x hx
theorem Long_f {k : Nat} (l : List S28) (hm : l.length ≤ maxLen) (hk : l.length < k) : ∃ b, runnelref03_Long.f k l = some b ∧ (b = false → l.length ≤ 30 ∧ ∀ x ∈ l, x.f2.size ≤ 5000) := by
  unfold runnelref03_Long.f
  by_cases h : (l.length : Int) > 30
  · rw [if_pos h]; exact ⟨true, rfl, fun e => by cases e⟩
  · rw [if_neg h]
    obtain ⟨b, hb, hf⟩ := Long_l0 l hm l.length k 0 (by omega) hk
    exact ⟨b, hb, fun e => ⟨by omega, by simpa using hf e⟩⟩
theorem live_60 : runnellaw03_live.f 60 = some true := by decide +kernel
theorem live_f {k : Nat} (hk : 60 ≤ k) : runnellaw03_live.f k = some true := at_rounds runnellaw03_live.mono hk live_60
theorem rd_at (l : List S28) (i : Nat) (h : i < l.length) : rd_T28 l (i : Int) = l[i] := by unfold rd_T28; rw [Int.toNat_natCast, List.getD_eq_getElem?_getD, List.getElem?_eq_getElem h]; rfl
/-- P3.2: what is wrong with values. -/
def chkL : List S28 → Int
  | [] => 0
  | x :: l => if x.f0 = 1 then (if (x.f2.size : Int) > 4096 then 2 else chkL l) else if x.f0 = 0 then chkL l else 8
def chk (l : List S28) : Int := if (l.length : Int) > 16 then 3 else chkL l
theorem Check_l0 (l : List S28) (hm : l.length ≤ maxLen) (d : Nat) : ∀ (k i : Nat), i + d = l.length → d < k → row_Check.l0 k l (l.length : Int) (i : Int) = some (chkL (l.drop i)) := by
  induction d with
  | zero =>
    intro k i hi hk
    obtain ⟨k, rfl⟩ : ∃ n, k = n + 1 := ⟨k - 1, by omega⟩
    simp only [row_Check.l0]
    rw [if_neg (by omega), List.drop_of_length_le (by omega)]; rfl
  | succ d ih =>
    intro k i hi hk
    obtain ⟨k, rfl⟩ : ∃ n, k = n + 1 := ⟨k - 1, by omega⟩
    have hi' : i < l.length := by omega
    simp only [row_Check.l0]
    rw [if_pos (by omega), if_pos (by omega), if_pos (by omega), rd_at l i hi', wrapi (n := l.length) hi' hm, ih k (i + 1) (by omega) (by omega), List.drop_eq_getElem_cons hi', chkL]
    split
    · split <;> rfl
    · split <;> rfl
theorem Check_f {k : Nat} (l : List S28) (hm : l.length ≤ maxLen) (hk : l.length < k) : row_Check.f k l = some (chk l) := by
  unfold row_Check.f chk
  have h := Check_l0 l hm l.length k 0 (by omega) hk
  rw [show ((0 : Nat) : Int) = 0 from rfl] at h
  rw [h]
  split <;> rfl
theorem RCheck_l0 (l : List S28) (hm : l.length ≤ maxLen) (d : Nat) : ∀ (k i : Nat), i + d = l.length → 2 * d + 1 < k → runnelref03_Check.l0 k l (i : Int) = some (chkL (l.drop i)) := by
  induction d with
  | zero =>
    intro k i hi hk
    obtain ⟨k, rfl⟩ : ∃ n, k = n + 1 := ⟨k - 1, by omega⟩
    simp only [runnelref03_Check.l0]
    rw [if_neg (by omega), List.drop_of_length_le (by omega)]; rfl
  | succ d ih =>
    intro k i hi hk
    obtain ⟨k, rfl⟩ : ∃ n, k = n + 1 + 1 := ⟨k - 2, by omega⟩
    have hi' : i < l.length := by omega
    have h1 := ih k (i + 1) (by omega) (by omega)
    simp only [runnelref03_Check.l0, runnelref03_Check.j1]
    have c1 : (i : Int) < (l.length : Int) := by omega
    have c2 : (0 : Int) ≤ (i : Int) := by omega
    rw [rd_at l i hi', wrapi (n := l.length) hi' hm, h1, List.drop_eq_getElem_cons hi', chkL]
    generalize l[i] = x
    simp only [if_pos c1, if_pos c2]
    by_cases h0 : x.f0 = 0
    · have h2 : ¬ x.f0 = 1 := by omega
      simp [h0]
    · by_cases h2 : x.f0 = 1
      · simp [h2]
        split <;> rfl
      · simp [h0, h2]
theorem RCheck_f {k : Nat} (l : List S28) (hm : l.length ≤ maxLen) (hk : 2 * l.length + 1 < k) : runnelref03_Check.f k l = some (chk l) := by
  unfold runnelref03_Check.f chk
  have h := RCheck_l0 l hm l.length k 0 (by omega) hk
  rw [show ((0 : Nat) : Int) = 0 from rfl] at h
  rw [h]
  split <;> rfl
/-- A value from a place on: nothing, or the value and the place behind. -/
def val1 (l : List Int) (at0 : Int) : Option (S28 × Int) :=
  if (l.length : Int) ≤ at0 then none
  else if rd l at0 = 0 then (if (NumPure.get l (at0 + 1)).2.2 = 0 then some (⟨0, zag (NumPure.get l (at0 + 1)).1, (⟨#[]⟩ : ByteArray)⟩, (NumPure.get l (at0 + 1)).2.1) else none)
  else if rd l at0 = 1 then (if (NumPure.get l (at0 + 1)).2.2 = 0 then (if 4096 < (NumPure.get l (at0 + 1)).1 then none else if (l.length : Int) - (NumPure.get l (at0 + 1)).2.1 < (NumPure.get l (at0 + 1)).1 then none
    else some (⟨1, 0, strOfNums ((l.take ((NumPure.get l (at0 + 1)).2.1 + (NumPure.get l (at0 + 1)).1).toNat).drop (NumPure.get l (at0 + 1)).2.1.toNat)⟩, (NumPure.get l (at0 + 1)).2.1 + (NumPure.get l (at0 + 1)).1)) else none)
  else none
/-- So many values from a place on. -/
def valN (l : List Int) : Nat → Int → Option (List S28 × Int)
  | 0, at0 => some ([], at0)
  | d + 1, at0 => (val1 l at0).bind fun v => (valN l d v.2).map fun r => (v.1 :: r.1, r.2)
/-- P3.3: Get. -/
def rget (l : List Int) (at0 : Int) : List S28 × Int × Int :=
  if (NumPure.get l at0).2.2 = 0 then (if 16 < (NumPure.get l at0).1 then ([], 0, 6) else (match valN l (NumPure.get l at0).1.toNat (NumPure.get l at0).2.1 with | none => ([], 0, 6) | some r => (r.1, r.2, 0))) else ([], 0, (NumPure.get l at0).2.2)
theorem get_next (l : List Int) (hl : ∀ x ∈ l, 0 ≤ x ∧ x < 256) (at0 : Int) : 0 ≤ (NumPure.get l at0).2.1 ∧ (NumPure.get l at0).2.1 ≤ (l.length : Int) ∧ 0 ≤ (NumPure.get l at0).1 ∧ (NumPure.get l at0).1 < 18446744073709551616 := by
  rcases get_ok l hl at0 with ⟨ho, _⟩ | ⟨ho, _⟩ | ⟨m, p, r, h1, h2, h3, ho⟩
  · rw [ho]; exact ⟨Int.le_refl _, by show (0 : Int) ≤ _; omega, Int.le_refl _, by decide⟩
  · rw [ho]; exact ⟨Int.le_refl _, by show (0 : Int) ≤ _; omega, Int.le_refl _, by decide⟩
  · have hL : l.length = p.length + ((enc m).length + r.length) := by rw [h2]; simp
    rw [ho]
    generalize (enc m).length = E at hL
    exact ⟨by show (0 : Int) ≤ ((p.length + E : Nat) : Int); omega, by show ((p.length + E : Nat) : Int) ≤ _; omega, by show (0 : Int) ≤ (m : Int); omega, by show (m : Int) < _; omega⟩
theorem val1_next (l : List Int) (hl : ∀ x ∈ l, 0 ≤ x ∧ x < 256) (at0 : Int) (v : S28) (n : Int) (h : val1 l at0 = some (v, n)) : 0 ≤ n ∧ n ≤ (l.length : Int) := by
  have hn := get_next l hl (at0 + 1)
  unfold val1 at h
  generalize NumPure.get l (at0 + 1) = g at h hn
  split at h
  · cases h
  · split at h
    · split at h
      · simp only [Option.some.injEq, Prod.mk.injEq] at h; omega
      · cases h
    · split at h
      · split at h
        · split at h
          · cases h
          · split at h
            · cases h
            · simp only [Option.some.injEq, Prod.mk.injEq] at h; omega
        · cases h
      · cases h
theorem rd_byte (l : List Int) (hl : ∀ x ∈ l, 0 ≤ x ∧ x < 256) (i : Int) : 0 ≤ rd l i ∧ rd l i < 256 := by
  unfold rd
  rw [List.getD_eq_getElem?_getD]
  by_cases h : i.toNat < l.length
  · rw [List.getElem?_eq_getElem h]; exact hl _ (List.getElem_mem _)
  · rw [List.getElem?_eq_none (by omega)]; exact ⟨Int.le_refl _, by decide⟩
theorem value_f {k : Nat} (l : List Int) (hl : ∀ x ∈ l, 0 ≤ x ∧ x < 256) (at0 : Int) (h0 : 0 ≤ at0) (hk : 2 * l.length + 8 ≤ k) (hc : l.length + 10 ≤ capN) :
    ∃ v n e, row_value.f k l at0 = some (v.f0, v.f1, v.f2, n, e) ∧ ((e = 0 ∧ val1 l at0 = some (v, n)) ∨ (e ≠ 0 ∧ val1 l at0 = none)) := by
  have hcc := cap_lt (Nat.le_trans (Nat.le_add_right _ _) hc)
  have hr := rd_byte l hl at0
  unfold row_value.f val1
  by_cases h1 : (l.length : Int) ≤ at0
  · rw [if_pos (show at0 ≥ (l.length : Int) from h1), if_pos h1]
    exact ⟨⟨0, 0, (⟨#[]⟩ : ByteArray)⟩, 0, 6, rfl, .inr ⟨by decide, rfl⟩⟩
  · rw [if_neg (show ¬ at0 ≥ (l.length : Int) from h1), if_neg h1, if_pos h0, if_pos (by omega), wrap_in (at0 + 1) (by omega) (by omega), wrap_in (rd l at0) (by omega) (by omega)]
    by_cases h2 : rd l at0 = 0
    · rw [if_pos h2, if_pos h2, getInt_f l hl (at0 + 1) hk hc]
      simp only [Option.bind_some]
      refine ⟨⟨rd l at0, _, _⟩, _, _, rfl, ?_⟩
      by_cases h3 : (NumPure.get l (at0 + 1)).2.2 = 0
      · rw [if_pos h3, h2]; exact .inl ⟨h3, rfl⟩
      · rw [if_neg h3]; exact .inr ⟨h3, rfl⟩
    · rw [if_neg h2, if_neg h2]
      by_cases h3 : rd l at0 = 1
      · rw [if_pos h3, if_pos h3, GetText_f l hl (at0 + 1) 4096 hk hc (by decide)]
        simp only [Option.bind_some]
        refine ⟨⟨rd l at0, 0, _⟩, _, _, rfl, ?_⟩
        rw [if_neg (show ¬ (4096 : Int) < 0 by decide)]
        generalize NumPure.get l (at0 + 1) = g
        by_cases h4 : g.2.2 = 0
        · rw [if_pos h4, if_pos h4]
          by_cases h5 : 4096 < g.1
          · rw [if_pos h5, if_pos h5]; exact .inr ⟨by decide, rfl⟩
          · rw [if_neg h5, if_neg h5]
            by_cases h6 : (l.length : Int) - g.2.1 < g.1
            · rw [if_pos h6, if_pos h6]; exact .inr ⟨by decide, rfl⟩
            · rw [if_neg h6, if_neg h6, h3]; exact .inl ⟨rfl, rfl⟩
        · rw [if_neg h4, if_neg h4]; exact .inr ⟨h4, rfl⟩
      · rw [if_neg h3, if_neg h3]
        exact ⟨⟨rd l at0, 0, (⟨#[]⟩ : ByteArray)⟩, 0, 6, rfl, .inr ⟨by decide, rfl⟩⟩
theorem Get_l0r (l : List Int) (hl : ∀ x ∈ l, 0 ≤ x ∧ x < 256) (hc : l.length + 10 ≤ capN) (n : Nat) (hn : n ≤ 16) (d : Nat) : ∀ (k i : Nat) (acc : List S28) (at0 : Int), 0 ≤ at0 → i + d = n → acc.length = i → 2 * l.length + 8 + d < k →
    row_Get.l0 k l acc at0 (n : Int) (i : Int) = some (match valN l d at0 with | none => ([], 0, 6) | some r => (acc ++ r.1, r.2, 0)) := by
  induction d with
  | zero =>
    intro k i acc at0 h0 hi ha hk
    obtain ⟨k, rfl⟩ : ∃ m, k = m + 1 := ⟨k - 1, by omega⟩
    simp only [row_Get.l0]
    rw [if_neg (by omega), valN]
    simp
  | succ d ih =>
    intro k i acc at0 h0 hi ha hk
    obtain ⟨k, rfl⟩ : ∃ m, k = m + 1 := ⟨k - 1, by omega⟩
    obtain ⟨v, m, e, hv, hcase⟩ := value_f (k := k) l hl at0 h0 (by omega) hc
    simp only [row_Get.l0]
    rw [if_pos (by omega), hv, valN]
    simp only [Option.bind_some]
    rcases hcase with ⟨he, h1⟩ | ⟨he, h1⟩
    · have hm := val1_next l hl at0 v m h1
      rw [if_pos he, if_pos (by omega), u64_in ((i : Int) + 1) (by omega) (by omega), show ((i : Int) + 1) = ((i + 1 : Nat) : Int) by omega, ih k (i + 1) _ m hm.1 (by omega) (by simp [ha]) (by omega), h1]
      simp only [Option.bind_some]
      cases valN l d m with
      | none => rfl
      | some r => simp
    · rw [if_neg he, h1]; rfl
theorem rget_f {k : Nat} (l : List Int) (hl : ∀ x ∈ l, 0 ≤ x ∧ x < 256) (at0 : Int) (hk : 2 * l.length + 30 ≤ k) (hc : l.length + 10 ≤ capN) : row_Get.f k l at0 = some (rget l at0) := by
  have hn := get_next l hl at0
  unfold row_Get.f rget
  rw [get_f l hl at0 (by omega) hc]
  simp only [Option.bind_some]
  generalize NumPure.get l at0 = g at hn ⊢
  obtain ⟨n, nx, e⟩ := g
  simp only at hn ⊢
  by_cases he : e = 0
  · rw [if_pos he, if_pos he]
    by_cases h16 : 16 < n
    · rw [if_pos (show n > 16 from h16), if_pos h16]
    · rw [if_neg (show ¬ n > 16 from h16), if_neg h16]
      obtain ⟨m, rfl⟩ := Int.eq_ofNat_of_zero_le hn.2.2.1
      have h1 := Get_l0r l hl hc m (by omega) m k 0 [] nx hn.1 (by omega) rfl (by omega)
      rw [show ((0 : Nat) : Int) = 0 from rfl] at h1
      rw [h1, Int.toNat_natCast]
      cases valN l m nx <;> rfl
  · rw [if_neg he, if_neg he]
/-- A value that may be told. -/
def good (x : S28) : Prop := (x.f0 = 0 ∨ x.f0 = 1) ∧ (x.f0 = 1 → x.f2.size ≤ 4096) ∧ -9223372036854775808 ≤ x.f1 ∧ x.f1 ≤ 9223372036854775807
/-- P3.3: a value's bytes, values' bytes, a row's bytes. -/
def item (x : S28) : List Int := x.f0 :: (if x.f0 = 0 then enc (zig x.f1) else txt x.f2)
def items : List S28 → List Int
  | [] => []
  | x :: l => item x ++ items l
def rbytes (l : List S28) : List Int := enc l.length ++ items l
theorem txt_length (s : ByteArray) (h : s.size ≤ 4096) : (txt s).length ≤ 4106 := by
  have h10 := enc_ten (n := s.size) (by omega)
  rw [txt, List.length_append, bytesOf_length]; omega
theorem item_length (x : S28) (h : good x) : (item x).length ≤ 4107 := by
  obtain ⟨h1, h2, h3, h4⟩ := h
  unfold item
  rw [List.length_cons]
  split
  · have := enc_ten (zig_lt x.f1 h3 h4); omega
  · have := txt_length x.f2 (h2 (by omega)); omega
theorem items_length (l : List S28) (h : ∀ x ∈ l, good x) : (items l).length ≤ 4107 * l.length := by
  induction l with
  | nil => simp [items]
  | cons x l ih =>
    have h1 := item_length x (h x (by simp))
    have h2 := ih (fun y hy => h y (by simp [hy]))
    rw [items, List.length_append, List.length_cons]
    omega
theorem chkL_good (l : List S28) (h : chkL l = 0) (hw : ∀ x ∈ l, (Lit.int .i64 x.f1).wf = true) : ∀ x ∈ l, good x := by
  induction l with
  | nil => intro x hx; cases hx
  | cons y l ih =>
    rw [chkL] at h
    intro x hx
    have hy := wf_i64 (hw y (by simp))
    by_cases h1 : y.f0 = 1
    · rw [if_pos h1] at h
      split at h
      · exact absurd h (by decide)
      · rename_i h2
        rcases List.mem_cons.1 hx with rfl | hx
        · exact ⟨.inr h1, fun _ => by omega, hy.1, hy.2⟩
        · exact ih h (fun z hz => hw z (by simp [hz])) x hx
    · rw [if_neg h1] at h
      split at h
      · rename_i h0
        rcases List.mem_cons.1 hx with rfl | hx
        · exact ⟨.inl h0, fun e => by omega, hy.1, hy.2⟩
        · exact ih h (fun z hz => hw z (by simp [hz])) x hx
      · exact absurd h (by decide)
theorem chk_good (l : List S28) (h : chk l = 0) (hw : ∀ x ∈ l, (Lit.int .i64 x.f1).wf = true) : l.length ≤ 16 ∧ ∀ x ∈ l, good x := by
  unfold chk at h
  split at h
  · exact absurd h (by decide)
  · exact ⟨by omega, chkL_good l h hw⟩
theorem Put_l0 (l : List S28) (hm : l.length ≤ 16) (hg : ∀ x ∈ l, good x) (d : Nat) : ∀ (k i : Nat) (acc : List Int), i + d = l.length → d + 12 < k → acc.length + 5000 * d + 10 ≤ capN →
    row_Put.l0 k acc l (l.length : Int) (i : Int) = some (acc ++ items (l.drop i), 0) := by
  induction d with
  | zero =>
    intro k i acc hi hk _
    obtain ⟨k, rfl⟩ : ∃ n, k = n + 1 := ⟨k - 1, by omega⟩
    simp only [row_Put.l0]
    rw [if_neg (by omega), List.drop_of_length_le (by omega), items, List.append_nil]
  | succ d ih =>
    intro k i acc hi hk hc
    obtain ⟨k, rfl⟩ : ∃ n, k = n + 1 := ⟨k - 1, by omega⟩
    have hi' : i < l.length := by omega
    have hx := hg l[i] (List.getElem_mem _)
    have hil := item_length l[i] hx
    have hwi : wrap64 ((i : Int) + 1) = ((i + 1 : Nat) : Int) := by rw [wrap_in _ (by omega) (by omega)]; omega
    simp only [row_Put.l0]
    rw [if_pos (by omega), if_pos (by omega), if_pos (by omega), if_pos (cap_lt (by omega)), rd_at l i hi', hwi, List.drop_eq_getElem_cons hi', items]
    simp only [Option.bind_some]
    generalize l[i] = x at hx hil ⊢
    obtain ⟨h1, h2, h3, h4⟩ := hx
    have h256 : x.f0 % 256 = x.f0 := by omega
    rw [h256]
    by_cases h0 : x.f0 = 0
    · have he : acc ++ [x.f0] ++ enc (zig x.f1) = acc ++ item x := by unfold item; rw [if_pos h0]; simp
      rw [if_pos h0, PutInt_f _ x.f1 h3 h4 (by omega) (by simp; omega), he]
      simp only [Option.bind_some]
      rw [ih k (i + 1) _ (by omega) (by omega) (by rw [List.length_append]; omega)]
      simp
    · have h5 := h2 (by omega)
      have he : acc ++ [x.f0] ++ txt x.f2 = acc ++ item x := by unfold item; rw [if_neg h0]; simp
      rw [if_neg h0, PutText_f _ x.f2 (by omega) (by simp; omega), he]
      simp only [Option.bind_some]
      rw [ih k (i + 1) _ (by omega) (by omega) (by rw [List.length_append]; omega)]
      simp
theorem rput_f {k : Nat} (b : List Int) (l : List S28) (hm : l.length ≤ maxLen) (hw : ∀ x ∈ l, (Lit.int .i64 x.f1).wf = true) (hk : l.length + 60 < k) (hb : b.length ≤ 1000000) : row_Put.f k b l = some (if chk l = 0 then (b ++ rbytes l, 0) else ([], chk l)) := by
  have hcg := cap_ge
  unfold row_Put.f
  rw [Check_f l hm (by omega)]
  simp only [Option.bind_some]
  by_cases h : chk l = 0
  · obtain ⟨h16, hg⟩ := chk_good l h hw
    have h10 := enc_ten (n := l.length) (by omega)
    rw [if_pos h, if_pos h, u64_in _ (by omega) (by omega), Put_f b (by omega) (by omega) (by omega)]
    simp only [Option.bind_some]
    have h1 := Put_l0 l h16 hg l.length k 0 (b ++ enc l.length) (by omega) (by omega) (by rw [List.length_append]; generalize (enc l.length).length = E at h10 ⊢; omega)
    rw [show ((0 : Nat) : Int) = 0 from rfl] at h1
    rw [h1, rbytes, List.drop_zero, List.append_assoc]
  · rw [if_neg h, if_neg h]
theorem RBytes_l0 (l : List S28) (hm : l.length ≤ 16) (hg : ∀ x ∈ l, good x) (d : Nat) : ∀ (k i : Nat) (acc : List Int), i + d = l.length → d + 12 < k → acc.length + 5000 * d + 10 ≤ capN →
    runnelref03_Bytes.l0 k l acc (i : Int) = some (acc ++ items (l.drop i)) := by
  have hcg := cap_ge
  induction d with
  | zero =>
    intro k i acc hi hk _
    obtain ⟨k, rfl⟩ : ∃ n, k = n + 1 := ⟨k - 1, by omega⟩
    simp only [runnelref03_Bytes.l0]
    rw [if_neg (by omega), List.drop_of_length_le (by omega), items, List.append_nil]
  | succ d ih =>
    intro k i acc hi hk hc
    obtain ⟨k, rfl⟩ : ∃ n, k = n + 1 := ⟨k - 1, by omega⟩
    have hi' : i < l.length := by omega
    have hx := hg l[i] (List.getElem_mem _)
    have hil := item_length l[i] hx
    have hwi : wrap64 ((i : Int) + 1) = ((i + 1 : Nat) : Int) := by rw [wrap_in _ (by omega) (by omega)]; omega
    have ca : acc.length < 140737488355328 := cap_lt (by omega)
    simp only [runnelref03_Bytes.l0]
    rw [if_pos (by omega), if_pos (by omega), rd_at l i hi', hwi, List.drop_eq_getElem_cons hi', items]
    simp only [if_pos ca, Option.bind_some]
    generalize l[i] = x at hx hil ⊢
    obtain ⟨h1, h2, h3, h4⟩ := hx
    by_cases h0 : x.f0 = 0
    · have hz := zig_lt x.f1 h3 h4
      have hz10 := enc_ten hz
      have he : acc ++ [0] ++ enc (zig x.f1) = acc ++ item x := by unfold item; rw [if_pos h0, h0]; simp
      rw [if_pos h0, Signed_f x.f1 h3 h4]
      simp only [Option.bind_some]
      rw [Bytes_f hz (by omega)]
      simp only [Option.bind_some]
      rw [if_pos (cap_lt (by rw [List.length_append, List.length_singleton]; omega)), he, ih k (i + 1) _ (by omega) (by omega) (by rw [List.length_append]; omega)]
      simp
    · have h01 : x.f0 = 1 := by omega
      have h5 := h2 h01
      have htl := txt_length x.f2 h5
      have he : acc ++ [1] ++ txt x.f2 = acc ++ item x := by unfold item; rw [if_neg h0, h01]; simp
      rw [if_neg h0, RText_f x.f2 (by omega) (by omega)]
      simp only [Option.bind_some]
      rw [if_pos (cap_lt (by rw [List.length_append, List.length_singleton]; omega)), he, ih k (i + 1) _ (by omega) (by omega) (by rw [List.length_append]; omega)]
      simp
theorem RBytes_f {k : Nat} (l : List S28) (h16 : l.length ≤ 16) (hg : ∀ x ∈ l, good x) (hk : l.length + 60 < k) : runnelref03_Bytes.f k l = some (rbytes l) := by
  have hcg := cap_ge
  have h10 := enc_ten (n := l.length) (by omega)
  unfold runnelref03_Bytes.f
  rw [u64_in _ (by omega) (by omega), Bytes_f (by omega) (by omega)]
  simp only [Option.bind_some]
  have h1 := RBytes_l0 l h16 hg l.length k 0 (enc l.length) (by omega) (by omega) (by generalize (enc l.length).length = E at h10 ⊢; omega)
  rw [show ((0 : Nat) : Int) = 0 from rfl] at h1
  rw [h1, rbytes, List.drop_zero]
/-- A value without what plays no part. -/
def plain (x : S28) : S28 := if x.f0 = 0 then ⟨0, x.f1, (⟨#[]⟩ : ByteArray)⟩ else ⟨1, 0, x.f2⟩
theorem str_back (s : ByteArray) : strOfNums (bytesOf s) = s := by
  have h : (strOfNums (bytesOf s)).data.toList = s.data.toList := by
    have := str_bytesOf s
    rw [← str_of, toList_eq, toList_eq] at this
    exact this
  have h2 : (strOfNums (bytesOf s)).data = s.data := Array.toList_inj.1 h
  exact ByteArray.ext h2
theorem rd_app (p r : List Int) (b : Int) : rd (p ++ b :: r) (p.length : Int) = b := by
  unfold rd
  rw [Int.toNat_natCast, List.getD_eq_getElem?_getD, List.getElem?_append_right (Nat.le_refl _)]
  simp
theorem val1_item (p r : List Int) (x : S28) (h : good x) : val1 (p ++ (item x ++ r)) (p.length : Int) = some (plain x, ((p.length + (item x).length : Nat) : Int)) := by
  obtain ⟨h1, h2, h3, h4⟩ := h
  unfold val1 plain
  have e0 : p ++ (item x ++ r) = p ++ x.f0 :: ((if x.f0 = 0 then enc (zig x.f1) else txt x.f2) ++ r) := rfl
  have hrd : rd (p ++ (item x ++ r)) (p.length : Int) = x.f0 := by rw [e0, rd_app]
  have hlen : ¬ ((p ++ (item x ++ r)).length : Int) ≤ (p.length : Int) := by unfold item; simp; omega
  rw [if_neg hlen, hrd]
  by_cases h0 : x.f0 = 0
  · have hg := get_enc (p ++ [x.f0]) r (zig x.f1) (zig_lt x.f1 h3 h4) ((p.length : Int) + 1) (by simp)
    have e1 : p ++ (item x ++ r) = (p ++ [x.f0]) ++ (enc (zig x.f1) ++ r) := by unfold item; rw [if_pos h0]; simp
    rw [if_pos h0, if_pos h0, e1, hg]
    simp only [if_true]
    rw [show zag ((zig x.f1 : Nat) : Int) = x.f1 from zag_zig x.f1]
    unfold item
    rw [if_pos h0]
    simp only [List.length_append, List.length_singleton, List.length_cons, List.length_nil, Option.some.injEq, Prod.mk.injEq, true_and]
    omega
  · have h01 : x.f0 = 1 := by omega
    have h5 := h2 h01
    have hg := get_enc (p ++ [x.f0]) (bytesOf x.f2 ++ r) x.f2.size (by omega) ((p.length : Int) + 1) (by simp)
    have e1 : p ++ (item x ++ r) = (p ++ [x.f0]) ++ (enc x.f2.size ++ (bytesOf x.f2 ++ r)) := by unfold item txt; rw [if_neg h0]; simp
    have hbl := bytesOf_length x.f2
    obtain ⟨Q, hQ⟩ : ∃ Q, Q = p ++ [x.f0] := ⟨_, rfl⟩
    have hQl : Q.length = p.length + 1 := by rw [hQ]; simp
    rw [← hQ] at hg e1
    have hcut := cut_mid (Q ++ enc x.f2.size) (bytesOf x.f2) r (((Q.length + (enc x.f2.size).length : Nat) : Int) + (x.f2.size : Int)) ((Q.length + (enc x.f2.size).length : Nat) : Int) (by rw [List.length_append, hbl]; omega) (by rw [List.length_append])
    rw [List.append_assoc] at hcut
    have hL : ((Q ++ (enc x.f2.size ++ (bytesOf x.f2 ++ r))).length : Int) = (Q.length : Int) + (enc x.f2.size).length + x.f2.size + r.length := by simp [hbl]; omega
    rw [if_neg h0, if_neg h0, if_pos h01, e1, hg]
    simp only [if_true]
    rw [if_neg (by omega), if_neg (by rw [hL]; omega), hcut, str_back]
    unfold item txt
    rw [if_neg h0]
    simp only [List.length_append, List.length_singleton, List.length_cons, List.length_nil, Option.some.injEq, Prod.mk.injEq, true_and, hbl]
    omega
theorem valN_items (l : List S28) : ∀ (p r : List Int), (∀ x ∈ l, good x) → valN (p ++ (items l ++ r)) l.length (p.length : Int) = some (l.map plain, ((p.length + (items l).length : Nat) : Int)) := by
  induction l with
  | nil => intro p r _; rfl
  | cons x l ih =>
    intro p r h
    have h1 := val1_item p (items l ++ r) x (h x (by simp))
    have h2 := ih (p ++ item x) r (fun y hy => h y (by simp [hy]))
    have e : p ++ (items (x :: l) ++ r) = p ++ (item x ++ (items l ++ r)) := by rw [items]; simp
    have e2 : (p ++ item x) ++ (items l ++ r) = p ++ (item x ++ (items l ++ r)) := by simp
    rw [e2, List.length_append] at h2
    rw [List.length_cons, valN, e, h1]
    simp only [Option.bind_some]
    rw [h2, items, List.length_append, Nat.add_assoc]
    rfl
theorem rget_told (b r : List Int) (l : List S28) (h16 : l.length ≤ 16) (hg : ∀ x ∈ l, good x) : rget (b ++ (rbytes l ++ r)) (b.length : Int) = (l.map plain, ((b.length + (rbytes l).length : Nat) : Int), 0) := by
  have h1 := get_enc b (items l ++ r) l.length (by omega) (b.length : Int) rfl
  have e : b ++ (rbytes l ++ r) = b ++ (enc l.length ++ (items l ++ r)) := by rw [rbytes]; simp
  have h2 := valN_items l (b ++ enc l.length) r hg
  rw [List.append_assoc, List.length_append] at h2
  unfold rget
  rw [e, h1]
  simp only [if_true]
  rw [if_neg (by omega), Int.toNat_natCast, h2, rbytes, List.length_append, Nat.add_assoc]
theorem plain_same (l : List S28) (hg : ∀ x ∈ l, good x) : ord (vs (l.map plain)) (vs l) = 0 := by
  induction l with
  | nil => rfl
  | cons x l ih =>
    have h1 : vcmp (toV (plain x)) (toV x) = 0 := by
      unfold plain toV vcmp
      rcases (hg x (by simp)).1 with h0 | h0
      · simp only [h0, if_true]; exact cmpI_ok.refl _
      · simp [h0]; exact cmpS_ok.refl _
    show (if vcmp (toV (plain x)) (toV x) = 0 then ord (vs (l.map plain)) (vs l) else vcmp (toV (plain x)) (toV x)) = 0
    rw [if_pos h1]
    exact ih (fun y hy => hg y (by simp [hy]))
theorem rbytes_byte (l : List S28) (hg : ∀ x ∈ l, good x) : ∀ x ∈ rbytes l, 0 ≤ x ∧ x < 256 := by
  have h1 : ∀ m : List S28, (∀ x ∈ m, good x) → ∀ x ∈ items m, 0 ≤ x ∧ x < 256 := by
    intro m
    induction m with
    | nil => intro _ x hx; cases hx
    | cons y m ih =>
      intro hm x hx
      rw [items] at hx
      rcases List.mem_append.1 hx with hx | hx
      · unfold item at hx
        rcases List.mem_cons.1 hx with rfl | hx
        · have := (hm y (by simp)).1; omega
        · split at hx
          · exact enc_byte _ x hx
          · rcases List.mem_append.1 hx with hx | hx
            · exact enc_byte _ x hx
            · exact bytesOf_byte _ x hx
      · exact ih (fun z hz => hm z (by simp [hz])) x hx
  intro x hx
  rcases List.mem_append.1 hx with hx | hx
  · exact enc_byte _ x hx
  · exact h1 l hg x hx
theorem rbytes_length (l : List S28) (h16 : l.length ≤ 16) (hg : ∀ x ∈ l, good x) : (rbytes l).length ≤ 70000 := by
  have h1 := items_length l hg
  have h10 := enc_ten (n := l.length) (by omega)
  rw [rbytes, List.length_append]
  omega
end Go.Proofs.Ytdbpkfbjcmjkhaa.BRowBytes
