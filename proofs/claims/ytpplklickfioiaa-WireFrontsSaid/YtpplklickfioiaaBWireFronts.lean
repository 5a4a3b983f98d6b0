/- WireFronts: what the printed functions answer, for each input, by plain mathematics. -/
import Derived.Test.YtpplklickfioiaaOWireFrontsx
import Derived.Test.YtpplklickfioiaaNumPure
namespace Go.Proofs.Ytpplklickfioiaa.BWireFronts
open Go.RowKit Go.Proofs.Ytpplklickfioiaa.PWireFronts Go.Proofs.Ytpplklickfioiaa.NumPure Go.Proofs.YtpplklickfioiaaW.PrintWords Go.Proofs.YtpplklickfioiaaW.PrintLast Go.Proofs.YtpplklickfioiaaW.PrintMore
set_option linter.unusedVariables false
set_option linter.unusedSimpArgs false
attribute [local irreducible] IntKind.wrap Go.bits shr shl maxLen str
theorem size_l0 (d : Nat) : ∀ (k n : Nat) (c : Int), (hi n).length = d → d < k → 0 ≤ c → c + d ≤ 100 → num_Size.l0 k n c = some (c + d) := by
  induction d with
  | zero =>
    intro k n c hd hk _ _
    obtain ⟨k, rfl⟩ : ∃ m, k = m + 1 := ⟨k - 1, by omega⟩
    have h0 : n = 0 := by
      rcases Nat.eq_zero_or_pos n with h | h
      · exact h
      · rw [hi_pos h] at hd; simp at hd
    subst h0
    simp only [num_Size.l0]
    rw [if_neg (by omega)]
    simp
  | succ d ih =>
    intro k n c hd hk h0 h1
    obtain ⟨k, rfl⟩ : ∃ m, k = m + 1 := ⟨k - 1, by omega⟩
    rcases Nat.eq_zero_or_pos n with h | h
    · subst h; rw [hi_zero] at hd; simp at hd
    · rw [hi_pos h] at hd
      simp only [List.length_append, List.length_singleton] at hd
      simp only [num_Size.l0]
      rw [if_pos (by omega), show ((n : Int) / 128) = ((n / 128 : Nat) : Int) by omega]
      rw [wrap_in _ (by omega) (by omega), ih k _ _ (by omega) (by omega) (by omega) (by omega)]
      congr 1
      omega
theorem size_f {k n : Nat} (hn : n < 18446744073709551616) (hk : 12 ≤ k) : num_Size.f k n = some ((enc n).length : Int) := by
  have h := hi_ten hn
  unfold num_Size.f
  rw [show ((n : Int) / 128) = ((n / 128 : Nat) : Int) by omega, size_l0 _ k _ 1 rfl (by omega) (by omega) (by omega), enc_length]
  congr 1
  omega
theorem shr128 (n e : Nat) (he : e ≤ 9) : shr .u64 (n : Int) (7 * (e : Int)) = ((n / 128 ^ e : Nat) : Int) := by
  have h1 : (7 * (e : Int)).toNat = 7 * e := by omega
  have h2 : min (7 * e) IntKind.u64.bits = 7 * e := Nat.min_eq_left (by simp only [IntKind.bits]; omega)
  have h3 : (128 : Nat) ^ e = 2 ^ (7 * e) := by rw [Nat.pow_mul]
  have h4 : shr .u64 (n : Int) (7 * (e : Int)) = (n : Int) / 2 ^ min (7 * (e : Int)).toNat IntKind.u64.bits := by with_unfolding_all rfl
  rw [h4, h1, h2, h3, Int.natCast_ediv, Int.natCast_pow]
  rfl
theorem put_l0 (n m : Nat) (e : List Int) (hm : m ≤ 9) (h1 : ∀ j, j < m → e.drop j = (((n / 128 ^ (m - j) % 128 : Nat) : Int) + 128) :: e.drop (j + 1)) (h2 : e.drop m = [((n % 128 : Nat) : Int)])
    (h3 : e.drop (m + 1) = []) (d : Nat) : ∀ (k j : Nat) (acc : List Int), j + d = m + 1 → d < k → acc.length + d ≤ capN →
    num_put.l0 k acc n ((m + 1 : Nat) : Int) ((m + 1 : Nat) : Int) j = some (acc ++ e.drop j) := by
  induction d with
  | zero =>
    intro k j acc hj hk _
    obtain ⟨k, rfl⟩ : ∃ m, k = m + 1 := ⟨k - 1, by omega⟩
    simp only [num_put.l0]
    rw [if_neg (by omega), show j = m + 1 by omega, h3, List.append_nil]
  | succ d ih =>
    intro k j acc hj hk ha
    obtain ⟨k, rfl⟩ : ∃ m, k = m + 1 := ⟨k - 1, by omega⟩
    have hd9 : d ≤ 9 := by omega
    have hc : acc.length < 140737488355328 := cap_lt (Nat.le_trans (Nat.le_add_right _ _) ha)
    have hi0 : ∀ x : Int, (acc ++ [x]).length + d ≤ capN := fun x => by rw [List.length_append, List.length_singleton]; omega
    clear ha
    have e1 : wrap64 (((m + 1 : Nat) : Int) - 1) = (m : Int) := by rw [wrap_in _ (by omega) (by omega)]; omega
    have e2 : wrap64 ((m : Int) - (j : Int)) = (d : Int) := by rw [wrap_in _ (by omega) (by omega)]; omega
    have e3 : wrap64 (7 * (d : Int)) = 7 * (d : Int) := wrap_in _ (by omega) (by omega)
    have e4 : wrap64 ((j : Int) + 1) = ((j + 1 : Nat) : Int) := by rw [wrap_in _ (by omega) (by omega)]; omega
    have e5 : bits .and .u8 (((n / 128 ^ d : Nat) : Int) % 256) 127 = ((n / 128 ^ d % 128 : Nat) : Int) := by
      generalize n / 128 ^ d = q
      rw [u8_and127 _ (by omega) (by omega)]; omega
    have e6 : bits .or .u8 ((n / 128 ^ d % 128 : Nat) : Int) 128 = ((n / 128 ^ d % 128 : Nat) : Int) + 128 := by
      generalize n / 128 ^ d = q
      rw [u8_or_128 _ (by omega) (by omega)]
    have hlt : (j : Int) < ((m + 1 : Nat) : Int) := by omega
    simp only [num_put.l0]
    rw [if_pos hlt, e1, e2, e3, if_pos (by omega), shr128 n d hd9, e4, e5, e6, if_pos hc, if_pos hc]
    by_cases hd : d = 0
    · subst hd
      obtain rfl : j = m := by omega
      rw [if_neg (Int.lt_irrefl _), ih k (j + 1) _ (by omega) (by omega) (hi0 _), List.append_assoc, h3, h2]
      simp
    · have hjm : j < m := by omega
      rw [if_pos (by omega), ih k (j + 1) _ (by omega) (by omega) (hi0 _), List.append_assoc, h1 j hjm, show m - j = d by omega]
      rfl
theorem put_f {k n : Nat} (l : List Int) (hn : n < 18446744073709551616) (hk : 12 ≤ k) (hl : l.length + 10 ≤ capN) : num_put.f k l n = some (l ++ enc n) := by
  have h10 := hi_ten hn
  unfold num_put.f
  rw [size_f hn hk, enc_length]
  simp only [Option.bind_some]
  have h := put_l0 n (hi (n / 128)).length (enc n) h10 (fun j hj => enc_drop hj) (enc_last n) (List.drop_of_length_le (by rw [enc_length]; exact Nat.le_refl _)) _ k 0 l (Nat.zero_add _) (by omega) (by omega)
  exact h
theorem fresh_f (l : List Int) (hl : l.length + 10 ≤ capN) : num_fresh.f l = some l := by
  unfold num_fresh.f
  simp only [Option.bind_some]
  rw [if_pos (cap_lt (by simp; omega))]
  rfl
theorem Put_f {k n : Nat} (l : List Int) (hn : n < 18446744073709551616) (hk : 12 ≤ k) (hl : l.length + 10 ≤ capN) : num_Put.f k l n = some (l ++ enc n) := by
  unfold num_Put.f
  rw [fresh_f l hl]
  simp only [Option.bind_some]
  rw [put_f l hn hk hl]
  rfl
theorem Bytes_l0 (n : Nat) : ∀ (k : Nat) (acc : List Int), (hi n).length < k → n < 18446744073709551616 → acc.length + (hi n).length ≤ capN → runnelref01_Bytes.l0 k n acc = some (hi n ++ acc) := by
  induction n using Nat.strongRecOn with
  | ind n ih =>
    intro k acc hk hn ha
    obtain ⟨k, rfl⟩ : ∃ m, k = m + 1 := ⟨k - 1, by omega⟩
    simp only [runnelref01_Bytes.l0]
    rcases Nat.eq_zero_or_pos n with h | h
    · subst h
      rw [if_neg (by omega), hi_zero]
      rfl
    · rw [if_pos (by omega)]
      simp only [Option.bind_some]
      rw [hi_pos h] at hk ha
      simp only [List.length_append, List.length_singleton] at hk ha
      rw [if_pos (cap_lt (by simp; omega))]
      have e1 : IntKind.u64.wrap (Int.tmod (n : Int) 128 + 128) = ((n % 128 : Nat) : Int) + 128 := by
        rw [Int.tmod_eq_emod_of_nonneg (by omega), u64_in _ (by omega) (by omega)]; omega
      have e2 : IntKind.u64.wrap (Int.tdiv (n : Int) 128) = ((n / 128 : Nat) : Int) := by
        rw [Int.tdiv_eq_ediv_of_nonneg (by omega), u64_in _ (by omega) (by omega)]; omega
      rw [e1, e2, ih (n / 128) (by omega) k _ (by omega) (by omega) (by simp; omega)]
      rw [hi_pos h, show (((n % 128 : Nat) : Int) + 128) % 256 = ((n % 128 : Nat) : Int) + 128 by omega]
      simp
theorem Bytes_f {k n : Nat} (hn : n < 18446744073709551616) (hk : 12 ≤ k) : runnelref01_Bytes.f k n = some (enc n) := by
  have h := hi_ten hn
  have hc := cap_ge
  unfold runnelref01_Bytes.f
  have e1 : Int.tmod (n : Int) 128 % 256 = ((n % 128 : Nat) : Int) := by rw [Int.tmod_eq_emod_of_nonneg (by omega)]; omega
  have e2 : IntKind.u64.wrap (Int.tdiv (n : Int) 128) = ((n / 128 : Nat) : Int) := by rw [Int.tdiv_eq_ediv_of_nonneg (by omega), u64_in _ (by omega) (by omega)]; omega
  rw [e1, e2, Bytes_l0 _ k _ (by omega) (by omega) (by simp; omega), enc]
theorem Get_l0 (l : List Int) (hl : ∀ x ∈ l, 0 ≤ x ∧ x < 256) (at0 : Int) (d : Nat) : ∀ (k i : Nat) (n : Int), 2 * d < k → (l.length : Int) < i + d → i ≤ l.length → l.length + 10 ≤ capN → 0 ≤ n → n < 18446744073709551616 →
    num_Get.l0 k l at0 n i = some (Get l i n at0 d) := by
  induction d with
  | zero => intro k i n hk hd hi _ _ _; omega
  | succ d ih =>
    intro k i n hk hd hi hc hn0 hn1
    obtain ⟨k, rfl⟩ : ∃ m, k = m + 1 := ⟨k - 1, by omega⟩
    obtain ⟨k, rfl⟩ : ∃ m, k = m + 1 := ⟨k - 1, by omega⟩
    simp only [num_Get.l0, num_Get.j2, Get]
    by_cases h : (i : Int) < (l.length : Int)
    · rw [if_pos h, if_pos h]
      have h0 : (0 : Int) ≤ (i : Int) := by omega
      have hb := hl (l.getD i 0) (by rw [List.getD_eq_getElem?_getD, List.getElem?_eq_getElem (by omega)]; exact List.getElem_mem _)
      have hcap : (i : Int) + 1 ≤ 9223372036854775807 := by have := cap_lt (Nat.le_trans (Nat.le_add_right _ _) hc); omega
      have e0 : rd l (i : Int) = l.getD i 0 := rfl
      have e1 : (l.getD (i : Int).toNat 0) = l.getD i 0 := rfl
      have e2 : wrap64 ((i : Int) + 1) = ((i + 1 : Nat) : Int) := by rw [wrap_in _ (by omega) (by omega)]; omega
      have e3 : ((i : Int) + 1) = ((i + 1 : Nat) : Int) := by omega
      rw [e0, e1, if_pos h0, if_pos h0, if_pos h]
      generalize l.getD i 0 = b at hb ⊢
      have e4 : bits .and .u8 b 127 = b % 128 := u8_and127 b hb.1 hb.2
      by_cases g : 144115188075855872 ≤ n
      · have g1 : decide (n / 144115188075855872 > 0) = true := decide_eq_true (by omega)
        rw [g1, if_pos (Or.inr g)]
        simp only [if_true]
        split
        · split <;> rfl
        · rfl
      · have g1 : decide (n / 144115188075855872 > 0) = false := decide_eq_false (by omega)
        rw [g1]
        simp only [if_true, Bool.false_eq_true, if_false]
        have e5 : bits .or .u64 (IntKind.u64.wrap (n * 128)) (IntKind.u64.wrap (b % 128)) = n * 128 + b % 128 := u64_or_low n (b % 128) hn0 (by omega) (by omega) (by omega)
        rw [e4, e5, e2, e3]
        have rest : (if b < 128 then some (n * 128 + b % 128, ((i + 1 : Nat) : Int), (0 : Int)) else num_Get.l0 k l at0 (n * 128 + b % 128) ((i + 1 : Nat) : Int)) =
            some (if b < 128 then (n * 128 + b % 128, ((i + 1 : Nat) : Int), (0 : Int)) else Get l ((i + 1 : Nat) : Int) (n * 128 + b % 128) at0 d) := by
          by_cases hb1 : b < 128
          · rw [if_pos hb1, if_pos hb1]
          · rw [if_neg hb1, if_neg hb1, ih k (i + 1) _ (by omega) (by omega) (by omega) hc (by omega) (by omega)]
        by_cases ha : (i : Int) = at0
        · rw [if_pos ha]
          by_cases hb2 : b = 128
          · rw [if_pos hb2, if_pos (Or.inl ⟨ha, hb2⟩)]
          · rw [if_neg hb2, if_neg (show ¬ (((i : Int) = at0 ∧ b = 128) ∨ 144115188075855872 ≤ n) from fun o => o.elim (fun o => hb2 o.2) g)]
            exact rest
        · rw [if_neg ha, if_neg (show ¬ (((i : Int) = at0 ∧ b = 128) ∨ 144115188075855872 ≤ n) from fun o => o.elim (fun o => ha o.1) g)]
          exact rest
    · rw [if_neg h, if_neg h]
theorem get_f {k : Nat} (l : List Int) (hl : ∀ x ∈ l, 0 ≤ x ∧ x < 256) (at0 : Int) (hk : 2 * l.length + 8 ≤ k) (hc : l.length + 10 ≤ capN) : num_Get.f k l at0 = some (NumPure.get l at0) := by
  obtain ⟨k, rfl⟩ : ∃ m, k = m + 1 := ⟨k - 1, by omega⟩
  unfold num_Get.f NumPure.get
  simp only [num_Get.j0]
  by_cases h0 : at0 < 0
  · rw [if_pos h0, if_pos (Or.inl h0)]
    rfl
  · rw [if_neg h0]
    by_cases h1 : (l.length : Int) < at0
    · rw [decide_eq_true (show at0 > (l.length : Int) from h1), if_pos (Or.inr h1)]
      rfl
    · rw [decide_eq_false (show ¬ at0 > (l.length : Int) from h1), if_neg (show ¬ (false = true) by decide), if_neg (show ¬ (at0 < 0 ∨ (l.length : Int) < at0) from fun o => o.elim h0 h1)]
      obtain ⟨a, rfl⟩ := Int.eq_ofNat_of_zero_le (by omega : 0 ≤ at0)
      exact Get_l0 l hl _ _ k a 0 (by omega) (by omega) (by omega) hc (by omega) (by omega)
theorem get_range (l : List Int) (hl : ∀ x ∈ l, 0 ≤ x ∧ x < 256) (at0 : Int) (d : Nat) : ∀ (i n : Int), 0 ≤ n → 0 ≤ i → 0 ≤ (Get l i n at0 d).1 ∧ (Get l i n at0 d).1 < 18446744073709551616 := by
  induction d with
  | zero => intro i n _ _; exact ⟨Int.le_refl _, (by decide : (0 : Int) < 18446744073709551616)⟩
  | succ d ih =>
    intro i n hn hi
    rw [Get]
    split
    · rename_i h
      have hb : 0 ≤ l.getD i.toNat 0 ∧ l.getD i.toNat 0 < 256 := hl _ (by rw [List.getD_eq_getElem?_getD, List.getElem?_eq_getElem (by omega)]; exact List.getElem_mem _)
      generalize l.getD i.toNat 0 = b at hb ⊢
      split
      · exact ⟨Int.le_refl _, (by decide : (0 : Int) < 18446744073709551616)⟩
      · rename_i h2
        split
        · show 0 ≤ n * 128 + b % 128 ∧ n * 128 + b % 128 < 18446744073709551616
          have h3 : ¬ 144115188075855872 ≤ n := fun h3 => h2 (Or.inr h3)
          omega
        · exact ih _ _ (by omega) (by omega)
    · exact ⟨Int.le_refl _, (by decide : (0 : Int) < 18446744073709551616)⟩
theorem got_range (l : List Int) (hl : ∀ x ∈ l, 0 ≤ x ∧ x < 256) (at0 : Int) : 0 ≤ (NumPure.get l at0).1 ∧ (NumPure.get l at0).1 < 18446744073709551616 := by
  unfold NumPure.get
  split
  · exact ⟨Int.le_refl _, (by decide : (0 : Int) < 18446744073709551616)⟩
  · rename_i h
    exact get_range l hl at0 _ _ _ (Int.le_refl _) (by omega)
/-- P1.2: the way back. -/
def zag (x : Int) : Int := if x % 2 = 1 then -(x / 2) - 1 else x / 2
theorem xor_zero (a : Int) (h : -9223372036854775808 ≤ a) (h' : a ≤ 9223372036854775807) : bits .xor .i64 a 0 = a := by
  have e : bits .xor .i64 a 0 = IntKind.i64.wrap ((BitVec.ofInt 64 a ^^^ BitVec.ofInt 64 0).toNat : Int) := by with_unfolding_all rfl
  rw [e, show BitVec.ofInt 64 0 = 0#64 from rfl, BitVec.xor_zero, BitVec.toNat_ofInt, IntKind.wrap_i64]
  omega
theorem xor_ones (a : Int) (h : -9223372036854775808 ≤ a) (h' : a ≤ 9223372036854775807) : bits .xor .i64 a (-1) = -a - 1 := by
  have e : bits .xor .i64 a (-1) = IntKind.i64.wrap ((BitVec.ofInt 64 a ^^^ BitVec.ofInt 64 (-1)).toNat : Int) := by with_unfolding_all rfl
  rw [e, show BitVec.ofInt 64 (-1) = BitVec.allOnes 64 by decide, BitVec.xor_allOnes, BitVec.toNat_not, BitVec.toNat_ofInt, IntKind.wrap_i64]
  omega
theorem zag_f (x : Int) (h0 : 0 ≤ x) (h1 : x < 18446744073709551616) : num_zag.f x = some (zag x) := by
  unfold num_zag.f zag
  have e1 : bits .and .u64 x 1 = x % 2 := by
    rw [u64_and x 1 h0 h1 (by decide) (by decide), show ((1 : Int).toNat) = 1 from rfl, nat_mask1]; omega
  rw [e1, wrap_in (x / 2) (by omega) (by omega), wrap_in (x % 2) (by omega) (by omega), wrap_in (-(x % 2)) (by omega) (by omega)]
  by_cases h : x % 2 = 1
  · rw [if_pos h, h, xor_ones _ (by omega) (by omega)]
  · rw [if_neg h, show x % 2 = 0 by omega]
    exact congrArg some (xor_zero _ (by omega) (by omega))
theorem getInt_f {k : Nat} (l : List Int) (hl : ∀ x ∈ l, 0 ≤ x ∧ x < 256) (at0 : Int) (hk : 2 * l.length + 8 ≤ k) (hc : l.length + 10 ≤ capN) : num_GetInt.f k l at0 = some (zag (NumPure.get l at0).1, (NumPure.get l at0).2.1, (NumPure.get l at0).2.2) := by
  have h := got_range l hl at0
  unfold num_GetInt.f
  rw [get_f l hl at0 hk hc]
  simp only [Option.bind_some]
  rw [zag_f _ h.1 h.2]
  rfl
theorem cut_mid (p f r : List Int) (j a : Int) (hj : j = ((p.length + f.length : Nat) : Int)) (ha : a = (p.length : Int)) : ((p ++ (f ++ r)).take j.toNat).drop a.toNat = f := by
  subst hj; subst ha
  rw [Int.toNat_natCast, Int.toNat_natCast, ← List.append_assoc, show p.length + f.length = (p ++ f).length by simp, List.take_left, List.drop_left]
theorem getD_mid (p f r : List Int) (b : Int) : (p ++ (f ++ b :: r)).getD ((p.length + f.length : Nat) : Int).toNat 0 = b := by
  rw [Int.toNat_natCast, List.getD_eq_getElem?_getD, List.getElem?_append_right (by omega), List.getElem?_append_right (by omega)]
  simp
/-- What a number's reading tells: a fault, or the number whose bytes these are. -/
theorem Get_ok (p r : List Int) : ∀ (f : List Int) (d : Nat), r.length < d → (∀ x ∈ f, 128 ≤ x ∧ x < 256) → (∀ x t, f = x :: t → x ≠ 128) → (∀ x ∈ r, 0 ≤ x ∧ x < 256) →
    Get (p ++ (f ++ r)) ((p.length + f.length : Nat) : Int) (valF 0 f) (p.length : Int) d = (0, 0, 6) ∨
    ∃ (m : Nat) (t : List Int) (r' : List Int), m < 18446744073709551616 ∧ f ++ r = enc m ++ r' ∧ Get (p ++ (f ++ r)) ((p.length + f.length : Nat) : Int) (valF 0 f) (p.length : Int) d = ((m : Int), ((p.length + (enc m).length : Nat) : Int), 0) := by
  induction r with
  | nil =>
    intro f d hd hf hh _
    obtain ⟨d, rfl⟩ : ∃ m, d = m + 1 := ⟨d - 1, by omega⟩
    left
    rw [Get, if_neg (by simp)]
  | cons b r ih =>
    intro f d hd hf hh hr
    obtain ⟨d, rfl⟩ : ∃ m, d = m + 1 := ⟨d - 1, by omega⟩
    have hb := hr b (by simp)
    rw [Get, if_pos (by simp; omega), getD_mid]
    have hv0 := valF_nonneg 0 (Int.le_refl 0) f
    by_cases hbad : (((p.length + f.length : Nat) : Int) = (p.length : Int) ∧ b = 128) ∨ 144115188075855872 ≤ valF 0 f
    · rw [if_pos hbad]; exact .inl rfl
    · rw [if_neg hbad]
      have h57 : valF 0 f < 144115188075855872 := by
        rcases Int.lt_or_le (valF 0 f) 144115188075855872 with h | h
        · exact h
        · exact absurd (Or.inr h) hbad
      by_cases h : b < 128
      · rw [if_pos h]
        right
        have hce := canon_enc f hf hh b hb.1 h
        rw [valF_snoc] at hce
        refine ⟨(valF 0 f * 128 + b % 128).toNat, [], r, by omega, by rw [hce]; simp, ?_⟩
        rw [hce]
        simp only [List.length_append, List.length_singleton, Prod.mk.injEq, and_true]
        exact ⟨by omega, by omega⟩
      · rw [if_neg h, show valF 0 f * 128 + b % 128 = valF 0 (f ++ [b]) from (valF_snoc _ _ _).symm]
        have h1 := ih (f ++ [b]) d (by simp at hd; omega) (fun x hx => by
          rcases List.mem_append.1 hx with hx | hx
          · exact hf x hx
          · rw [List.mem_singleton] at hx; omega) (fun x t e => by
          rcases f with _ | ⟨y, s⟩
          · simp only [List.nil_append, List.cons.injEq] at e
            rw [← e.1]
            intro hb2
            exact hbad (.inl ⟨by simp, hb2⟩)
          · simp only [List.cons_append, List.cons.injEq] at e
            rw [← e.1]
            exact hh y s rfl) (fun x hx => hr x (by simp [hx]))
        rw [show (p ++ ((f ++ [b]) ++ r)) = p ++ (f ++ b :: r) by simp, show ((p.length + (f ++ [b]).length : Nat) : Int) = ((p.length + f.length : Nat) : Int) + 1 by simp; omega] at h1
        rcases h1 with h1 | ⟨m, t, r', h2, h3, h4⟩
        · exact .inl h1
        · exact .inr ⟨m, t, r', h2, by rw [← h3]; simp, h4⟩
/-- P1.4: whatever is got: a fault tells noughts; else these bytes are the number's own. -/
theorem get_ok (l : List Int) (hl : ∀ x ∈ l, 0 ≤ x ∧ x < 256) (at0 : Int) : (NumPure.get l at0 = (0, 0, 9) ∧ (at0 < 0 ∨ (l.length : Int) < at0)) ∨ (NumPure.get l at0 = (0, 0, 6) ∧ 0 ≤ at0 ∧ at0 ≤ l.length) ∨
    ∃ (m : Nat) (p r : List Int), m < 18446744073709551616 ∧ l = p ++ (enc m ++ r) ∧ at0 = p.length ∧ NumPure.get l at0 = ((m : Int), ((p.length + (enc m).length : Nat) : Int), 0) := by
  unfold NumPure.get
  by_cases h : at0 < 0 ∨ (l.length : Int) < at0
  · rw [if_pos h]; exact .inl ⟨rfl, h⟩
  · rw [if_neg h]
    have h0 : 0 ≤ at0 := by omega
    obtain ⟨a, rfl⟩ := Int.eq_ofNat_of_zero_le h0
    have hp : (l.take a).length = a := by rw [List.length_take]; omega
    have e : l.take a ++ ([] ++ l.drop a) = l := by simp
    have h2 := Get_ok (l.take a) (l.drop a) [] (l.length + 1 - a) (by rw [List.length_drop]; omega) (by simp) (by simp) (fun x hx => hl x (List.mem_of_mem_drop hx))
    rw [e, hp] at h2
    rcases h2 with h2 | ⟨m, t, r', h3, h4, h5⟩
    · exact .inr (.inl ⟨h2, h0, by omega⟩)
    · refine .inr (.inr ⟨m, l.take a, r', h3, ?_, by rw [hp], ?_⟩)
      · rw [← h4, e]
      · rw [hp]; exact h5
theorem Get_flags (p r : List Int) (b : Int) (hb0 : 0 ≤ b) (hb : b < 128) (g : List Int) : ∀ (f : List Int) (d : Nat), g.length < d → (∀ x ∈ f ++ g, 128 ≤ x ∧ x < 256) → (∀ x t, f ++ g = x :: t → x ≠ 128) → valF 0 (f ++ g) < 144115188075855872 →
    Get (p ++ (f ++ (g ++ b :: r))) ((p.length + f.length : Nat) : Int) (valF 0 f) (p.length : Int) d = (valF 0 (f ++ g ++ [b]), ((p.length + f.length + g.length + 1 : Nat) : Int), 0) := by
  induction g with
  | nil =>
    intro f d hd hf hh hv
    obtain ⟨d, rfl⟩ : ∃ m, d = m + 1 := ⟨d - 1, by omega⟩
    rw [List.nil_append, Get, if_pos (by simp; omega), getD_mid, if_neg, if_pos hb, valF_snoc, List.append_nil]
    · simp
    · rw [List.append_nil] at hv
      rintro (⟨_, h⟩ | h) <;> omega
  | cons x g ih =>
    intro f d hd hf hh hv
    obtain ⟨d, rfl⟩ : ∃ m, d = m + 1 := ⟨d - 1, by omega⟩
    have hx := hf x (by simp)
    have hle : valF 0 f ≤ valF 0 (f ++ x :: g) := by rw [valF_append]; exact valF_ge _ (valF_nonneg 0 (Int.le_refl 0) f) _
    rw [List.cons_append, Get, if_pos (by simp; omega), getD_mid, if_neg, if_neg (by omega), show valF 0 f * 128 + x % 128 = valF 0 (f ++ [x]) from (valF_snoc _ _ _).symm]
    · have h1 := ih (f ++ [x]) d (by simp at hd; omega) (by simpa using hf) (by simpa using hh) (by simpa using hv)
      rw [show (p ++ ((f ++ [x]) ++ (g ++ b :: r))) = p ++ (f ++ x :: (g ++ b :: r)) by simp, show ((p.length + (f ++ [x]).length : Nat) : Int) = ((p.length + f.length : Nat) : Int) + 1 by simp; omega] at h1
      rw [h1, show f ++ [x] ++ g ++ [b] = f ++ x :: g ++ [b] by simp, show ((p.length + (f ++ [x]).length + g.length + 1 : Nat) : Int) = ((p.length + f.length + (x :: g).length + 1 : Nat) : Int) by simp; omega]
    · rintro (⟨h1, h2⟩ | h)
      · have hf0 : f = [] := List.eq_nil_of_length_eq_zero (by omega)
        subst hf0
        exact hh x g rfl h2
      · omega
/-- P1.4: what is put is got, whatever stands ahead and behind. -/
theorem get_enc (p r : List Int) (n : Nat) (hn : n < 18446744073709551616) (at0 : Int) (ha : at0 = (p.length : Int)) : NumPure.get (p ++ (enc n ++ r)) at0 = ((n : Int), ((p.length + (enc n).length : Nat) : Int), 0) := by
  subst ha
  unfold NumPure.get
  rw [if_neg (by simp; omega)]
  have h1 := Get_flags p r ((n % 128 : Nat) : Int) (by omega) (by omega) (hi (n / 128)) [] ((p ++ (enc n ++ r)).length + 1 - (p.length : Int).toNat) (by rw [List.length_append, List.length_append, enc_length]; omega) (by simpa using hi_flag _) (by simpa using hi_head _) (by rw [List.nil_append, val_hi]; omega)
  have e : enc n = hi (n / 128) ++ [((n % 128 : Nat) : Int)] := rfl
  have e2 : valF 0 ([] ++ hi (n / 128) ++ [((n % 128 : Nat) : Int)]) = (n : Int) := by rw [List.nil_append, ← e, val_enc]
  rw [e2, show p ++ ([] ++ (hi (n / 128) ++ ((n % 128 : Nat) : Int) :: r)) = p ++ (enc n ++ r) by rw [e]; simp] at h1
  rw [enc_length]
  exact h1
/-- P1.2: a number with a sign as one without. -/
def zig (a : Int) : Nat := if 0 ≤ a then (2 * a).toNat else (-2 * a - 1).toNat
theorem zig_lt (a : Int) (h : -9223372036854775808 ≤ a) (h' : a ≤ 9223372036854775807) : zig a < 18446744073709551616 := by unfold zig; split <;> omega
theorem zag_zig (a : Int) : (if ((zig a : Nat) : Int) % 2 = 1 then -(((zig a : Nat) : Int) / 2) - 1 else ((zig a : Nat) : Int) / 2) = a := by unfold zig; split <;> split <;> omega
theorem uxor_zero (a : Int) (h : 0 ≤ a) (h' : a < 18446744073709551616) : bits .xor .u64 a 0 = a := by
  rw [u64_xor a 0 h h' (by decide) (by decide), show ((0 : Int).toNat) = 0 from rfl, Nat.xor_zero]; omega
theorem uxor_ones (a : Int) (h : 0 ≤ a) (h' : a < 18446744073709551616) : bits .xor .u64 a 18446744073709551615 = 18446744073709551615 - a := by
  have e : bits .xor .u64 a 18446744073709551615 = IntKind.u64.wrap ((BitVec.ofInt 64 a ^^^ BitVec.ofInt 64 18446744073709551615).toNat : Int) := by with_unfolding_all rfl
  rw [e, show BitVec.ofInt 64 18446744073709551615 = BitVec.allOnes 64 by decide, BitVec.xor_allOnes, BitVec.toNat_not, BitVec.toNat_ofInt, u64_mod]
  omega
theorem zig_f (a : Int) (h : -9223372036854775808 ≤ a) (h' : a ≤ 9223372036854775807) : num_zig.f a = some ((zig a : Nat) : Int) := by
  unfold num_zig.f zig
  by_cases h0 : 0 ≤ a
  · rw [if_pos h0, show a / 9223372036854775808 = 0 by omega, u64_in a h0 (by omega), u64_in (a * 2) (by omega) (by omega), u64_in 0 (by decide) (by decide), uxor_zero _ (by omega) (by omega)]
    congr 1
    omega
  · rw [if_neg h0, show a / 9223372036854775808 = -1 by omega]
    rw [show IntKind.u64.wrap a = a + 18446744073709551616 by rw [u64_mod]; omega, show IntKind.u64.wrap ((a + 18446744073709551616) * 2) = 2 * a + 18446744073709551616 by rw [u64_mod]; omega, show IntKind.u64.wrap (-1) = 18446744073709551615 by rw [u64_mod]; omega]
    rw [uxor_ones _ (by omega) (by omega)]
    congr 1
    omega
theorem PutInt_f {k : Nat} (l : List Int) (a : Int) (h : -9223372036854775808 ≤ a) (h' : a ≤ 9223372036854775807) (hk : 12 ≤ k) (hl : l.length + 10 ≤ capN) : num_PutInt.f k l a = some (l ++ enc (zig a)) := by
  unfold num_PutInt.f
  rw [fresh_f l hl, zig_f a h h']
  simp only [Option.bind_some]
  rw [put_f l (zig_lt a h h') hk hl]
  rfl
theorem Signed_f (a : Int) (h : -9223372036854775808 ≤ a) (h' : a ≤ 9223372036854775807) : runnelref01_Signed.f a = some ((zig a : Nat) : Int) := by
  unfold runnelref01_Signed.f zig
  by_cases h0 : 0 ≤ a
  · rw [if_pos (show a ≥ 0 from h0), if_pos h0, u64_in a h0 (by omega), u64_in (2 * a) (by omega) (by omega)]
    congr 1
    omega
  · rw [if_neg (show ¬ a ≥ 0 from h0), if_neg h0, wrap_in (a + 1) (by omega) (by omega), wrap_in (-(a + 1)) (by omega) (by omega), u64_in (-(a + 1)) (by omega) (by omega), u64_in (2 * -(a + 1)) (by omega) (by omega), u64_in _ (by omega) (by omega)]
    congr 1
    omega
theorem rdt_at (l : List S36) (i : Nat) (h : i < l.length) : rd_T36 l (i : Int) = l[i] := by unfold rd_T36; rw [Int.toNat_natCast, List.getD_eq_getElem?_getD, List.getElem?_eq_getElem h]; rfl
/-- A time whose numbers are numbers. -/
def tok (t : S36) : Prop := (-9223372036854775808 ≤ t.f0 ∧ t.f0 ≤ 9223372036854775807) ∧ -9223372036854775808 ≤ t.f1 ∧ t.f1 ≤ 9223372036854775807
/-- A number's bytes, a time's, times', a frontier's. -/
def one (a : Int) : List Int := enc (zig a)
def titem (t : S36) : List Int := one t.f0 ++ one t.f1
def titems : List S36 → List Int
  | [] => []
  | t :: l => titem t ++ titems l
def tfront (l : List S36) : List Int := enc l.length ++ titems l
theorem one_length (a : Int) (h : -9223372036854775808 ≤ a) (h' : a ≤ 9223372036854775807) : (one a).length ≤ 10 := enc_ten (zig_lt a h h')
theorem titem_length (t : S36) (h : tok t) : (titem t).length ≤ 20 := by
  have h1 := one_length t.f0 h.1.1 h.1.2
  have h2 := one_length t.f1 h.2.1 h.2.2
  rw [titem, List.length_append]; omega
theorem titems_length (l : List S36) (h : ∀ t ∈ l, tok t) : (titems l).length ≤ 20 * l.length := by
  induction l with
  | nil => simp [titems]
  | cons t l ih =>
    have h1 := titem_length t (h t (by simp))
    have h2 := ih (fun y hy => h y (by simp [hy]))
    rw [titems, List.length_append, List.length_cons]; omega
theorem tfront_length (l : List S36) (hn : l.length ≤ 100000) (h : ∀ t ∈ l, tok t) : (tfront l).length ≤ 10 + 20 * l.length := by
  have h1 := titems_length l h
  have h2 := enc_ten (n := l.length) (by omega)
  rw [tfront, List.length_append]; omega
theorem one_byte (a : Int) : ∀ x ∈ one a, 0 ≤ x ∧ x < 256 := enc_byte _
theorem titems_byte (l : List S36) : ∀ x ∈ titems l, 0 ≤ x ∧ x < 256 := by
  induction l with
  | nil => intro x hx; cases hx
  | cons t l ih =>
    intro x hx
    rw [titems, titem] at hx
    rcases List.mem_append.1 hx with hx | hx
    · rcases List.mem_append.1 hx with hx | hx
      · exact one_byte _ x hx
      · exact one_byte _ x hx
    · exact ih x hx
theorem tfront_byte (l : List S36) : ∀ x ∈ tfront l, 0 ≤ x ∧ x < 256 := by
  intro x hx
  rcases List.mem_append.1 hx with hx | hx
  · exact enc_byte _ x hx
  · exact titems_byte l x hx
theorem putTime_f {k : Nat} (b : List Int) (t : S36) (h : tok t) (hk : 12 ≤ k) (hb : b.length + 20 ≤ capN) : wire_putTime.f k b t.f0 t.f1 = some (b ++ titem t) := by
  have h1 := one_length t.f0 h.1.1 h.1.2
  unfold wire_putTime.f
  rw [PutInt_f b t.f0 h.1.1 h.1.2 hk (by omega)]
  simp only [Option.bind_some]
  rw [show b ++ enc (zig t.f0) = b ++ one t.f0 from rfl, PutInt_f (b ++ one t.f0) t.f1 h.2.1 h.2.2 hk (by rw [List.length_append]; omega), titem, ← List.append_assoc]
  rfl
theorem PutFront_l0 (l : List S36) (hm : l.length ≤ 100000) (hg : ∀ t ∈ l, tok t) (d : Nat) : ∀ (k i : Nat) (acc : List Int), i + d = l.length → d + 12 < k → acc.length + 20 * d + 20 ≤ capN →
    wire_PutFront.l0 k acc l (l.length : Int) (i : Int) = some (acc ++ titems (l.drop i)) := by
  induction d with
  | zero =>
    intro k i acc hi hk _
    obtain ⟨k, rfl⟩ : ∃ n, k = n + 1 := ⟨k - 1, by omega⟩
    simp only [wire_PutFront.l0]
    rw [if_neg (by omega), List.drop_of_length_le (by omega), titems, List.append_nil]
  | succ d ih =>
    intro k i acc hi hk hc
    obtain ⟨k, rfl⟩ : ∃ n, k = n + 1 := ⟨k - 1, by omega⟩
    have hi' : i < l.length := by omega
    have hx := hg l[i] (List.getElem_mem _)
    have hil := titem_length l[i] hx
    have hwi : wrap64 ((i : Int) + 1) = ((i + 1 : Nat) : Int) := by rw [wrap_in _ (by omega) (by omega)]; omega
    simp only [wire_PutFront.l0]
    rw [if_pos (by omega), if_pos (by omega), if_pos (by omega), rdt_at l i hi', hwi, List.drop_eq_getElem_cons hi', titems, putTime_f acc _ hx (by omega) (by omega)]
    simp only [Option.bind_some]
    rw [ih k (i + 1) _ (by omega) (by omega) (by rw [List.length_append]; omega), List.append_assoc]
theorem PutFront_f {k : Nat} (b : List Int) (l : List S36) (hm : l.length ≤ 100000) (hg : ∀ t ∈ l, tok t) (hk : l.length + 20 < k) (hb : b.length ≤ 10000000) : wire_PutFront.f k b l = some (b ++ tfront l) := by
  have hcg := cap_ge
  have h10 := enc_ten (n := l.length) (by omega)
  unfold wire_PutFront.f
  rw [u64_in _ (by omega) (by omega), Put_f b (by omega) (by omega) (by omega)]
  simp only [Option.bind_some]
  have h1 := PutFront_l0 l hm hg l.length k 0 (b ++ enc l.length) (by omega) (by omega) (by rw [List.length_append]; generalize (enc l.length).length = E at h10 ⊢; omega)
  rw [show ((0 : Nat) : Int) = 0 from rfl] at h1
  rw [h1, List.drop_zero, tfront, List.append_assoc]
theorem Rone_f {k : Nat} (a : Int) (h : -9223372036854775808 ≤ a) (h' : a ≤ 9223372036854775807) (hk : 12 ≤ k) : runnelref26_one.f k a = some (one a) := by
  unfold runnelref26_one.f
  rw [Signed_f a h h']
  simp only [Option.bind_some]
  rw [Bytes_f (zig_lt a h h') hk]
  rfl
theorem Rtime_f {k : Nat} (t : S36) (h : tok t) (hk : 12 ≤ k) : runnelref26_time.f k t.f0 t.f1 = some (titem t) := by
  have hcg := cap_ge
  have h1 := one_length t.f0 h.1.1 h.1.2
  have h2 := one_length t.f1 h.2.1 h.2.2
  unfold runnelref26_time.f
  rw [Rone_f _ h.1.1 h.1.2 hk, Rone_f _ h.2.1 h.2.2 hk]
  simp only [Option.bind_some]
  rw [if_pos (cap_lt (by omega)), titem]
theorem RFront_l0 (l : List S36) (hm : l.length ≤ 100000) (hg : ∀ t ∈ l, tok t) (d : Nat) : ∀ (k i : Nat) (acc : List Int), i + d = l.length → d + 12 < k → acc.length + 20 * d + 20 ≤ capN →
    runnelref26_Front.l0 k l acc (i : Int) = some (acc ++ titems (l.drop i)) := by
  induction d with
  | zero =>
    intro k i acc hi hk _
    obtain ⟨k, rfl⟩ : ∃ n, k = n + 1 := ⟨k - 1, by omega⟩
    simp only [runnelref26_Front.l0]
    rw [if_neg (by omega), List.drop_of_length_le (by omega), titems, List.append_nil]
  | succ d ih =>
    intro k i acc hi hk hc
    obtain ⟨k, rfl⟩ : ∃ n, k = n + 1 := ⟨k - 1, by omega⟩
    have hi' : i < l.length := by omega
    have hx := hg l[i] (List.getElem_mem _)
    have hil := titem_length l[i] hx
    have hwi : wrap64 ((i : Int) + 1) = ((i + 1 : Nat) : Int) := by rw [wrap_in _ (by omega) (by omega)]; omega
    simp only [runnelref26_Front.l0]
    rw [if_pos (by omega), if_pos (by omega), rdt_at l i hi', hwi, List.drop_eq_getElem_cons hi', titems, Rtime_f _ hx (by omega)]
    simp only [Option.bind_some]
    rw [if_pos (cap_lt (by omega)), ih k (i + 1) _ (by omega) (by omega) (by rw [List.length_append]; omega), List.append_assoc]
theorem RFront_f {k : Nat} (l : List S36) (hm : l.length ≤ 100000) (hg : ∀ t ∈ l, tok t) (hk : l.length + 20 < k) : runnelref26_Front.f k l = some (tfront l) := by
  have hcg := cap_ge
  have h10 := enc_ten (n := l.length) (by omega)
  unfold runnelref26_Front.f
  rw [u64_in _ (by omega) (by omega), Bytes_f (by omega) (by omega)]
  simp only [Option.bind_some]
  have h1 := RFront_l0 l hm hg l.length k 0 (enc l.length) (by omega) (by omega) (by generalize (enc l.length).length = E at h10 ⊢; omega)
  rw [show ((0 : Nat) : Int) = 0 from rfl] at h1
  rw [h1, List.drop_zero, tfront]
theorem rint_told {k : Nat} (l p r : List Int) (a : Int) (hl : ∀ x ∈ l, 0 ≤ x ∧ x < 256) (he : l = p ++ (one a ++ r)) (h : -9223372036854775808 ≤ a) (h' : a ≤ 9223372036854775807) (hk : 2 * l.length + 8 ≤ k) (hc : l.length + 10 ≤ capN) (at0 : Int) (ha : at0 = (p.length : Int)) :
    wire_reader_int.f k l at0 0 = some (a, ((p.length + (one a).length : Nat) : Int), 0) := by
  have hg := get_enc p r (zig a) (zig_lt a h h') at0 ha
  rw [show p ++ (enc (zig a) ++ r) = l from he.symm] at hg
  unfold wire_reader_int.f
  rw [getInt_f l hl at0 hk hc, hg]
  simp only [Option.bind_some, wire_keep_int.f]
  rw [show zag ((zig a : Nat) : Int) = a from zag_zig a]
  rfl
theorem rtime_told {k : Nat} (l p r : List Int) (t : S36) (hl : ∀ x ∈ l, 0 ≤ x ∧ x < 256) (he : l = p ++ (titem t ++ r)) (h : tok t) (hk : 2 * l.length + 8 ≤ k) (hc : l.length + 10 ≤ capN) (at0 : Int) (ha : at0 = (p.length : Int)) :
    wire_reader_time.f k l at0 0 = some (t.f0, t.f1, ((p.length + (titem t).length : Nat) : Int), 0) := by
  unfold wire_reader_time.f
  rw [rint_told l p (one t.f1 ++ r) t.f0 hl (by rw [he, titem]; simp) h.1.1 h.1.2 hk hc at0 ha]
  simp only [Option.bind_some]
  rw [rint_told l (p ++ one t.f0) r t.f1 hl (by rw [he, titem]; simp) h.2.1 h.2.2 hk hc _ (by simp)]
  simp only [Option.bind_some, Option.some.injEq, Prod.mk.injEq, true_and, and_true]
  rw [titem, List.length_append, List.length_append]
  omega
theorem GetFront_told (l : List Int) (hl : ∀ x ∈ l, 0 ≤ x ∧ x < 256) (hc : l.length + 10 ≤ capN) (n : Nat) (hn : n ≤ 16) (f : List S36) : ∀ (k i : Nat) (acc : List S36) (p r : List Int) (at0 : Int), l = p ++ (titems f ++ r) → at0 = (p.length : Int) → (∀ t ∈ f, tok t) → i + f.length = n → acc.length = i → 2 * l.length + 10 + f.length < k →
    wire_GetFront.l0 k acc (n : Int) (i : Int) l at0 0 = some (acc ++ f, ((p.length + (titems f).length : Nat) : Int), 0) := by
  induction f with
  | nil =>
    intro k i acc p r at0 he ha hg hi hacc hk
    obtain ⟨k, rfl⟩ : ∃ n, k = n + 1 := ⟨k - 1, by omega⟩
    simp only [wire_GetFront.l0]
    rw [if_neg (by simp at hi; omega), if_pos trivial, ha]
    simp [titems]
  | cons t f ih =>
    intro k i acc p r at0 he ha hg hi hacc hk
    obtain ⟨k, rfl⟩ : ∃ n, k = n + 1 := ⟨k - 1, by omega⟩
    have ht := hg t (by simp)
    have he1 : l = p ++ (titem t ++ (titems f ++ r)) := by rw [he, titems]; simp
    have he2 : l = (p ++ titem t) ++ (titems f ++ r) := by rw [he1]; simp
    simp only [List.length_cons] at hi hk
    simp only [wire_GetFront.l0]
    rw [if_pos (by omega), rtime_told l p (titems f ++ r) t hl he1 ht (by omega) hc at0 ha]
    simp only [Option.bind_some]
    rw [if_pos (by omega), u64_in ((i : Int) + 1) (by omega) (by omega), show ((i : Int) + 1) = ((i + 1 : Nat) : Int) by omega]
    rw [ih k (i + 1) (acc ++ [t]) (p ++ titem t) r _ he2 (by rw [List.length_append]) (fun y hy => hg y (by simp [hy])) (by omega) (by simp [hacc]) (by omega)]
    rw [titems, List.length_append, List.length_append]
    simp only [List.append_assoc, List.singleton_append, Option.some.injEq, Prod.mk.injEq, true_and, and_true]
    omega
theorem GetFront_f {k : Nat} (b r : List Int) (f : List S36) (hb : ∀ x ∈ b, 0 ≤ x ∧ x < 256) (hr : ∀ x ∈ r, 0 ≤ x ∧ x < 256) (hg : ∀ t ∈ f, tok t) (hn : f.length ≤ 100000) (hc : (b ++ (tfront f ++ r)).length + 10 ≤ capN) (hk : 2 * (b ++ (tfront f ++ r)).length + 40 ≤ k) :
    wire_GetFront.f k (b ++ (tfront f ++ r)) (b.length : Int) = some (if 16 < f.length then ([], 0, 6) else (f, ((b.length + (tfront f).length : Nat) : Int), 0)) := by
  have hl : ∀ x ∈ b ++ (tfront f ++ r), 0 ≤ x ∧ x < 256 := fun x hx => (List.mem_append.1 hx).elim (hb x) (fun hx => (List.mem_append.1 hx).elim (tfront_byte f x) (hr x))
  have hge := get_enc b (titems f ++ r) f.length (by omega) (b.length : Int) rfl
  have he : b ++ (tfront f ++ r) = b ++ (enc f.length ++ (titems f ++ r)) := by rw [tfront]; simp
  have he2 : b ++ (tfront f ++ r) = (b ++ enc f.length) ++ (titems f ++ r) := by rw [tfront]; simp
  rw [← he] at hge
  unfold wire_GetFront.f
  rw [get_f _ hl _ (by omega) hc, hge]
  simp only [Option.bind_some, if_true]
  by_cases h16 : 16 < f.length
  · rw [if_pos (by omega), if_pos h16]
  · rw [if_neg (by omega), if_neg h16]
    have h1 := GetFront_told (b ++ (tfront f ++ r)) hl hc f.length (by omega) f k 0 [] (b ++ enc f.length) r (((b.length + (enc f.length).length : Nat) : Int)) he2 (by rw [List.length_append]) hg (by omega) rfl (by omega)
    rw [show ((0 : Nat) : Int) = 0 from rfl] at h1
    rw [h1, List.nil_append, List.length_append, tfront, List.length_append, Nat.add_assoc]
theorem TSame_l0 (l : List S36) (hm : l.length ≤ 100000) (d : Nat) : ∀ (k i : Nat), i + d = l.length → d < k → runnelref04_Same.l0 k l l (i : Int) = some true := by
  induction d with
  | zero =>
    intro k i hi hk
    obtain ⟨k, rfl⟩ : ∃ n, k = n + 1 := ⟨k - 1, by omega⟩
    simp only [runnelref04_Same.l0]
    rw [if_neg (by omega)]
  | succ d ih =>
    intro k i hi hk
    obtain ⟨k, rfl⟩ : ∃ n, k = n + 1 := ⟨k - 1, by omega⟩
    have hwi : wrap64 ((i : Int) + 1) = ((i + 1 : Nat) : Int) := by rw [wrap_in _ (by omega) (by omega)]; omega
    simp only [runnelref04_Same.l0]
    rw [if_pos (by omega), if_pos (by omega), if_pos (by omega), if_neg (by simp), hwi, ih k (i + 1) (by omega) (by omega)]
theorem TSame_refl {k : Nat} (l : List S36) (hm : l.length ≤ 100000) (hk : l.length < k) : runnelref04_Same.f k l l = some true := by
  unfold runnelref04_Same.f
  rw [if_pos rfl]
  exact TSame_l0 l hm l.length k 0 (by omega) hk
theorem live_60 : runnellaw26_live.f 60 = some true := by decide +kernel
theorem live_f {k : Nat} (hk : 60 ≤ k) : runnellaw26_live.f k = some true := at_rounds runnellaw26_live.mono hk live_60
end Go.Proofs.Ytpplklickfioiaa.BWireFronts
