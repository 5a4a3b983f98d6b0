/- WirePuts: what the printed functions answer, for each input, by plain mathematics. -/
import Derived.Test.YtpplklickfioiaaOWirePutsx
import Derived.Test.YtpplklickfioiaaRowPure
import Derived.Test.YtpplklickfioiaaNumPure
namespace Go.Proofs.Ytpplklickfioiaa.BWirePuts
open Go.RowKit Go.Proofs.Ytpplklickfioiaa.PWirePuts Go.Proofs.Ytpplklickfioiaa.RowPure Go.Proofs.Ytpplklickfioiaa.NumPure Go.Proofs.YtpplklickfioiaaW.PrintWords Go.Proofs.YtpplklickfioiaaW.PrintLast Go.Proofs.YtpplklickfioiaaW.PrintMore
set_option linter.unusedVariables false
set_option linter.unusedSimpArgs false
attribute [local irreducible] IntKind.wrap Go.bits shr shl maxLen str
theorem size_l0 (d : Nat) : ∀ (k n : Nat) (c : Int), (hi n).length = d → d < k → 0 ≤ c → c + d ≤ 100 → num_Size.l0 k n c = some (c + d) := by
  induction d with
  | zero =>
    intro k n c hd hk _ _
    obtain ⟨k, rfl⟩ : ∃ m, k = m + 1 := ⟨k - 1, by omega⟩
    have h0 : n = 0 := by
      rcases Nat.eq_zero_or_pos n with h | h
      · exact h
      · rw [hi_pos h] at hd; simp at hd
    subst h0
    simp only [num_Size.l0]
    rw [if_neg (by omega)]
    simp
  | succ d ih =>
    intro k n c hd hk h0 h1
    obtain ⟨k, rfl⟩ : ∃ m, k = m + 1 := ⟨k - 1, by omega⟩
    rcases Nat.eq_zero_or_pos n with h | h
    · subst h; rw [hi_zero] at hd; simp at hd
    · rw [hi_pos h] at hd
      simp only [List.length_append, List.length_singleton] at hd
      simp only [num_Size.l0]
      rw [if_pos (by omega), show ((n : Int) / 128) = ((n / 128 : Nat) : Int) by omega]
      rw [wrap_in _ (by omega) (by omega), ih k _ _ (by omega) (by omega) (by omega) (by omega)]
      congr 1
      omega
theorem size_f {k n : Nat} (hn : n < 18446744073709551616) (hk : 12 ≤ k) : num_Size.f k n = some ((enc n).length : Int) := by
  have h := hi_ten hn
  unfold num_Size.f
  rw [show ((n : Int) / 128) = ((n / 128 : Nat) : Int) by omega, size_l0 _ k _ 1 rfl (by omega) (by omega) (by omega), enc_length]
  congr 1
  omega
theorem shr128 (n e : Nat) (he : e ≤ 9) : shr .u64 (n : Int) (7 * (e : Int)) = ((n / 128 ^ e : Nat) : Int) := by
  have h1 : (7 * (e : Int)).toNat = 7 * e := by omega
  have h2 : min (7 * e) IntKind.u64.bits = 7 * e := Nat.min_eq_left (by simp only [IntKind.bits]; omega)
  have h3 : (128 : Nat) ^ e = 2 ^ (7 * e) := by rw [Nat.pow_mul]
  have h4 : shr .u64 (n : Int) (7 * (e : Int)) = (n : Int) / 2 ^ min (7 * (e : Int)).toNat IntKind.u64.bits := by with_unfolding_all rfl
  rw [h4, h1, h2, h3, Int.natCast_ediv, Int.natCast_pow]
  rfl
theorem put_l0 (n m : Nat) (e : List Int) (hm : m ≤ 9) (h1 : ∀ j, j < m → e.drop j = (((n / 128 ^ (m - j) % 128 : Nat) : Int) + 128) :: e.drop (j + 1)) (h2 : e.drop m = [((n % 128 : Nat) : Int)])
    (h3 : e.drop (m + 1) = []) (d : Nat) : ∀ (k j : Nat) (acc : List Int), j + d = m + 1 → d < k → acc.length + d ≤ capN →
    num_put.l0 k acc n ((m + 1 : Nat) : Int) ((m + 1 : Nat) : Int) j = some (acc ++ e.drop j) := by
  induction d with
  | zero =>
    intro k j acc hj hk _
    obtain ⟨k, rfl⟩ : ∃ m, k = m + 1 := ⟨k - 1, by omega⟩
    simp only [num_put.l0]
    rw [if_neg (by omega), show j = m + 1 by omega, h3, List.append_nil]
  | succ d ih =>
    intro k j acc hj hk ha
    obtain ⟨k, rfl⟩ : ∃ m, k = m + 1 := ⟨k - 1, by omega⟩
    have hd9 : d ≤ 9 := by omega
    have hc : acc.length < 140737488355328 := cap_lt (Nat.le_trans (Nat.le_add_right _ _) ha)
    have hi0 : ∀ x : Int, (acc ++ [x]).length + d ≤ capN := fun x => by rw [List.length_append, List.length_singleton]; omega
    clear ha
    have e1 : wrap64 (((m + 1 : Nat) : Int) - 1) = (m : Int) := by rw [wrap_in _ (by omega) (by omega)]; omega
    have e2 : wrap64 ((m : Int) - (j : Int)) = (d : Int) := by rw [wrap_in _ (by omega) (by omega)]; omega
    have e3 : wrap64 (7 * (d : Int)) = 7 * (d : Int) := wrap_in _ (by omega) (by omega)
    have e4 : wrap64 ((j : Int) + 1) = ((j + 1 : Nat) : Int) := by rw [wrap_in _ (by omega) (by omega)]; omega
    have e5 : bits .and .u8 (((n / 128 ^ d : Nat) : Int) % 256) 127 = ((n / 128 ^ d % 128 : Nat) : Int) := by
      generalize n / 128 ^ d = q
      rw [u8_and127 _ (by omega) (by omega)]; omega
    have e6 : bits .or .u8 ((n / 128 ^ d % 128 : Nat) : Int) 128 = ((n / 128 ^ d % 128 : Nat) : Int) + 128 := by
      generalize n / 128 ^ d = q
      rw [u8_or_128 _ (by omega) (by omega)]
    have hlt : (j : Int) < ((m + 1 : Nat) : Int) := by omega
    simp only [num_put.l0]
    rw [if_pos hlt, e1, e2, e3, if_pos (by omega), shr128 n d hd9, e4, e5, e6, if_pos hc, if_pos hc]
    by_cases hd : d = 0
    · subst hd
      obtain rfl : j = m := by omega
      rw [if_neg (Int.lt_irrefl _), ih k (j + 1) _ (by omega) (by omega) (hi0 _), List.append_assoc, h3, h2]
      simp
    · have hjm : j < m := by omega
      rw [if_pos (by omega), ih k (j + 1) _ (by omega) (by omega) (hi0 _), List.append_assoc, h1 j hjm, show m - j = d by omega]
      rfl
theorem put_f {k n : Nat} (l : List Int) (hn : n < 18446744073709551616) (hk : 12 ≤ k) (hl : l.length + 10 ≤ capN) : num_put.f k l n = some (l ++ enc n) := by
  have h10 := hi_ten hn
  unfold num_put.f
  rw [size_f hn hk, enc_length]
  simp only [Option.bind_some]
  have h := put_l0 n (hi (n / 128)).length (enc n) h10 (fun j hj => enc_drop hj) (enc_last n) (List.drop_of_length_le (by rw [enc_length]; exact Nat.le_refl _)) _ k 0 l (Nat.zero_add _) (by omega) (by omega)
  exact h
theorem fresh_f (l : List Int) (hl : l.length + 10 ≤ capN) : num_fresh.f l = some l := by
  unfold num_fresh.f
  simp only [Option.bind_some]
  rw [if_pos (cap_lt (by simp; omega))]
  rfl
theorem Put_f {k n : Nat} (l : List Int) (hn : n < 18446744073709551616) (hk : 12 ≤ k) (hl : l.length + 10 ≤ capN) : num_Put.f k l n = some (l ++ enc n) := by
  unfold num_Put.f
  rw [fresh_f l hl]
  simp only [Option.bind_some]
  rw [put_f l hn hk hl]
  rfl
theorem Bytes_l0 (n : Nat) : ∀ (k : Nat) (acc : List Int), (hi n).length < k → n < 18446744073709551616 → acc.length + (hi n).length ≤ capN → runnelref01_Bytes.l0 k n acc = some (hi n ++ acc) := by
  induction n using Nat.strongRecOn with
  | ind n ih =>
    intro k acc hk hn ha
    obtain ⟨k, rfl⟩ : ∃ m, k = m + 1 := ⟨k - 1, by omega⟩
    simp only [runnelref01_Bytes.l0]
    rcases Nat.eq_zero_or_pos n with h | h
    · subst h
      rw [if_neg (by omega), hi_zero]
      rfl
    · rw [if_pos (by omega)]
      simp only [Option.bind_some]
      rw [hi_pos h] at hk ha
      simp only [List.length_append, List.length_singleton] at hk ha
      rw [if_pos (cap_lt (by simp; omega))]
      have e1 : IntKind.u64.wrap (Int.tmod (n : Int) 128 + 128) = ((n % 128 : Nat) : Int) + 128 := by
        rw [Int.tmod_eq_emod_of_nonneg (by omega), u64_in _ (by omega) (by omega)]; omega
      have e2 : IntKind.u64.wrap (Int.tdiv (n : Int) 128) = ((n / 128 : Nat) : Int) := by
        rw [Int.tdiv_eq_ediv_of_nonneg (by omega), u64_in _ (by omega) (by omega)]; omega
      rw [e1, e2, ih (n / 128) (by omega) k _ (by omega) (by omega) (by simp; omega)]
      rw [hi_pos h, show (((n % 128 : Nat) : Int) + 128) % 256 = ((n % 128 : Nat) : Int) + 128 by omega]
      simp
theorem Bytes_f {k n : Nat} (hn : n < 18446744073709551616) (hk : 12 ≤ k) : runnelref01_Bytes.f k n = some (enc n) := by
  have h := hi_ten hn
  have hc := cap_ge
  unfold runnelref01_Bytes.f
  have e1 : Int.tmod (n : Int) 128 % 256 = ((n % 128 : Nat) : Int) := by rw [Int.tmod_eq_emod_of_nonneg (by omega)]; omega
  have e2 : IntKind.u64.wrap (Int.tdiv (n : Int) 128) = ((n / 128 : Nat) : Int) := by rw [Int.tdiv_eq_ediv_of_nonneg (by omega), u64_in _ (by omega) (by omega)]; omega
  rw [e1, e2, Bytes_l0 _ k _ (by omega) (by omega) (by simp; omega), enc]
theorem Get_l0 (l : List Int) (hl : ∀ x ∈ l, 0 ≤ x ∧ x < 256) (at0 : Int) (d : Nat) : ∀ (k i : Nat) (n : Int), 2 * d < k → (l.length : Int) < i + d → i ≤ l.length → l.length + 10 ≤ capN → 0 ≤ n → n < 18446744073709551616 →
    num_Get.l0 k l at0 n i = some (Get l i n at0 d) := by
  induction d with
  | zero => intro k i n hk hd hi _ _ _; omega
  | succ d ih =>
    intro k i n hk hd hi hc hn0 hn1
    obtain ⟨k, rfl⟩ : ∃ m, k = m + 1 := ⟨k - 1, by omega⟩
    obtain ⟨k, rfl⟩ : ∃ m, k = m + 1 := ⟨k - 1, by omega⟩
    simp only [num_Get.l0, num_Get.j2, Get]
    by_cases h : (i : Int) < (l.length : Int)
    · rw [if_pos h, if_pos h]
      have h0 : (0 : Int) ≤ (i : Int) := by omega
      have hb := hl (l.getD i 0) (by rw [List.getD_eq_getElem?_getD, List.getElem?_eq_getElem (by omega)]; exact List.getElem_mem _)
      have hcap : (i : Int) + 1 ≤ 9223372036854775807 := by have := cap_lt (Nat.le_trans (Nat.le_add_right _ _) hc); omega
      have e0 : rd l (i : Int) = l.getD i 0 := rfl
      have e1 : (l.getD (i : Int).toNat 0) = l.getD i 0 := rfl
      have e2 : wrap64 ((i : Int) + 1) = ((i + 1 : Nat) : Int) := by rw [wrap_in _ (by omega) (by omega)]; omega
      have e3 : ((i : Int) + 1) = ((i + 1 : Nat) : Int) := by omega
      rw [e0, e1, if_pos h0, if_pos h0, if_pos h]
      generalize l.getD i 0 = b at hb ⊢
      have e4 : bits .and .u8 b 127 = b % 128 := u8_and127 b hb.1 hb.2
      by_cases g : 144115188075855872 ≤ n
      · have g1 : decide (n / 144115188075855872 > 0) = true := decide_eq_true (by omega)
        rw [g1, if_pos (Or.inr g)]
        simp only [if_true]
        split
        · split <;> rfl
        · rfl
      · have g1 : decide (n / 144115188075855872 > 0) = false := decide_eq_false (by omega)
        rw [g1]
        simp only [if_true, Bool.false_eq_true, if_false]
        have e5 : bits .or .u64 (IntKind.u64.wrap (n * 128)) (IntKind.u64.wrap (b % 128)) = n * 128 + b % 128 := u64_or_low n (b % 128) hn0 (by omega) (by omega) (by omega)
        rw [e4, e5, e2, e3]
        have rest : (if b < 128 then some (n * 128 + b % 128, ((i + 1 : Nat) : Int), (0 : Int)) else num_Get.l0 k l at0 (n * 128 + b % 128) ((i + 1 : Nat) : Int)) =
            some (if b < 128 then (n * 128 + b % 128, ((i + 1 : Nat) : Int), (0 : Int)) else Get l ((i + 1 : Nat) : Int) (n * 128 + b % 128) at0 d) := by
          by_cases hb1 : b < 128
          · rw [if_pos hb1, if_pos hb1]
          · rw [if_neg hb1, if_neg hb1, ih k (i + 1) _ (by omega) (by omega) (by omega) hc (by omega) (by omega)]
        by_cases ha : (i : Int) = at0
        · rw [if_pos ha]
          by_cases hb2 : b = 128
          · rw [if_pos hb2, if_pos (Or.inl ⟨ha, hb2⟩)]
          · rw [if_neg hb2, if_neg (show ¬ (((i : Int) = at0 ∧ b = 128) ∨ 144115188075855872 ≤ n) from fun o => o.elim (fun o => hb2 o.2) g)]
            exact rest
        · rw [if_neg ha, if_neg (show ¬ (((i : Int) = at0 ∧ b = 128) ∨ 144115188075855872 ≤ n) from fun o => o.elim (fun o => ha o.1) g)]
          exact rest
    · rw [if_neg h, if_neg h]
theorem get_f {k : Nat} (l : List Int) (hl : ∀ x ∈ l, 0 ≤ x ∧ x < 256) (at0 : Int) (hk : 2 * l.length + 8 ≤ k) (hc : l.length + 10 ≤ capN) : num_Get.f k l at0 = some (NumPure.get l at0) := by
  obtain ⟨k, rfl⟩ : ∃ m, k = m + 1 := ⟨k - 1, by omega⟩
  unfold num_Get.f NumPure.get
  simp only [num_Get.j0]
  by_cases h0 : at0 < 0
  · rw [if_pos h0, if_pos (Or.inl h0)]
    rfl
  · rw [if_neg h0]
    by_cases h1 : (l.length : Int) < at0
    · rw [decide_eq_true (show at0 > (l.length : Int) from h1), if_pos (Or.inr h1)]
      rfl
    · rw [decide_eq_false (show ¬ at0 > (l.length : Int) from h1), if_neg (show ¬ (false = true) by decide), if_neg (show ¬ (at0 < 0 ∨ (l.length : Int) < at0) from fun o => o.elim h0 h1)]
      obtain ⟨a, rfl⟩ := Int.eq_ofNat_of_zero_le (by omega : 0 ≤ at0)
      exact Get_l0 l hl _ _ k a 0 (by omega) (by omega) (by omega) hc (by omega) (by omega)
theorem get_range (l : List Int) (hl : ∀ x ∈ l, 0 ≤ x ∧ x < 256) (at0 : Int) (d : Nat) : ∀ (i n : Int), 0 ≤ n → 0 ≤ i → 0 ≤ (Get l i n at0 d).1 ∧ (Get l i n at0 d).1 < 18446744073709551616 := by
  induction d with
  | zero => intro i n _ _; exact ⟨Int.le_refl _, (by decide : (0 : Int) < 18446744073709551616)⟩
  | succ d ih =>
    intro i n hn hi
    rw [Get]
    split
    · rename_i h
      have hb : 0 ≤ l.getD i.toNat 0 ∧ l.getD i.toNat 0 < 256 := hl _ (by rw [List.getD_eq_getElem?_getD, List.getElem?_eq_getElem (by omega)]; exact List.getElem_mem _)
      generalize l.getD i.toNat 0 = b at hb ⊢
      split
      · exact ⟨Int.le_refl _, (by decide : (0 : Int) < 18446744073709551616)⟩
      · rename_i h2
        split
        · show 0 ≤ n * 128 + b % 128 ∧ n * 128 + b % 128 < 18446744073709551616
          have h3 : ¬ 144115188075855872 ≤ n := fun h3 => h2 (Or.inr h3)
          omega
        · exact ih _ _ (by omega) (by omega)
    · exact ⟨Int.le_refl _, (by decide : (0 : Int) < 18446744073709551616)⟩
theorem got_range (l : List Int) (hl : ∀ x ∈ l, 0 ≤ x ∧ x < 256) (at0 : Int) : 0 ≤ (NumPure.get l at0).1 ∧ (NumPure.get l at0).1 < 18446744073709551616 := by
  unfold NumPure.get
  split
  · exact ⟨Int.le_refl _, (by decide : (0 : Int) < 18446744073709551616)⟩
  · rename_i h
    exact get_range l hl at0 _ _ _ (Int.le_refl _) (by omega)
def zag (x : Int) : Int := if x % 2 = 1 then -(x / 2) - 1 else x / 2
theorem xor_zero (a : Int) (h : -9223372036854775808 ≤ a) (h' : a ≤ 9223372036854775807) : bits .xor .i64 a 0 = a := by
  have e : bits .xor .i64 a 0 = IntKind.i64.wrap ((BitVec.ofInt 64 a ^^^ BitVec.ofInt 64 0).toNat : Int) := by with_unfolding_all rfl
  rw [e, show BitVec.ofInt 64 0 = 0#64 from rfl, BitVec.xor_zero, BitVec.toNat_ofInt, IntKind.wrap_i64]
  omega
theorem xor_ones (a : Int) (h : -9223372036854775808 ≤ a) (h' : a ≤ 9223372036854775807) : bits .xor .i64 a (-1) = -a - 1 := by
  have e : bits .xor .i64 a (-1) = IntKind.i64.wrap ((BitVec.ofInt 64 a ^^^ BitVec.ofInt 64 (-1)).toNat : Int) := by with_unfolding_all rfl
  rw [e, show BitVec.ofInt 64 (-1) = BitVec.allOnes 64 by decide, BitVec.xor_allOnes, BitVec.toNat_not, BitVec.toNat_ofInt, IntKind.wrap_i64]
  omega
theorem zag_f (x : Int) (h0 : 0 ≤ x) (h1 : x < 18446744073709551616) : num_zag.f x = some (zag x) := by
  unfold num_zag.f zag
  have e1 : bits .and .u64 x 1 = x % 2 := by
    rw [u64_and x 1 h0 h1 (by decide) (by decide), show ((1 : Int).toNat) = 1 from rfl, nat_mask1]; omega
  rw [e1, wrap_in (x / 2) (by omega) (by omega), wrap_in (x % 2) (by omega) (by omega), wrap_in (-(x % 2)) (by omega) (by omega)]
  by_cases h : x % 2 = 1
  · rw [if_pos h, h, xor_ones _ (by omega) (by omega)]
  · rw [if_neg h, show x % 2 = 0 by omega]
    exact congrArg some (xor_zero _ (by omega) (by omega))
theorem getInt_f {k : Nat} (l : List Int) (hl : ∀ x ∈ l, 0 ≤ x ∧ x < 256) (at0 : Int) (hk : 2 * l.length + 8 ≤ k) (hc : l.length + 10 ≤ capN) : num_GetInt.f k l at0 = some (zag (NumPure.get l at0).1, (NumPure.get l at0).2.1, (NumPure.get l at0).2.2) := by
  have h := got_range l hl at0
  unfold num_GetInt.f
  rw [get_f l hl at0 hk hc]
  simp only [Option.bind_some]
  rw [zag_f _ h.1 h.2]
  rfl
theorem cut_mid (p f r : List Int) (j a : Int) (hj : j = ((p.length + f.length : Nat) : Int)) (ha : a = (p.length : Int)) : ((p ++ (f ++ r)).take j.toNat).drop a.toNat = f := by
  subst hj; subst ha
  rw [Int.toNat_natCast, Int.toNat_natCast, ← List.append_assoc, show p.length + f.length = (p ++ f).length by simp, List.take_left, List.drop_left]
theorem getD_mid (p f r : List Int) (b : Int) : (p ++ (f ++ b :: r)).getD ((p.length + f.length : Nat) : Int).toNat 0 = b := by
  rw [Int.toNat_natCast, List.getD_eq_getElem?_getD, List.getElem?_append_right (by omega), List.getElem?_append_right (by omega)]
  simp
theorem Get_ok (p r : List Int) : ∀ (f : List Int) (d : Nat), r.length < d → (∀ x ∈ f, 128 ≤ x ∧ x < 256) → (∀ x t, f = x :: t → x ≠ 128) → (∀ x ∈ r, 0 ≤ x ∧ x < 256) →
    Get (p ++ (f ++ r)) ((p.length + f.length : Nat) : Int) (valF 0 f) (p.length : Int) d = (0, 0, 6) ∨
    ∃ (m : Nat) (t : List Int) (r' : List Int), m < 18446744073709551616 ∧ f ++ r = enc m ++ r' ∧ Get (p ++ (f ++ r)) ((p.length + f.length : Nat) : Int) (valF 0 f) (p.length : Int) d = ((m : Int), ((p.length + (enc m).length : Nat) : Int), 0) := by
  induction r with
  | nil =>
    intro f d hd hf hh _
    obtain ⟨d, rfl⟩ : ∃ m, d = m + 1 := ⟨d - 1, by omega⟩
    left
    rw [Get, if_neg (by simp)]
  | cons b r ih =>
    intro f d hd hf hh hr
    obtain ⟨d, rfl⟩ : ∃ m, d = m + 1 := ⟨d - 1, by omega⟩
    have hb := hr b (by simp)
    rw [Get, if_pos (by simp; omega), getD_mid]
    have hv0 := valF_nonneg 0 (Int.le_refl 0) f
    by_cases hbad : (((p.length + f.length : Nat) : Int) = (p.length : Int) ∧ b = 128) ∨ 144115188075855872 ≤ valF 0 f
    · rw [if_pos hbad]; exact .inl rfl
    · rw [if_neg hbad]
      have h57 : valF 0 f < 144115188075855872 := by
        rcases Int.lt_or_le (valF 0 f) 144115188075855872 with h | h
        · exact h
        · exact absurd (Or.inr h) hbad
      by_cases h : b < 128
      · rw [if_pos h]
        right
        have hce := canon_enc f hf hh b hb.1 h
        rw [valF_snoc] at hce
        refine ⟨(valF 0 f * 128 + b % 128).toNat, [], r, by omega, by rw [hce]; simp, ?_⟩
        rw [hce]
        simp only [List.length_append, List.length_singleton, Prod.mk.injEq, and_true]
        exact ⟨by omega, by omega⟩
      · rw [if_neg h, show valF 0 f * 128 + b % 128 = valF 0 (f ++ [b]) from (valF_snoc _ _ _).symm]
        have h1 := ih (f ++ [b]) d (by simp at hd; omega) (fun x hx => by
          rcases List.mem_append.1 hx with hx | hx
          · exact hf x hx
          · rw [List.mem_singleton] at hx; omega) (fun x t e => by
          rcases f with _ | ⟨y, s⟩
          · simp only [List.nil_append, List.cons.injEq] at e
            rw [← e.1]
            intro hb2
            exact hbad (.inl ⟨by simp, hb2⟩)
          · simp only [List.cons_append, List.cons.injEq] at e
            rw [← e.1]
            exact hh y s rfl) (fun x hx => hr x (by simp [hx]))
        rw [show (p ++ ((f ++ [b]) ++ r)) = p ++ (f ++ b :: r) by simp, show ((p.length + (f ++ [b]).length : Nat) : Int) = ((p.length + f.length : Nat) : Int) + 1 by simp; omega] at h1
        rcases h1 with h1 | ⟨m, t, r', h2, h3, h4⟩
        · exact .inl h1
        · exact .inr ⟨m, t, r', h2, by rw [← h3]; simp, h4⟩
theorem get_ok (l : List Int) (hl : ∀ x ∈ l, 0 ≤ x ∧ x < 256) (at0 : Int) : (NumPure.get l at0 = (0, 0, 9) ∧ (at0 < 0 ∨ (l.length : Int) < at0)) ∨ (NumPure.get l at0 = (0, 0, 6) ∧ 0 ≤ at0 ∧ at0 ≤ l.length) ∨
    ∃ (m : Nat) (p r : List Int), m < 18446744073709551616 ∧ l = p ++ (enc m ++ r) ∧ at0 = p.length ∧ NumPure.get l at0 = ((m : Int), ((p.length + (enc m).length : Nat) : Int), 0) := by
  unfold NumPure.get
  by_cases h : at0 < 0 ∨ (l.length : Int) < at0
  · rw [if_pos h]; exact .inl ⟨rfl, h⟩
  · rw [if_neg h]
    have h0 : 0 ≤ at0 := by omega
    obtain ⟨a, rfl⟩ := Int.eq_ofNat_of_zero_le h0
    have hp : (l.take a).length = a := by rw [List.length_take]; omega
    have e : l.take a ++ ([] ++ l.drop a) = l := by simp
    have h2 := Get_ok (l.take a) (l.drop a) [] (l.length + 1 - a) (by rw [List.length_drop]; omega) (by simp) (by simp) (fun x hx => hl x (List.mem_of_mem_drop hx))
    rw [e, hp] at h2
    rcases h2 with h2 | ⟨m, t, r', h3, h4, h5⟩
    · exact .inr (.inl ⟨h2, h0, by omega⟩)
    · refine .inr (.inr ⟨m, l.take a, r', h3, ?_, by rw [hp], ?_⟩)
      · rw [← h4, e]
      · rw [hp]; exact h5
theorem Get_flags (p r : List Int) (b : Int) (hb0 : 0 ≤ b) (hb : b < 128) (g : List Int) : ∀ (f : List Int) (d : Nat), g.length < d → (∀ x ∈ f ++ g, 128 ≤ x ∧ x < 256) → (∀ x t, f ++ g = x :: t → x ≠ 128) → valF 0 (f ++ g) < 144115188075855872 →
    Get (p ++ (f ++ (g ++ b :: r))) ((p.length + f.length : Nat) : Int) (valF 0 f) (p.length : Int) d = (valF 0 (f ++ g ++ [b]), ((p.length + f.length + g.length + 1 : Nat) : Int), 0) := by
  induction g with
  | nil =>
    intro f d hd hf hh hv
    obtain ⟨d, rfl⟩ : ∃ m, d = m + 1 := ⟨d - 1, by omega⟩
    rw [List.nil_append, Get, if_pos (by simp; omega), getD_mid, if_neg, if_pos hb, valF_snoc, List.append_nil]
    · simp
    · rw [List.append_nil] at hv
      rintro (⟨_, h⟩ | h) <;> omega
  | cons x g ih =>
    intro f d hd hf hh hv
    obtain ⟨d, rfl⟩ : ∃ m, d = m + 1 := ⟨d - 1, by omega⟩
    have hx := hf x (by simp)
    have hle : valF 0 f ≤ valF 0 (f ++ x :: g) := by rw [valF_append]; exact valF_ge _ (valF_nonneg 0 (Int.le_refl 0) f) _
    rw [List.cons_append, Get, if_pos (by simp; omega), getD_mid, if_neg, if_neg (by omega), show valF 0 f * 128 + x % 128 = valF 0 (f ++ [x]) from (valF_snoc _ _ _).symm]
    · have h1 := ih (f ++ [x]) d (by simp at hd; omega) (by simpa using hf) (by simpa using hh) (by simpa using hv)
      rw [show (p ++ ((f ++ [x]) ++ (g ++ b :: r))) = p ++ (f ++ x :: (g ++ b :: r)) by simp, show ((p.length + (f ++ [x]).length : Nat) : Int) = ((p.length + f.length : Nat) : Int) + 1 by simp; omega] at h1
      rw [h1, show f ++ [x] ++ g ++ [b] = f ++ x :: g ++ [b] by simp, show ((p.length + (f ++ [x]).length + g.length + 1 : Nat) : Int) = ((p.length + f.length + (x :: g).length + 1 : Nat) : Int) by simp; omega]
    · rintro (⟨h1, h2⟩ | h)
      · have hf0 : f = [] := List.eq_nil_of_length_eq_zero (by omega)
        subst hf0
        exact hh x g rfl h2
      · omega
theorem get_enc (p r : List Int) (n : Nat) (hn : n < 18446744073709551616) (at0 : Int) (ha : at0 = (p.length : Int)) : NumPure.get (p ++ (enc n ++ r)) at0 = ((n : Int), ((p.length + (enc n).length : Nat) : Int), 0) := by
  subst ha
  unfold NumPure.get
  rw [if_neg (by simp; omega)]
  have h1 := Get_flags p r ((n % 128 : Nat) : Int) (by omega) (by omega) (hi (n / 128)) [] ((p ++ (enc n ++ r)).length + 1 - (p.length : Int).toNat) (by rw [List.length_append, List.length_append, enc_length]; omega) (by simpa using hi_flag _) (by simpa using hi_head _) (by rw [List.nil_append, val_hi]; omega)
  have e : enc n = hi (n / 128) ++ [((n % 128 : Nat) : Int)] := rfl
  have e2 : valF 0 ([] ++ hi (n / 128) ++ [((n % 128 : Nat) : Int)]) = (n : Int) := by rw [List.nil_append, ← e, val_enc]
  rw [e2, show p ++ ([] ++ (hi (n / 128) ++ ((n % 128 : Nat) : Int) :: r)) = p ++ (enc n ++ r) by rw [e]; simp] at h1
  rw [enc_length]
  exact h1
def zig (a : Int) : Nat := if 0 ≤ a then (2 * a).toNat else (-2 * a - 1).toNat
theorem zig_lt (a : Int) (h : -9223372036854775808 ≤ a) (h' : a ≤ 9223372036854775807) : zig a < 18446744073709551616 := by unfold zig; split <;> omega
theorem zag_zig (a : Int) : (if ((zig a : Nat) : Int) % 2 = 1 then -(((zig a : Nat) : Int) / 2) - 1 else ((zig a : Nat) : Int) / 2) = a := by unfold zig; split <;> split <;> omega
theorem uxor_zero (a : Int) (h : 0 ≤ a) (h' : a < 18446744073709551616) : bits .xor .u64 a 0 = a := by
  rw [u64_xor a 0 h h' (by decide) (by decide), show ((0 : Int).toNat) = 0 from rfl, Nat.xor_zero]; omega
theorem uxor_ones (a : Int) (h : 0 ≤ a) (h' : a < 18446744073709551616) : bits .xor .u64 a 18446744073709551615 = 18446744073709551615 - a := by
  have e : bits .xor .u64 a 18446744073709551615 = IntKind.u64.wrap ((BitVec.ofInt 64 a ^^^ BitVec.ofInt 64 18446744073709551615).toNat : Int) := by with_unfolding_all rfl
  rw [e, show BitVec.ofInt 64 18446744073709551615 = BitVec.allOnes 64 by decide, BitVec.xor_allOnes, BitVec.toNat_not, BitVec.toNat_ofInt, u64_mod]
  omega
theorem zig_f (a : Int) (h : -9223372036854775808 ≤ a) (h' : a ≤ 9223372036854775807) : num_zig.f a = some ((zig a : Nat) : Int) := by
  unfold num_zig.f zig
  by_cases h0 : 0 ≤ a
  · rw [if_pos h0, show a / 9223372036854775808 = 0 by omega, u64_in a h0 (by omega), u64_in (a * 2) (by omega) (by omega), u64_in 0 (by decide) (by decide), uxor_zero _ (by omega) (by omega)]
    congr 1
    omega
  · rw [if_neg h0, show a / 9223372036854775808 = -1 by omega]
    rw [show IntKind.u64.wrap a = a + 18446744073709551616 by rw [u64_mod]; omega, show IntKind.u64.wrap ((a + 18446744073709551616) * 2) = 2 * a + 18446744073709551616 by rw [u64_mod]; omega, show IntKind.u64.wrap (-1) = 18446744073709551615 by rw [u64_mod]; omega]
    rw [uxor_ones _ (by omega) (by omega)]
    congr 1
    omega
theorem PutInt_f {k : Nat} (l : List Int) (a : Int) (h : -9223372036854775808 ≤ a) (h' : a ≤ 9223372036854775807) (hk : 12 ≤ k) (hl : l.length + 10 ≤ capN) : num_PutInt.f k l a = some (l ++ enc (zig a)) := by
  unfold num_PutInt.f
  rw [fresh_f l hl, zig_f a h h']
  simp only [Option.bind_some]
  rw [put_f l (zig_lt a h h') hk hl]
  rfl
theorem Signed_f (a : Int) (h : -9223372036854775808 ≤ a) (h' : a ≤ 9223372036854775807) : runnelref01_Signed.f a = some ((zig a : Nat) : Int) := by
  unfold runnelref01_Signed.f zig
  by_cases h0 : 0 ≤ a
  · rw [if_pos (show a ≥ 0 from h0), if_pos h0, u64_in a h0 (by omega), u64_in (2 * a) (by omega) (by omega)]
    congr 1
    omega
  · rw [if_neg (show ¬ a ≥ 0 from h0), if_neg h0, wrap_in (a + 1) (by omega) (by omega), wrap_in (-(a + 1)) (by omega) (by omega), u64_in (-(a + 1)) (by omega) (by omega), u64_in (2 * -(a + 1)) (by omega) (by omega), u64_in _ (by omega) (by omega)]
    congr 1
    omega
theorem bytesOf_byte (s : ByteArray) : ∀ x ∈ bytesOf s, 0 ≤ x ∧ x < 256 := by
  intro x hx
  unfold bytesOf at hx
  obtain ⟨u, _, rfl⟩ := List.mem_map.1 hx
  have := u.toNat_lt
  omega
theorem str_bytesOf (s : ByteArray) : str (bytesOf s) = s.toList := by
  have e : ∀ l : List UInt8, str (l.map fun b => (b.toNat : Int)) = l := by
    intro l
    have e0 : ∀ m : List Int, str m = m.map fun n => UInt8.ofNat n.toNat := fun m => by with_unfolding_all rfl
    rw [e0]
    induction l with
    | nil => rfl
    | cons u l ih => rw [List.map_cons, List.map_cons, ih, Int.toNat_natCast, UInt8.ofNat_toNat]
  unfold bytesOf
  rw [e, toList_eq]
def txt (s : ByteArray) : List Int := enc s.size ++ bytesOf s
theorem PutText_f {k : Nat} (l : List Int) (s : ByteArray) (hk : 12 ≤ k) (hl : l.length + 10 + s.size ≤ capN) : num_PutText.f k l s = some (l ++ txt s) := by
  have h1 := cap_lt hl
  have hn : s.size < 18446744073709551616 := by omega
  have h10 := enc_ten hn
  unfold num_PutText.f
  rw [fresh_f l (by omega)]
  simp only [Option.bind_some]
  rw [u64_in _ (by omega) (by omega), put_f l hn hk (by omega)]
  simp only [Option.bind_some]
  rw [if_pos (by rw [List.length_append]; generalize (enc s.size).length = E at h10 ⊢; omega), txt, List.append_assoc]
theorem GetText_f {k : Nat} (l : List Int) (hl : ∀ x ∈ l, 0 ≤ x ∧ x < 256) (at0 most : Int) (hk : 2 * l.length + 8 ≤ k) (hc : l.length + 10 ≤ capN) (hm : most ≤ 9223372036854775807) :
    num_GetText.f k l at0 most = some (if most < 0 then ((⟨#[]⟩ : ByteArray), 0, 1) else if (NumPure.get l at0).2.2 = 0 then
      (if most < (NumPure.get l at0).1 then ((⟨#[]⟩ : ByteArray), 0, 2) else if (l.length : Int) - (NumPure.get l at0).2.1 < (NumPure.get l at0).1 then ((⟨#[]⟩ : ByteArray), 0, 6)
       else (strOfNums ((l.take ((NumPure.get l at0).2.1 + (NumPure.get l at0).1).toNat).drop (NumPure.get l at0).2.1.toNat), (NumPure.get l at0).2.1 + (NumPure.get l at0).1, 0))
      else ((⟨#[]⟩ : ByteArray), 0, (NumPure.get l at0).2.2)) := by
  have hcc := cap_lt (Nat.le_trans (Nat.le_add_right _ _) hc)
  unfold num_GetText.f
  by_cases h0 : most < 0
  · rw [if_pos h0, if_pos h0]
  · rw [if_neg h0, if_neg h0, get_f l hl at0 hk hc]
    simp only [Option.bind_some]
    have ho := get_ok l hl at0
    have hin : (NumPure.get l at0).2.2 = 0 → 0 ≤ (NumPure.get l at0).1 ∧ (NumPure.get l at0).1 < 18446744073709551616 ∧ 0 ≤ (NumPure.get l at0).2.1 ∧ (NumPure.get l at0).2.1 ≤ (l.length : Int) := by
      intro he
      rcases ho with ⟨ho, _⟩ | ⟨ho, _⟩ | ⟨m, p, r, h1, h2, h3, ho⟩
      · rw [ho] at he; cases he
      · rw [ho] at he; cases he
      · rw [ho, h2]
        simp only [List.length_append]
        generalize (enc m).length = E
        exact ⟨by omega, by omega, by omega, by omega⟩
    generalize NumPure.get l at0 = g at hin ⊢
    obtain ⟨n, b, e⟩ := g
    simp only at hin ⊢
    by_cases he : e = 0
    · obtain ⟨h1, h2, h3, h4⟩ := hin he
      rw [if_pos he, if_pos he, u64_in most (by omega) (by omega)]
      by_cases h5 : most < n
      · rw [if_pos (show n > most from h5), if_pos h5]
      · rw [if_neg (show ¬ n > most from h5), if_neg h5, wrap_in ((l.length : Int) - b) (by omega) (by omega), u64_in ((l.length : Int) - b) (by omega) (by omega)]
        by_cases h6 : (l.length : Int) - b < n
        · rw [if_pos (show n > (l.length : Int) - b from h6), if_pos h6]
        · rw [if_neg (show ¬ n > (l.length : Int) - b from h6), if_neg h6, wrap_in n (by omega) (by omega), wrap_in (b + n) (by omega) (by omega), if_pos h3, if_pos (by omega), if_pos (by omega)]
    · rw [if_neg he, if_neg he]
theorem RText_f {k : Nat} (s : ByteArray) (hk : 12 ≤ k) (hl : s.size + 10 ≤ capN) : runnelref01_Text.f k s = some (txt s) := by
  have h1 := cap_lt hl
  have hn : s.size < 18446744073709551616 := by omega
  have h10 := enc_ten hn
  unfold runnelref01_Text.f
  rw [u64_in _ (by omega) (by omega), Bytes_f hn hk]
  simp only [Option.bind_some]
  rw [if_pos (by generalize (enc s.size).length = E at h10 ⊢; omega), txt]
def toV (x : S103) : V := ⟨x.f0, x.f1, x.f2.toList⟩
def vs (l : List S103) : List V := l.map toV
theorem vs_drop (l : List S103) (i : Nat) (h : i < l.length) : vs (l.drop i) = toV (rd_T103 l (i : Int)) :: vs (l.drop (i + 1)) := by
  rw [List.drop_eq_getElem_cons h]
  show toV l[i] :: vs (l.drop (i + 1)) = _
  rw [show rd_T103 l (i : Int) = l[i] by unfold rd_T103; rw [Int.toNat_natCast, List.getD_eq_getElem?_getD, List.getElem?_eq_getElem h]; rfl]
theorem vs_nil (l : List S103) (i : Nat) (h : l.length ≤ i) : vs (l.drop i) = [] := by rw [List.drop_of_length_le h]; rfl
theorem wrapi {i n : Nat} (h : i < n) (hn : n ≤ maxLen) : wrap64 ((i : Int) + 1) = ((i + 1 : Nat) : Int) := by
  have : maxLen = 9223372036854775807 := by with_unfolding_all rfl
  have e : wrap64 ((i : Int) + 1) = ((i : Int) + 1 + 9223372036854775808) % 18446744073709551616 - 9223372036854775808 := by with_unfolding_all rfl
  rw [e]; omega
theorem RCmp_f {k : Nat} (a b : S103) (hk : 1 ≤ k) : runnelref03_Cmp.f k a.f0 a.f1 a.f2 b.f0 b.f1 b.f2 = some (vcmp (toV a) (toV b)) := by
  obtain ⟨k, rfl⟩ : ∃ n, k = n + 1 := ⟨k - 1, by omega⟩
  unfold runnelref03_Cmp.f vcmp toV
  simp only [runnelref03_Cmp.j0]
  rw [cmpS_eq]
  unfold cmpI
  by_cases h1 : a.f0 = b.f0
  · by_cases h2 : a.f0 = 0
    · have h3 : ¬ (a.f0 = 1) := by omega
      simp only [h1] at h2 h3 ⊢
      by_cases h4 : a.f1 < b.f1
      · simp [h2, h4]
      · by_cases h5 : b.f1 < a.f1
        · simp [h2, h4, h5]
        · simp [h2, h4, h5]
    · by_cases h3 : a.f0 = 1
      · simp only [h1] at h2 h3 ⊢
        by_cases h4 : Op.bytesLess a.f2.toList b.f2.toList = true
        · simp [h3, h4]
        · by_cases h5 : Op.bytesLess b.f2.toList a.f2.toList = true
          · simp [h3, h4, h5]
          · simp [h3, h4, h5]
      · simp only [h1] at h2 h3 ⊢
        simp [h2, h3]
  · by_cases h4 : a.f0 < b.f0
    · simp [h1, h4]
    · by_cases h5 : b.f0 < a.f0
      · simp [h1, h4, h5]
      · omega
theorem ROrder_l0 (l m : List S103) (hm : l.length ≤ maxLen) (d : Nat) : ∀ (k i : Nat), i + d = l.length → i ≤ m.length → 2 * d + 2 < k →
    runnelref03_Order.l0 k l m (i : Int) = some (ord (vs (l.drop i)) (vs (m.drop i))) := by
  induction d with
  | zero =>
    intro k i hi him hk
    obtain ⟨k, rfl⟩ : ∃ n, k = n + 1 + 1 := ⟨k - 2, by omega⟩
    simp only [runnelref03_Order.l0, runnelref03_Order.j1]
    rw [if_neg (by omega), if_neg (show ¬ (false = true) by decide), vs_nil l i (by omega)]
    by_cases h : l.length < m.length
    · rw [if_pos (by omega), vs_drop m i (by omega)]; rfl
    · rw [if_neg (by omega), if_neg (by omega), vs_nil m i (by omega)]; rfl
  | succ d ih =>
    intro k i hi him hk
    obtain ⟨k, rfl⟩ : ∃ n, k = n + 1 + 1 := ⟨k - 2, by omega⟩
    simp only [runnelref03_Order.l0, runnelref03_Order.j1]
    rw [if_pos (by omega), vs_drop l i (by omega)]
    by_cases h : i < m.length
    · rw [decide_eq_true (by omega), if_pos rfl, if_pos (by omega), if_pos (by omega), if_pos (by omega), RCmp_f _ _ (by omega), vs_drop m i h]
      simp only [Option.bind_some]
      rw [wrapi (n := l.length) (by omega) hm, ih k (i + 1) (by omega) (by omega) (by omega)]
      show _ = some (if vcmp _ _ = 0 then ord _ _ else vcmp _ _)
      split <;> rfl
    · rw [decide_eq_false (by omega), if_neg (show ¬ (false = true) by decide), if_neg (by omega), if_pos (by omega), vs_nil m i (by omega)]; rfl
theorem ROrder_f {k : Nat} (l m : List S103) (hm : l.length ≤ maxLen) (hk : 2 * l.length + 2 < k) : runnelref03_Order.f k l m = some (ord (vs l) (vs m)) := by
  unfold runnelref03_Order.f
  exact ROrder_l0 l m hm l.length k 0 (by omega) (by omega) hk
theorem Long_l0 (l : List S103) (hm : l.length ≤ maxLen) (d : Nat) : ∀ (k i : Nat), i + d = l.length → d < k → ∃ b, runnelref03_Long.l0 k l (i : Int) = some b ∧ (b = false → ∀ x ∈ l.drop i, x.f2.size ≤ 5000) := by
  induction d with
  | zero =>
    intro k i hi hk
    obtain ⟨k, rfl⟩ : ∃ n, k = n + 1 := ⟨k - 1, by omega⟩
    simp only [runnelref03_Long.l0]
    rw [if_neg (by omega)]
    exact ⟨false, rfl, fun _ => by rw [List.drop_of_length_le (by omega)]; simp⟩
  | succ d ih =>
    intro k i hi hk
    obtain ⟨k, rfl⟩ : ∃ n, k = n + 1 := ⟨k - 1, by omega⟩
    simp only [runnelref03_Long.l0]
    rw [if_pos (by omega), if_pos (by omega)]
    have hi' : i < l.length := by omega
    have e : rd_T103 l (i : Int) = l[i] := by unfold rd_T103; rw [Int.toNat_natCast, List.getD_eq_getElem?_getD, List.getElem?_eq_getElem hi']; rfl
    rw [e]
    by_cases h : (l[i].f2.size : Int) > 5000
    · rw [if_pos h]; exact ⟨true, rfl, fun e => by cases e⟩
    · rw [if_neg h, wrapi (n := l.length) hi' hm]
      obtain ⟨b, hb, hf⟩ := ih k (i + 1) (by omega) (by omega)
      refine ⟨b, hb, fun e x hx => ?_⟩
      rw [List.drop_eq_getElem_cons hi'] at hx
      rcases List.mem_cons.1 hx with rfl | hx
      · omega
      · exact hf e x hx
theorem Long_f {k : Nat} (l : List S103) (hm : l.length ≤ maxLen) (hk : l.length < k) : ∃ b, runnelref03_Long.f k l = some b ∧ (b = false → l.length ≤ 30 ∧ ∀ x ∈ l, x.f2.size ≤ 5000) := by
  unfold runnelref03_Long.f
  by_cases h : (l.length : Int) > 30
  · rw [if_pos h]; exact ⟨true, rfl, fun e => by cases e⟩
  · rw [if_neg h]
    obtain ⟨b, hb, hf⟩ := Long_l0 l hm l.length k 0 (by omega) hk
    exact ⟨b, hb, fun e => ⟨by omega, by simpa using hf e⟩⟩
theorem rd_at (l : List S103) (i : Nat) (h : i < l.length) : rd_T103 l (i : Int) = l[i] := by unfold rd_T103; rw [Int.toNat_natCast, List.getD_eq_getElem?_getD, List.getElem?_eq_getElem h]; rfl
def chkL : List S103 → Int
  | [] => 0
  | x :: l => if x.f0 = 1 then (if (x.f2.size : Int) > 4096 then 2 else chkL l) else if x.f0 = 0 then chkL l else 8
def chk (l : List S103) : Int := if (l.length : Int) > 16 then 3 else chkL l
theorem Check_l0 (l : List S103) (hm : l.length ≤ maxLen) (d : Nat) : ∀ (k i : Nat), i + d = l.length → d < k → row_Check.l0 k l (l.length : Int) (i : Int) = some (chkL (l.drop i)) := by
  induction d with
  | zero =>
    intro k i hi hk
    obtain ⟨k, rfl⟩ : ∃ n, k = n + 1 := ⟨k - 1, by omega⟩
    simp only [row_Check.l0]
    rw [if_neg (by omega), List.drop_of_length_le (by omega)]; rfl
  | succ d ih =>
    intro k i hi hk
    obtain ⟨k, rfl⟩ : ∃ n, k = n + 1 := ⟨k - 1, by omega⟩
    have hi' : i < l.length := by omega
    simp only [row_Check.l0]
    rw [if_pos (by omega), if_pos (by omega), if_pos (by omega), rd_at l i hi', wrapi (n := l.length) hi' hm, ih k (i + 1) (by omega) (by omega), List.drop_eq_getElem_cons hi', chkL]
    split
    · split <;> rfl
    · split <;> rfl
theorem Check_f {k : Nat} (l : List S103) (hm : l.length ≤ maxLen) (hk : l.length < k) : row_Check.f k l = some (chk l) := by
  unfold row_Check.f chk
  have h := Check_l0 l hm l.length k 0 (by omega) hk
  rw [show ((0 : Nat) : Int) = 0 from rfl] at h
  rw [h]
  split <;> rfl
theorem RCheck_l0 (l : List S103) (hm : l.length ≤ maxLen) (d : Nat) : ∀ (k i : Nat), i + d = l.length → 2 * d + 1 < k → runnelref03_Check.l0 k l (i : Int) = some (chkL (l.drop i)) := by
  induction d with
  | zero =>
    intro k i hi hk
    obtain ⟨k, rfl⟩ : ∃ n, k = n + 1 := ⟨k - 1, by omega⟩
    simp only [runnelref03_Check.l0]
    rw [if_neg (by omega), List.drop_of_length_le (by omega)]; rfl
  | succ d ih =>
    intro k i hi hk
    obtain ⟨k, rfl⟩ : ∃ n, k = n + 1 + 1 := ⟨k - 2, by omega⟩
    have hi' : i < l.length := by omega
    have h1 := ih k (i + 1) (by omega) (by omega)
    simp only [runnelref03_Check.l0, runnelref03_Check.j1]
    have c1 : (i : Int) < (l.length : Int) := by omega
    have c2 : (0 : Int) ≤ (i : Int) := by omega
    rw [rd_at l i hi', wrapi (n := l.length) hi' hm, h1, List.drop_eq_getElem_cons hi', chkL]
    generalize l[i] = x
    simp only [if_pos c1, if_pos c2]
    by_cases h0 : x.f0 = 0
    · have h2 : ¬ x.f0 = 1 := by omega
      simp [h0]
    · by_cases h2 : x.f0 = 1
      · simp [h2]
        split <;> rfl
      · simp [h0, h2]
theorem RCheck_f {k : Nat} (l : List S103) (hm : l.length ≤ maxLen) (hk : 2 * l.length + 1 < k) : runnelref03_Check.f k l = some (chk l) := by
  unfold runnelref03_Check.f chk
  have h := RCheck_l0 l hm l.length k 0 (by omega) hk
  rw [show ((0 : Nat) : Int) = 0 from rfl] at h
  rw [h]
  split <;> rfl
def val1 (l : List Int) (at0 : Int) : Option (S103 × Int) :=
  if (l.length : Int) ≤ at0 then none
  else if rd l at0 = 0 then (if (NumPure.get l (at0 + 1)).2.2 = 0 then some (⟨0, zag (NumPure.get l (at0 + 1)).1, (⟨#[]⟩ : ByteArray)⟩, (NumPure.get l (at0 + 1)).2.1) else none)
  else if rd l at0 = 1 then (if (NumPure.get l (at0 + 1)).2.2 = 0 then (if 4096 < (NumPure.get l (at0 + 1)).1 then none else if (l.length : Int) - (NumPure.get l (at0 + 1)).2.1 < (NumPure.get l (at0 + 1)).1 then none
    else some (⟨1, 0, strOfNums ((l.take ((NumPure.get l (at0 + 1)).2.1 + (NumPure.get l (at0 + 1)).1).toNat).drop (NumPure.get l (at0 + 1)).2.1.toNat)⟩, (NumPure.get l (at0 + 1)).2.1 + (NumPure.get l (at0 + 1)).1)) else none)
  else none
def valN (l : List Int) : Nat → Int → Option (List S103 × Int)
  | 0, at0 => some ([], at0)
  | d + 1, at0 => (val1 l at0).bind fun v => (valN l d v.2).map fun r => (v.1 :: r.1, r.2)
def rget (l : List Int) (at0 : Int) : List S103 × Int × Int :=
  if (NumPure.get l at0).2.2 = 0 then (if 16 < (NumPure.get l at0).1 then ([], 0, 6) else (match valN l (NumPure.get l at0).1.toNat (NumPure.get l at0).2.1 with | none => ([], 0, 6) | some r => (r.1, r.2, 0))) else ([], 0, (NumPure.get l at0).2.2)
theorem get_next (l : List Int) (hl : ∀ x ∈ l, 0 ≤ x ∧ x < 256) (at0 : Int) : 0 ≤ (NumPure.get l at0).2.1 ∧ (NumPure.get l at0).2.1 ≤ (l.length : Int) ∧ 0 ≤ (NumPure.get l at0).1 ∧ (NumPure.get l at0).1 < 18446744073709551616 := by
  rcases get_ok l hl at0 with ⟨ho, _⟩ | ⟨ho, _⟩ | ⟨m, p, r, h1, h2, h3, ho⟩
  · rw [ho]; exact ⟨Int.le_refl _, by show (0 : Int) ≤ _; omega, Int.le_refl _, by decide⟩
  · rw [ho]; exact ⟨Int.le_refl _, by show (0 : Int) ≤ _; omega, Int.le_refl _, by decide⟩
  · have hL : l.length = p.length + ((enc m).length + r.length) := by rw [h2]; simp
    rw [ho]
    generalize (enc m).length = E at hL
    exact ⟨by show (0 : Int) ≤ ((p.length + E : Nat) : Int); omega, by show ((p.length + E : Nat) : Int) ≤ _; omega, by show (0 : Int) ≤ (m : Int); omega, by show (m : Int) < _; omega⟩
theorem val1_next (l : List Int) (hl : ∀ x ∈ l, 0 ≤ x ∧ x < 256) (at0 : Int) (v : S103) (n : Int) (h : val1 l at0 = some (v, n)) : 0 ≤ n ∧ n ≤ (l.length : Int) := by
  have hn := get_next l hl (at0 + 1)
  unfold val1 at h
  generalize NumPure.get l (at0 + 1) = g at h hn
  split at h
  · cases h
  · split at h
    · split at h
      · simp only [Option.some.injEq, Prod.mk.injEq] at h; omega
      · cases h
    · split at h
      · split at h
        · split at h
          · cases h
          · split at h
            · cases h
            · simp only [Option.some.injEq, Prod.mk.injEq] at h; omega
        · cases h
      · cases h
theorem rd_byte (l : List Int) (hl : ∀ x ∈ l, 0 ≤ x ∧ x < 256) (i : Int) : 0 ≤ rd l i ∧ rd l i < 256 := by
  unfold rd
  rw [List.getD_eq_getElem?_getD]
  by_cases h : i.toNat < l.length
  · rw [List.getElem?_eq_getElem h]; exact hl _ (List.getElem_mem _)
  · rw [List.getElem?_eq_none (by omega)]; exact ⟨Int.le_refl _, by decide⟩
theorem value_f {k : Nat} (l : List Int) (hl : ∀ x ∈ l, 0 ≤ x ∧ x < 256) (at0 : Int) (h0 : 0 ≤ at0) (hk : 2 * l.length + 8 ≤ k) (hc : l.length + 10 ≤ capN) :
    ∃ v n e, row_value.f k l at0 = some (v.f0, v.f1, v.f2, n, e) ∧ ((e = 0 ∧ val1 l at0 = some (v, n)) ∨ (e ≠ 0 ∧ val1 l at0 = none)) := by
  have hcc := cap_lt (Nat.le_trans (Nat.le_add_right _ _) hc)
  have hr := rd_byte l hl at0
  unfold row_value.f val1
  by_cases h1 : (l.length : Int) ≤ at0
  · rw [if_pos (show at0 ≥ (l.length : Int) from h1), if_pos h1]
    exact ⟨⟨0, 0, (⟨#[]⟩ : ByteArray)⟩, 0, 6, rfl, .inr ⟨by decide, rfl⟩⟩
  · rw [if_neg (show ¬ at0 ≥ (l.length : Int) from h1), if_neg h1, if_pos h0, if_pos (by omega), wrap_in (at0 + 1) (by omega) (by omega), wrap_in (rd l at0) (by omega) (by omega)]
    by_cases h2 : rd l at0 = 0
    · rw [if_pos h2, if_pos h2, getInt_f l hl (at0 + 1) hk hc]
      simp only [Option.bind_some]
      refine ⟨⟨rd l at0, _, _⟩, _, _, rfl, ?_⟩
      by_cases h3 : (NumPure.get l (at0 + 1)).2.2 = 0
      · rw [if_pos h3, h2]; exact .inl ⟨h3, rfl⟩
      · rw [if_neg h3]; exact .inr ⟨h3, rfl⟩
    · rw [if_neg h2, if_neg h2]
      by_cases h3 : rd l at0 = 1
      · rw [if_pos h3, if_pos h3, GetText_f l hl (at0 + 1) 4096 hk hc (by decide)]
        simp only [Option.bind_some]
        refine ⟨⟨rd l at0, 0, _⟩, _, _, rfl, ?_⟩
        rw [if_neg (show ¬ (4096 : Int) < 0 by decide)]
        generalize NumPure.get l (at0 + 1) = g
        by_cases h4 : g.2.2 = 0
        · rw [if_pos h4, if_pos h4]
          by_cases h5 : 4096 < g.1
          · rw [if_pos h5, if_pos h5]; exact .inr ⟨by decide, rfl⟩
          · rw [if_neg h5, if_neg h5]
            by_cases h6 : (l.length : Int) - g.2.1 < g.1
            · rw [if_pos h6, if_pos h6]; exact .inr ⟨by decide, rfl⟩
            · rw [if_neg h6, if_neg h6, h3]; exact .inl ⟨rfl, rfl⟩
        · rw [if_neg h4, if_neg h4]; exact .inr ⟨h4, rfl⟩
      · rw [if_neg h3, if_neg h3]
        exact ⟨⟨rd l at0, 0, (⟨#[]⟩ : ByteArray)⟩, 0, 6, rfl, .inr ⟨by decide, rfl⟩⟩
theorem Get_l0r (l : List Int) (hl : ∀ x ∈ l, 0 ≤ x ∧ x < 256) (hc : l.length + 10 ≤ capN) (n : Nat) (hn : n ≤ 16) (d : Nat) : ∀ (k i : Nat) (acc : List S103) (at0 : Int), 0 ≤ at0 → i + d = n → acc.length = i → 2 * l.length + 8 + d < k →
    row_Get.l0 k l acc at0 (n : Int) (i : Int) = some (match valN l d at0 with | none => ([], 0, 6) | some r => (acc ++ r.1, r.2, 0)) := by
  induction d with
  | zero =>
    intro k i acc at0 h0 hi ha hk
    obtain ⟨k, rfl⟩ : ∃ m, k = m + 1 := ⟨k - 1, by omega⟩
    simp only [row_Get.l0]
    rw [if_neg (by omega), valN]
    simp
  | succ d ih =>
    intro k i acc at0 h0 hi ha hk
    obtain ⟨k, rfl⟩ : ∃ m, k = m + 1 := ⟨k - 1, by omega⟩
    obtain ⟨v, m, e, hv, hcase⟩ := value_f (k := k) l hl at0 h0 (by omega) hc
    simp only [row_Get.l0]
    rw [if_pos (by omega), hv, valN]
    simp only [Option.bind_some]
    rcases hcase with ⟨he, h1⟩ | ⟨he, h1⟩
    · have hm := val1_next l hl at0 v m h1
      rw [if_pos he, if_pos (by omega), u64_in ((i : Int) + 1) (by omega) (by omega), show ((i : Int) + 1) = ((i + 1 : Nat) : Int) by omega, ih k (i + 1) _ m hm.1 (by omega) (by simp [ha]) (by omega), h1]
      simp only [Option.bind_some]
      cases valN l d m with
      | none => rfl
      | some r => simp
    · rw [if_neg he, h1]; rfl
theorem rget_f {k : Nat} (l : List Int) (hl : ∀ x ∈ l, 0 ≤ x ∧ x < 256) (at0 : Int) (hk : 2 * l.length + 30 ≤ k) (hc : l.length + 10 ≤ capN) : row_Get.f k l at0 = some (rget l at0) := by
  have hn := get_next l hl at0
  unfold row_Get.f rget
  rw [get_f l hl at0 (by omega) hc]
  simp only [Option.bind_some]
  generalize NumPure.get l at0 = g at hn ⊢
  obtain ⟨n, nx, e⟩ := g
  simp only at hn ⊢
  by_cases he : e = 0
  · rw [if_pos he, if_pos he]
    by_cases h16 : 16 < n
    · rw [if_pos (show n > 16 from h16), if_pos h16]
    · rw [if_neg (show ¬ n > 16 from h16), if_neg h16]
      obtain ⟨m, rfl⟩ := Int.eq_ofNat_of_zero_le hn.2.2.1
      have h1 := Get_l0r l hl hc m (by omega) m k 0 [] nx hn.1 (by omega) rfl (by omega)
      rw [show ((0 : Nat) : Int) = 0 from rfl] at h1
      rw [h1, Int.toNat_natCast]
      cases valN l m nx <;> rfl
  · rw [if_neg he, if_neg he]
def good (x : S103) : Prop := (x.f0 = 0 ∨ x.f0 = 1) ∧ (x.f0 = 1 → x.f2.size ≤ 4096) ∧ -9223372036854775808 ≤ x.f1 ∧ x.f1 ≤ 9223372036854775807
def item (x : S103) : List Int := x.f0 :: (if x.f0 = 0 then enc (zig x.f1) else txt x.f2)
def items : List S103 → List Int
  | [] => []
  | x :: l => item x ++ items l
def rbytes (l : List S103) : List Int := enc l.length ++ items l
theorem txt_length (s : ByteArray) (h : s.size ≤ 4096) : (txt s).length ≤ 4106 := by
  have h10 := enc_ten (n := s.size) (by omega)
  rw [txt, List.length_append, bytesOf_length]; omega
theorem item_length (x : S103) (h : good x) : (item x).length ≤ 4107 := by
  obtain ⟨h1, h2, h3, h4⟩ := h
  unfold item
  rw [List.length_cons]
  split
  · have := enc_ten (zig_lt x.f1 h3 h4); omega
  · have := txt_length x.f2 (h2 (by omega)); omega
theorem items_length (l : List S103) (h : ∀ x ∈ l, good x) : (items l).length ≤ 4107 * l.length := by
  induction l with
  | nil => simp [items]
  | cons x l ih =>
    have h1 := item_length x (h x (by simp))
    have h2 := ih (fun y hy => h y (by simp [hy]))
    rw [items, List.length_append, List.length_cons]
    omega
theorem chkL_good (l : List S103) (h : chkL l = 0) (hw : ∀ x ∈ l, (Lit.int .i64 x.f1).wf = true) : ∀ x ∈ l, good x := by
  induction l with
  | nil => intro x hx; cases hx
  | cons y l ih =>
    rw [chkL] at h
    intro x hx
    have hy := wf_i64 (hw y (by simp))
    by_cases h1 : y.f0 = 1
    · rw [if_pos h1] at h
      split at h
      · exact absurd h (by decide)
      · rename_i h2
        rcases List.mem_cons.1 hx with rfl | hx
        · exact ⟨.inr h1, fun _ => by omega, hy.1, hy.2⟩
        · exact ih h (fun z hz => hw z (by simp [hz])) x hx
    · rw [if_neg h1] at h
      split at h
      · rename_i h0
        rcases List.mem_cons.1 hx with rfl | hx
        · exact ⟨.inl h0, fun e => by omega, hy.1, hy.2⟩
        · exact ih h (fun z hz => hw z (by simp [hz])) x hx
      · exact absurd h (by decide)
theorem chk_good (l : List S103) (h : chk l = 0) (hw : ∀ x ∈ l, (Lit.int .i64 x.f1).wf = true) : l.length ≤ 16 ∧ ∀ x ∈ l, good x := by
  unfold chk at h
  split at h
  · exact absurd h (by decide)
  · exact ⟨by omega, chkL_good l h hw⟩
theorem Put_l0 (l : List S103) (hm : l.length ≤ 16) (hg : ∀ x ∈ l, good x) (d : Nat) : ∀ (k i : Nat) (acc : List Int), i + d = l.length → d + 12 < k → acc.length + 5000 * d + 10 ≤ capN →
    row_Put.l0 k acc l (l.length : Int) (i : Int) = some (acc ++ items (l.drop i), 0) := by
  induction d with
  | zero =>
    intro k i acc hi hk _
    obtain ⟨k, rfl⟩ : ∃ n, k = n + 1 := ⟨k - 1, by omega⟩
    simp only [row_Put.l0]
    rw [if_neg (by omega), List.drop_of_length_le (by omega), items, List.append_nil]
  | succ d ih =>
    intro k i acc hi hk hc
    obtain ⟨k, rfl⟩ : ∃ n, k = n + 1 := ⟨k - 1, by omega⟩
    have hi' : i < l.length := by omega
    have hx := hg l[i] (List.getElem_mem _)
    have hil := item_length l[i] hx
    have hwi : wrap64 ((i : Int) + 1) = ((i + 1 : Nat) : Int) := by rw [wrap_in _ (by omega) (by omega)]; omega
    simp only [row_Put.l0]
    rw [if_pos (by omega), if_pos (by omega), if_pos (by omega), if_pos (cap_lt (by omega)), rd_at l i hi', hwi, List.drop_eq_getElem_cons hi', items]
    simp only [Option.bind_some]
    generalize l[i] = x at hx hil ⊢
    obtain ⟨h1, h2, h3, h4⟩ := hx
    have h256 : x.f0 % 256 = x.f0 := by omega
    rw [h256]
    by_cases h0 : x.f0 = 0
    · have he : acc ++ [x.f0] ++ enc (zig x.f1) = acc ++ item x := by unfold item; rw [if_pos h0]; simp
      rw [if_pos h0, PutInt_f _ x.f1 h3 h4 (by omega) (by simp; omega), he]
      simp only [Option.bind_some]
      rw [ih k (i + 1) _ (by omega) (by omega) (by rw [List.length_append]; omega)]
      simp
    · have h5 := h2 (by omega)
      have he : acc ++ [x.f0] ++ txt x.f2 = acc ++ item x := by unfold item; rw [if_neg h0]; simp
      rw [if_neg h0, PutText_f _ x.f2 (by omega) (by simp; omega), he]
      simp only [Option.bind_some]
      rw [ih k (i + 1) _ (by omega) (by omega) (by rw [List.length_append]; omega)]
      simp
theorem rput_f {k : Nat} (b : List Int) (l : List S103) (hm : l.length ≤ maxLen) (hw : ∀ x ∈ l, (Lit.int .i64 x.f1).wf = true) (hk : l.length + 60 < k) (hb : b.length ≤ 900000000) : row_Put.f k b l = some (if chk l = 0 then (b ++ rbytes l, 0) else ([], chk l)) := by
  have hcg := cap_ge
  unfold row_Put.f
  rw [Check_f l hm (by omega)]
  simp only [Option.bind_some]
  by_cases h : chk l = 0
  · obtain ⟨h16, hg⟩ := chk_good l h hw
    have h10 := enc_ten (n := l.length) (by omega)
    rw [if_pos h, if_pos h, u64_in _ (by omega) (by omega), Put_f b (by omega) (by omega) (by omega)]
    simp only [Option.bind_some]
    have h1 := Put_l0 l h16 hg l.length k 0 (b ++ enc l.length) (by omega) (by omega) (by rw [List.length_append]; generalize (enc l.length).length = E at h10 ⊢; omega)
    rw [show ((0 : Nat) : Int) = 0 from rfl] at h1
    rw [h1, rbytes, List.drop_zero, List.append_assoc]
  · rw [if_neg h, if_neg h]
theorem RBytes_l0 (l : List S103) (hm : l.length ≤ 16) (hg : ∀ x ∈ l, good x) (d : Nat) : ∀ (k i : Nat) (acc : List Int), i + d = l.length → d + 12 < k → acc.length + 5000 * d + 10 ≤ capN →
    runnelref03_Bytes.l0 k l acc (i : Int) = some (acc ++ items (l.drop i)) := by
  have hcg := cap_ge
  induction d with
  | zero =>
    intro k i acc hi hk _
    obtain ⟨k, rfl⟩ : ∃ n, k = n + 1 := ⟨k - 1, by omega⟩
    simp only [runnelref03_Bytes.l0]
    rw [if_neg (by omega), List.drop_of_length_le (by omega), items, List.append_nil]
  | succ d ih =>
    intro k i acc hi hk hc
    obtain ⟨k, rfl⟩ : ∃ n, k = n + 1 := ⟨k - 1, by omega⟩
    have hi' : i < l.length := by omega
    have hx := hg l[i] (List.getElem_mem _)
    have hil := item_length l[i] hx
    have hwi : wrap64 ((i : Int) + 1) = ((i + 1 : Nat) : Int) := by rw [wrap_in _ (by omega) (by omega)]; omega
    have ca : acc.length < 140737488355328 := cap_lt (by omega)
    simp only [runnelref03_Bytes.l0]
    rw [if_pos (by omega), if_pos (by omega), rd_at l i hi', hwi, List.drop_eq_getElem_cons hi', items]
    simp only [if_pos ca, Option.bind_some]
    generalize l[i] = x at hx hil ⊢
    obtain ⟨h1, h2, h3, h4⟩ := hx
    by_cases h0 : x.f0 = 0
    · have hz := zig_lt x.f1 h3 h4
      have hz10 := enc_ten hz
      have he : acc ++ [0] ++ enc (zig x.f1) = acc ++ item x := by unfold item; rw [if_pos h0, h0]; simp
      rw [if_pos h0, Signed_f x.f1 h3 h4]
      simp only [Option.bind_some]
      rw [Bytes_f hz (by omega)]
      simp only [Option.bind_some]
      rw [if_pos (cap_lt (by rw [List.length_append, List.length_singleton]; omega)), he, ih k (i + 1) _ (by omega) (by omega) (by rw [List.length_append]; omega)]
      simp
    · have h01 : x.f0 = 1 := by omega
      have h5 := h2 h01
      have htl := txt_length x.f2 h5
      have he : acc ++ [1] ++ txt x.f2 = acc ++ item x := by unfold item; rw [if_neg h0, h01]; simp
      rw [if_neg h0, RText_f x.f2 (by omega) (by omega)]
      simp only [Option.bind_some]
      rw [if_pos (cap_lt (by rw [List.length_append, List.length_singleton]; omega)), he, ih k (i + 1) _ (by omega) (by omega) (by rw [List.length_append]; omega)]
      simp
theorem RBytes_f {k : Nat} (l : List S103) (h16 : l.length ≤ 16) (hg : ∀ x ∈ l, good x) (hk : l.length + 60 < k) : runnelref03_Bytes.f k l = some (rbytes l) := by
  have hcg := cap_ge
  have h10 := enc_ten (n := l.length) (by omega)
  unfold runnelref03_Bytes.f
  rw [u64_in _ (by omega) (by omega), Bytes_f (by omega) (by omega)]
  simp only [Option.bind_some]
  have h1 := RBytes_l0 l h16 hg l.length k 0 (enc l.length) (by omega) (by omega) (by generalize (enc l.length).length = E at h10 ⊢; omega)
  rw [show ((0 : Nat) : Int) = 0 from rfl] at h1
  rw [h1, rbytes, List.drop_zero]
def plain (x : S103) : S103 := if x.f0 = 0 then ⟨0, x.f1, (⟨#[]⟩ : ByteArray)⟩ else ⟨1, 0, x.f2⟩
theorem str_back (s : ByteArray) : strOfNums (bytesOf s) = s := by
  have h : (strOfNums (bytesOf s)).data.toList = s.data.toList := by
    have := str_bytesOf s
    rw [← str_of, toList_eq, toList_eq] at this
    exact this
  have h2 : (strOfNums (bytesOf s)).data = s.data := Array.toList_inj.1 h
  exact ByteArray.ext h2
theorem rd_app (p r : List Int) (b : Int) : rd (p ++ b :: r) (p.length : Int) = b := by
  unfold rd
  rw [Int.toNat_natCast, List.getD_eq_getElem?_getD, List.getElem?_append_right (Nat.le_refl _)]
  simp
theorem val1_item (p r : List Int) (x : S103) (h : good x) : val1 (p ++ (item x ++ r)) (p.length : Int) = some (plain x, ((p.length + (item x).length : Nat) : Int)) := by
  obtain ⟨h1, h2, h3, h4⟩ := h
  unfold val1 plain
  have e0 : p ++ (item x ++ r) = p ++ x.f0 :: ((if x.f0 = 0 then enc (zig x.f1) else txt x.f2) ++ r) := rfl
  have hrd : rd (p ++ (item x ++ r)) (p.length : Int) = x.f0 := by rw [e0, rd_app]
  have hlen : ¬ ((p ++ (item x ++ r)).length : Int) ≤ (p.length : Int) := by unfold item; simp; omega
  rw [if_neg hlen, hrd]
  by_cases h0 : x.f0 = 0
  · have hg := get_enc (p ++ [x.f0]) r (zig x.f1) (zig_lt x.f1 h3 h4) ((p.length : Int) + 1) (by simp)
    have e1 : p ++ (item x ++ r) = (p ++ [x.f0]) ++ (enc (zig x.f1) ++ r) := by unfold item; rw [if_pos h0]; simp
    rw [if_pos h0, if_pos h0, e1, hg]
    simp only [if_true]
    rw [show zag ((zig x.f1 : Nat) : Int) = x.f1 from zag_zig x.f1]
    unfold item
    rw [if_pos h0]
    simp only [List.length_append, List.length_singleton, List.length_cons, List.length_nil, Option.some.injEq, Prod.mk.injEq, true_and]
    omega
  · have h01 : x.f0 = 1 := by omega
    have h5 := h2 h01
    have hg := get_enc (p ++ [x.f0]) (bytesOf x.f2 ++ r) x.f2.size (by omega) ((p.length : Int) + 1) (by simp)
    have e1 : p ++ (item x ++ r) = (p ++ [x.f0]) ++ (enc x.f2.size ++ (bytesOf x.f2 ++ r)) := by unfold item txt; rw [if_neg h0]; simp
    have hbl := bytesOf_length x.f2
    obtain ⟨Q, hQ⟩ : ∃ Q, Q = p ++ [x.f0] := ⟨_, rfl⟩
    have hQl : Q.length = p.length + 1 := by rw [hQ]; simp
    rw [← hQ] at hg e1
    have hcut := cut_mid (Q ++ enc x.f2.size) (bytesOf x.f2) r (((Q.length + (enc x.f2.size).length : Nat) : Int) + (x.f2.size : Int)) ((Q.length + (enc x.f2.size).length : Nat) : Int) (by rw [List.length_append, hbl]; omega) (by rw [List.length_append])
    rw [List.append_assoc] at hcut
    have hL : ((Q ++ (enc x.f2.size ++ (bytesOf x.f2 ++ r))).length : Int) = (Q.length : Int) + (enc x.f2.size).length + x.f2.size + r.length := by simp [hbl]; omega
    rw [if_neg h0, if_neg h0, if_pos h01, e1, hg]
    simp only [if_true]
    rw [if_neg (by omega), if_neg (by rw [hL]; omega), hcut, str_back]
    unfold item txt
    rw [if_neg h0]
    simp only [List.length_append, List.length_singleton, List.length_cons, List.length_nil, Option.some.injEq, Prod.mk.injEq, true_and, hbl]
    omega
theorem valN_items (l : List S103) : ∀ (p r : List Int), (∀ x ∈ l, good x) → valN (p ++ (items l ++ r)) l.length (p.length : Int) = some (l.map plain, ((p.length + (items l).length : Nat) : Int)) := by
  induction l with
  | nil => intro p r _; rfl
  | cons x l ih =>
    intro p r h
    have h1 := val1_item p (items l ++ r) x (h x (by simp))
    have h2 := ih (p ++ item x) r (fun y hy => h y (by simp [hy]))
    have e : p ++ (items (x :: l) ++ r) = p ++ (item x ++ (items l ++ r)) := by rw [items]; simp
    have e2 : (p ++ item x) ++ (items l ++ r) = p ++ (item x ++ (items l ++ r)) := by simp
    rw [e2, List.length_append] at h2
    rw [List.length_cons, valN, e, h1]
    simp only [Option.bind_some]
    rw [h2, items, List.length_append, Nat.add_assoc]
    rfl
theorem rget_told (b r : List Int) (l : List S103) (h16 : l.length ≤ 16) (hg : ∀ x ∈ l, good x) : rget (b ++ (rbytes l ++ r)) (b.length : Int) = (l.map plain, ((b.length + (rbytes l).length : Nat) : Int), 0) := by
  have h1 := get_enc b (items l ++ r) l.length (by omega) (b.length : Int) rfl
  have e : b ++ (rbytes l ++ r) = b ++ (enc l.length ++ (items l ++ r)) := by rw [rbytes]; simp
  have h2 := valN_items l (b ++ enc l.length) r hg
  rw [List.append_assoc, List.length_append] at h2
  unfold rget
  rw [e, h1]
  simp only [if_true]
  rw [if_neg (by omega), Int.toNat_natCast, h2, rbytes, List.length_append, Nat.add_assoc]
theorem plain_same (l : List S103) (hg : ∀ x ∈ l, good x) : ord (vs (l.map plain)) (vs l) = 0 := by
  induction l with
  | nil => rfl
  | cons x l ih =>
    have h1 : vcmp (toV (plain x)) (toV x) = 0 := by
      unfold plain toV vcmp
      rcases (hg x (by simp)).1 with h0 | h0
      · simp only [h0, if_true]; exact cmpI_ok.refl _
      · simp [h0]; exact cmpS_ok.refl _
    show (if vcmp (toV (plain x)) (toV x) = 0 then ord (vs (l.map plain)) (vs l) else vcmp (toV (plain x)) (toV x)) = 0
    rw [if_pos h1]
    exact ih (fun y hy => hg y (by simp [hy]))
theorem rbytes_byte (l : List S103) (hg : ∀ x ∈ l, good x) : ∀ x ∈ rbytes l, 0 ≤ x ∧ x < 256 := by
  have h1 : ∀ m : List S103, (∀ x ∈ m, good x) → ∀ x ∈ items m, 0 ≤ x ∧ x < 256 := by
    intro m
    induction m with
    | nil => intro _ x hx; cases hx
    | cons y m ih =>
      intro hm x hx
      rw [items] at hx
      rcases List.mem_append.1 hx with hx | hx
      · unfold item at hx
        rcases List.mem_cons.1 hx with rfl | hx
        · have := (hm y (by simp)).1; omega
        · split at hx
          · exact enc_byte _ x hx
          · rcases List.mem_append.1 hx with hx | hx
            · exact enc_byte _ x hx
            · exact bytesOf_byte _ x hx
      · exact ih (fun z hz => hm z (by simp [hz])) x hx
  intro x hx
  rcases List.mem_append.1 hx with hx | hx
  · exact enc_byte _ x hx
  · exact h1 l hg x hx
theorem rbytes_length (l : List S103) (h16 : l.length ≤ 16) (hg : ∀ x ∈ l, good x) : (rbytes l).length ≤ 70000 := by
  have h1 := items_length l hg
  have h10 := enc_ten (n := l.length) (by omega)
  rw [rbytes, List.length_append]
  omega
theorem rdt_at (l : List S36) (i : Nat) (h : i < l.length) : rd_T36 l (i : Int) = l[i] := by unfold rd_T36; rw [Int.toNat_natCast, List.getD_eq_getElem?_getD, List.getElem?_eq_getElem h]; rfl
def tok (t : S36) : Prop := (-9223372036854775808 ≤ t.f0 ∧ t.f0 ≤ 9223372036854775807) ∧ -9223372036854775808 ≤ t.f1 ∧ t.f1 ≤ 9223372036854775807
def one (a : Int) : List Int := enc (zig a)
def titem (t : S36) : List Int := one t.f0 ++ one t.f1
def titems : List S36 → List Int
  | [] => []
  | t :: l => titem t ++ titems l
def tfront (l : List S36) : List Int := enc l.length ++ titems l
theorem one_length (a : Int) (h : -9223372036854775808 ≤ a) (h' : a ≤ 9223372036854775807) : (one a).length ≤ 10 := enc_ten (zig_lt a h h')
theorem titem_length (t : S36) (h : tok t) : (titem t).length ≤ 20 := by
  have h1 := one_length t.f0 h.1.1 h.1.2
  have h2 := one_length t.f1 h.2.1 h.2.2
  rw [titem, List.length_append]; omega
theorem titems_length (l : List S36) (h : ∀ t ∈ l, tok t) : (titems l).length ≤ 20 * l.length := by
  induction l with
  | nil => simp [titems]
  | cons t l ih =>
    have h1 := titem_length t (h t (by simp))
    have h2 := ih (fun y hy => h y (by simp [hy]))
    rw [titems, List.length_append, List.length_cons]; omega
theorem tfront_length (l : List S36) (hn : l.length ≤ 100000) (h : ∀ t ∈ l, tok t) : (tfront l).length ≤ 10 + 20 * l.length := by
  have h1 := titems_length l h
  have h2 := enc_ten (n := l.length) (by omega)
  rw [tfront, List.length_append]; omega
theorem one_byte (a : Int) : ∀ x ∈ one a, 0 ≤ x ∧ x < 256 := enc_byte _
theorem titems_byte (l : List S36) : ∀ x ∈ titems l, 0 ≤ x ∧ x < 256 := by
  induction l with
  | nil => intro x hx; cases hx
  | cons t l ih =>
    intro x hx
    rw [titems, titem] at hx
    rcases List.mem_append.1 hx with hx | hx
    · rcases List.mem_append.1 hx with hx | hx
      · exact one_byte _ x hx
      · exact one_byte _ x hx
    · exact ih x hx
theorem tfront_byte (l : List S36) : ∀ x ∈ tfront l, 0 ≤ x ∧ x < 256 := by
  intro x hx
  rcases List.mem_append.1 hx with hx | hx
  · exact enc_byte _ x hx
  · exact titems_byte l x hx
theorem putTime_f {k : Nat} (b : List Int) (t : S36) (h : tok t) (hk : 12 ≤ k) (hb : b.length + 20 ≤ capN) : wire_putTime.f k b t.f0 t.f1 = some (b ++ titem t) := by
  have h1 := one_length t.f0 h.1.1 h.1.2
  unfold wire_putTime.f
  rw [PutInt_f b t.f0 h.1.1 h.1.2 hk (by omega)]
  simp only [Option.bind_some]
  rw [show b ++ enc (zig t.f0) = b ++ one t.f0 from rfl, PutInt_f (b ++ one t.f0) t.f1 h.2.1 h.2.2 hk (by rw [List.length_append]; omega), titem, ← List.append_assoc]
  rfl
theorem PutFront_l0 (l : List S36) (hm : l.length ≤ 100000) (hg : ∀ t ∈ l, tok t) (d : Nat) : ∀ (k i : Nat) (acc : List Int), i + d = l.length → d + 12 < k → acc.length + 20 * d + 20 ≤ capN →
    wire_PutFront.l0 k acc l (l.length : Int) (i : Int) = some (acc ++ titems (l.drop i)) := by
  induction d with
  | zero =>
    intro k i acc hi hk _
    obtain ⟨k, rfl⟩ : ∃ n, k = n + 1 := ⟨k - 1, by omega⟩
    simp only [wire_PutFront.l0]
    rw [if_neg (by omega), List.drop_of_length_le (by omega), titems, List.append_nil]
  | succ d ih =>
    intro k i acc hi hk hc
    obtain ⟨k, rfl⟩ : ∃ n, k = n + 1 := ⟨k - 1, by omega⟩
    have hi' : i < l.length := by omega
    have hx := hg l[i] (List.getElem_mem _)
    have hil := titem_length l[i] hx
    have hwi : wrap64 ((i : Int) + 1) = ((i + 1 : Nat) : Int) := by rw [wrap_in _ (by omega) (by omega)]; omega
    simp only [wire_PutFront.l0]
    rw [if_pos (by omega), if_pos (by omega), if_pos (by omega), rdt_at l i hi', hwi, List.drop_eq_getElem_cons hi', titems, putTime_f acc _ hx (by omega) (by omega)]
    simp only [Option.bind_some]
    rw [ih k (i + 1) _ (by omega) (by omega) (by rw [List.length_append]; omega), List.append_assoc]
theorem PutFront_f {k : Nat} (b : List Int) (l : List S36) (hm : l.length ≤ 100000) (hg : ∀ t ∈ l, tok t) (hk : l.length + 20 < k) (hb : b.length ≤ 900000000) : wire_PutFront.f k b l = some (b ++ tfront l) := by
  have hcg := cap_ge
  have h10 := enc_ten (n := l.length) (by omega)
  unfold wire_PutFront.f
  rw [u64_in _ (by omega) (by omega), Put_f b (by omega) (by omega) (by omega)]
  simp only [Option.bind_some]
  have h1 := PutFront_l0 l hm hg l.length k 0 (b ++ enc l.length) (by omega) (by omega) (by rw [List.length_append]; generalize (enc l.length).length = E at h10 ⊢; omega)
  rw [show ((0 : Nat) : Int) = 0 from rfl] at h1
  rw [h1, List.drop_zero, tfront, List.append_assoc]
theorem Rone_f {k : Nat} (a : Int) (h : -9223372036854775808 ≤ a) (h' : a ≤ 9223372036854775807) (hk : 12 ≤ k) : runnelref26_one.f k a = some (one a) := by
  unfold runnelref26_one.f
  rw [Signed_f a h h']
  simp only [Option.bind_some]
  rw [Bytes_f (zig_lt a h h') hk]
  rfl
theorem Rtime_f {k : Nat} (t : S36) (h : tok t) (hk : 12 ≤ k) : runnelref26_time.f k t.f0 t.f1 = some (titem t) := by
  have hcg := cap_ge
  have h1 := one_length t.f0 h.1.1 h.1.2
  have h2 := one_length t.f1 h.2.1 h.2.2
  unfold runnelref26_time.f
  rw [Rone_f _ h.1.1 h.1.2 hk, Rone_f _ h.2.1 h.2.2 hk]
  simp only [Option.bind_some]
  rw [if_pos (cap_lt (by omega)), titem]
theorem RFront_l0 (l : List S36) (hm : l.length ≤ 100000) (hg : ∀ t ∈ l, tok t) (d : Nat) : ∀ (k i : Nat) (acc : List Int), i + d = l.length → d + 12 < k → acc.length + 20 * d + 20 ≤ capN →
    runnelref26_Front.l0 k l acc (i : Int) = some (acc ++ titems (l.drop i)) := by
  induction d with
  | zero =>
    intro k i acc hi hk _
    obtain ⟨k, rfl⟩ : ∃ n, k = n + 1 := ⟨k - 1, by omega⟩
    simp only [runnelref26_Front.l0]
    rw [if_neg (by omega), List.drop_of_length_le (by omega), titems, List.append_nil]
  | succ d ih =>
    intro k i acc hi hk hc
    obtain ⟨k, rfl⟩ : ∃ n, k = n + 1 := ⟨k - 1, by omega⟩
    have hi' : i < l.length := by omega
    have hx := hg l[i] (List.getElem_mem _)
    have hil := titem_length l[i] hx
    have hwi : wrap64 ((i : Int) + 1) = ((i + 1 : Nat) : Int) := by rw [wrap_in _ (by omega) (by omega)]; omega
    simp only [runnelref26_Front.l0]
    rw [if_pos (by omega), if_pos (by omega), rdt_at l i hi', hwi, List.drop_eq_getElem_cons hi', titems, Rtime_f _ hx (by omega)]
    simp only [Option.bind_some]
    rw [if_pos (cap_lt (by omega)), ih k (i + 1) _ (by omega) (by omega) (by rw [List.length_append]; omega), List.append_assoc]
theorem RFront_f {k : Nat} (l : List S36) (hm : l.length ≤ 100000) (hg : ∀ t ∈ l, tok t) (hk : l.length + 20 < k) : runnelref26_Front.f k l = some (tfront l) := by
  have hcg := cap_ge
  have h10 := enc_ten (n := l.length) (by omega)
  unfold runnelref26_Front.f
  rw [u64_in _ (by omega) (by omega), Bytes_f (by omega) (by omega)]
  simp only [Option.bind_some]
  have h1 := RFront_l0 l hm hg l.length k 0 (enc l.length) (by omega) (by omega) (by generalize (enc l.length).length = E at h10 ⊢; omega)
  rw [show ((0 : Nat) : Int) = 0 from rfl] at h1
  rw [h1, List.drop_zero, tfront]
def rint (l : List Int) (at0 e : Int) : Int × Int × Int := if e = 0 then (if (NumPure.get l at0).2.2 = 0 then (zag (NumPure.get l at0).1, (NumPure.get l at0).2.1, 0) else (0, at0, 6)) else (0, at0, e)
theorem rint_f {k : Nat} (l : List Int) (hl : ∀ x ∈ l, 0 ≤ x ∧ x < 256) (at0 e : Int) (hk : 2 * l.length + 8 ≤ k) (hc : l.length + 10 ≤ capN) : wire_reader_int.f k l at0 e = some (rint l at0 e) := by
  unfold wire_reader_int.f
  rw [getInt_f l hl at0 hk hc]
  simp only [Option.bind_some, wire_keep_int.f, rint]
  by_cases he : e = 0
  · subst he
    rw [if_pos rfl, if_pos rfl]
    by_cases h2 : (NumPure.get l at0).2.2 = 0
    · rw [if_pos h2, if_pos h2]; rfl
    · rw [if_neg h2, if_neg h2]; rfl
  · rw [if_neg he, if_neg he]; rfl
def nums (l : List Int) : Nat → Int → Option (List Int × Int)
  | 0, a => some ([], a)
  | d + 1, a => if (NumPure.get l a).2.2 = 0 then (nums l d (NumPure.get l a).2.1).map fun r => (zag (NumPure.get l a).1 :: r.1, r.2) else none
def rtime (l : List Int) (at0 e : Int) : Int × Int × Int × Int := ((rint l at0 e).1, (rint l (rint l at0 e).2.1 (rint l at0 e).2.2).1, (rint l (rint l at0 e).2.1 (rint l at0 e).2.2).2.1, (rint l (rint l at0 e).2.1 (rint l at0 e).2.2).2.2)
theorem rtime_f {k : Nat} (l : List Int) (hl : ∀ x ∈ l, 0 ≤ x ∧ x < 256) (at0 e : Int) (hk : 2 * l.length + 8 ≤ k) (hc : l.length + 10 ≤ capN) : wire_reader_time.f k l at0 e = some (rtime l at0 e) := by
  unfold wire_reader_time.f
  rw [rint_f l hl at0 e hk hc]
  simp only [Option.bind_some]
  rw [rint_f l hl _ _ hk hc]
  rfl
theorem rint_bad (l : List Int) (at0 e : Int) (he : e ≠ 0) : rint l at0 e = (0, at0, e) := by unfold rint; rw [if_neg he]
theorem rint_one (l : List Int) (at0 : Int) : (∃ a n, nums l 1 at0 = some ([a], n) ∧ rint l at0 0 = (a, n, 0)) ∨ (nums l 1 at0 = none ∧ rint l at0 0 = (0, at0, 6)) := by
  unfold rint
  rw [if_pos rfl, nums]
  by_cases he : (NumPure.get l at0).2.2 = 0
  · rw [if_pos he, if_pos he]
    exact .inl ⟨_, _, rfl, rfl⟩
  · rw [if_neg he, if_neg he]
    exact .inr ⟨rfl, rfl⟩
theorem nums_add (l : List Int) (a b : Nat) : ∀ at0 : Int, nums l (a + b) at0 = (nums l a at0).bind fun r => (nums l b r.2).map fun q => (r.1 ++ q.1, q.2) := by
  induction a with
  | zero => intro at0; rw [Nat.zero_add, nums]; simp
  | succ a ih =>
    intro at0
    rw [show a + 1 + b = (a + b) + 1 by omega, nums, nums]
    by_cases he : (NumPure.get l at0).2.2 = 0
    · rw [if_pos he, if_pos he, ih]
      cases nums l a (NumPure.get l at0).2.1 with
      | none => rfl
      | some r =>
        simp only [Option.bind_some, Option.map_some]
        cases nums l b r.2 <;> simp
    · rw [if_neg he, if_neg he]; rfl
theorem rtime_two (l : List Int) (at0 : Int) : (∃ a b n, nums l 2 at0 = some ([a, b], n) ∧ rtime l at0 0 = (a, b, n, 0)) ∨ (nums l 2 at0 = none ∧ (rtime l at0 0).2.2.2 = 6) := by
  rw [show (2 : Nat) = 1 + 1 from rfl, nums_add]
  unfold rtime
  rcases rint_one l at0 with ⟨a, n, h1, h2⟩ | ⟨h1, h2⟩
  · rw [h1, h2]
    simp only [Option.bind_some]
    rcases rint_one l n with ⟨b, m, h3, h4⟩ | ⟨h3, h4⟩
    · rw [h3, h4]; exact .inl ⟨a, b, m, rfl, rfl⟩
    · rw [h3, h4]; exact .inr ⟨rfl, rfl⟩
  · rw [h1, h2]
    simp only
    rw [rint_bad l at0 6 (by decide)]
    exact .inr ⟨rfl, rfl⟩
theorem rtime_bad (l : List Int) (at0 e : Int) (he : e ≠ 0) : rtime l at0 e = (0, 0, at0, e) := by
  unfold rtime
  rw [rint_bad l at0 e he]
  simp only
  rw [rint_bad l at0 e he]
def pairs : List Int → List S36
  | a :: b :: t => ⟨a, b⟩ :: pairs t
  | _ => []
def gfront (l : List Int) (at0 : Int) : List S36 × Int × Int := if (NumPure.get l at0).2.2 = 0 then (if 16 < (NumPure.get l at0).1 then ([], 0, 6) else (match nums l (2 * (NumPure.get l at0).1.toNat) (NumPure.get l at0).2.1 with | none => ([], 0, 6) | some r => (pairs r.1, r.2, 0))) else ([], 0, (NumPure.get l at0).2.2)
theorem GFront_bad (l : List Int) (hl : ∀ x ∈ l, 0 ≤ x ∧ x < 256) (hc : l.length + 10 ≤ capN) (n : Nat) (hn : n ≤ 16) (e : Int) (he : e ≠ 0) (d : Nat) : ∀ (k i : Nat) (acc : List S36) (at0 : Int), i + d = n → acc.length = i → 2 * l.length + 10 + d < k →
    wire_GetFront.l0 k acc (n : Int) (i : Int) l at0 e = some ([], 0, e) := by
  induction d with
  | zero =>
    intro k i acc at0 hi ha hk
    obtain ⟨k, rfl⟩ : ∃ n, k = n + 1 := ⟨k - 1, by omega⟩
    simp only [wire_GetFront.l0]
    rw [if_neg (by omega), if_neg he]
  | succ d ih =>
    intro k i acc at0 hi ha hk
    obtain ⟨k, rfl⟩ : ∃ n, k = n + 1 := ⟨k - 1, by omega⟩
    simp only [wire_GetFront.l0]
    rw [if_pos (by omega), rtime_f l hl at0 e (by omega) hc, rtime_bad l at0 e he]
    simp only [Option.bind_some]
    rw [if_pos (by omega), u64_in ((i : Int) + 1) (by omega) (by omega), show ((i : Int) + 1) = ((i + 1 : Nat) : Int) by omega, ih k (i + 1) _ at0 (by omega) (by simp [ha]) (by omega)]
theorem GFront_l0 (l : List Int) (hl : ∀ x ∈ l, 0 ≤ x ∧ x < 256) (hc : l.length + 10 ≤ capN) (n : Nat) (hn : n ≤ 16) (d : Nat) : ∀ (k i : Nat) (acc : List S36) (at0 : Int), i + d = n → acc.length = i → 2 * l.length + 10 + d < k →
    wire_GetFront.l0 k acc (n : Int) (i : Int) l at0 0 = some (match nums l (2 * d) at0 with | none => ([], 0, 6) | some r => (acc ++ pairs r.1, r.2, 0)) := by
  induction d with
  | zero =>
    intro k i acc at0 hi ha hk
    obtain ⟨k, rfl⟩ : ∃ n, k = n + 1 := ⟨k - 1, by omega⟩
    simp only [wire_GetFront.l0]
    rw [if_neg (by omega), if_pos trivial, show 2 * 0 = 0 from rfl, nums]
    simp [pairs]
  | succ d ih =>
    intro k i acc at0 hi ha hk
    obtain ⟨k, rfl⟩ : ∃ n, k = n + 1 := ⟨k - 1, by omega⟩
    simp only [wire_GetFront.l0]
    rw [if_pos (by omega), rtime_f l hl at0 0 (by omega) hc]
    simp only [Option.bind_some]
    rw [if_pos (by omega), u64_in ((i : Int) + 1) (by omega) (by omega), show ((i : Int) + 1) = ((i + 1 : Nat) : Int) by omega, show 2 * (d + 1) = 2 + 2 * d by omega, nums_add]
    rcases rtime_two l at0 with ⟨a, b, m, h1, h2⟩ | ⟨h1, h2⟩
    · rw [h1, h2]
      simp only [Option.bind_some]
      rw [ih k (i + 1) _ m (by omega) (by simp [ha]) (by omega)]
      cases nums l (2 * d) m with
      | none => rfl
      | some r => simp [pairs]
    · rw [h1, h2, GFront_bad l hl hc n hn 6 (by decide) d k (i + 1) _ _ (by omega) (by simp [ha]) (by omega)]
      rfl
theorem gfront_f {k : Nat} (l : List Int) (hl : ∀ x ∈ l, 0 ≤ x ∧ x < 256) (hc : l.length + 10 ≤ capN) (at0 : Int) (hk : 2 * l.length + 60 ≤ k) : wire_GetFront.f k l at0 = some (gfront l at0) := by
  have hg := got_range l hl at0
  unfold wire_GetFront.f gfront
  rw [get_f l hl at0 (by omega) hc]
  simp only [Option.bind_some]
  generalize NumPure.get l at0 = g at hg ⊢
  obtain ⟨m, nx, e⟩ := g
  simp only at hg ⊢
  by_cases he : e = 0
  · rw [if_pos he, if_pos he]
    by_cases h16 : 16 < m
    · rw [if_pos (show m > 16 from h16), if_pos h16]
    · rw [if_neg (show ¬ m > 16 from h16), if_neg h16]
      obtain ⟨n, rfl⟩ := Int.eq_ofNat_of_zero_le hg.1
      have h1 := GFront_l0 l hl hc n (by omega) n k 0 [] nx (by omega) rfl (by omega)
      rw [show ((0 : Nat) : Int) = 0 from rfl] at h1
      rw [h1, Int.toNat_natCast]
      cases nums l (2 * n) nx <;> rfl
  · rw [if_neg he, if_neg he]
theorem TSame_l0 (l : List S36) (hm : l.length ≤ 100000) (d : Nat) : ∀ (k i : Nat), i + d = l.length → d < k → runnelref04_Same.l0 k l l (i : Int) = some true := by
  induction d with
  | zero =>
    intro k i hi hk
    obtain ⟨k, rfl⟩ : ∃ n, k = n + 1 := ⟨k - 1, by omega⟩
    simp only [runnelref04_Same.l0]
    rw [if_neg (by omega)]
  | succ d ih =>
    intro k i hi hk
    obtain ⟨k, rfl⟩ : ∃ n, k = n + 1 := ⟨k - 1, by omega⟩
    have hwi : wrap64 ((i : Int) + 1) = ((i + 1 : Nat) : Int) := by rw [wrap_in _ (by omega) (by omega)]; omega
    simp only [runnelref04_Same.l0]
    rw [if_pos (by omega), if_pos (by omega), if_pos (by omega), if_neg (by simp), hwi, ih k (i + 1) (by omega) (by omega)]
theorem TSame_refl {k : Nat} (l : List S36) (hm : l.length ≤ 100000) (hk : l.length < k) : runnelref04_Same.f k l l = some true := by
  unfold runnelref04_Same.f
  rw [if_pos rfl]
  exact TSame_l0 l hm l.length k 0 (by omega) hk
theorem live_60 : runnellaw26_live.f 60 = some true := by decide +kernel
theorem live_f {k : Nat} (hk : 60 ≤ k) : runnellaw26_live.f k = some true := at_rounds runnellaw26_live.mono hk live_60
abbrev Cm : Type := Int × Int × (List (S103)) × Int × Int × Int × (List (S36)) × Int × List Int × Int × Int
def cz (e : Int) : Cm := (0, 0, [], 0, 0, 0, [], 0, [], 0, e)
def gtext (l : List Int) (at0 most : Int) : ByteArray × Int × Int := if (NumPure.get l at0).2.2 = 0 then
      (if most < (NumPure.get l at0).1 then ((⟨#[]⟩ : ByteArray), 0, 2) else if (l.length : Int) - (NumPure.get l at0).2.1 < (NumPure.get l at0).1 then ((⟨#[]⟩ : ByteArray), 0, 6)
       else (strOfNums ((l.take ((NumPure.get l at0).2.1 + (NumPure.get l at0).1).toNat).drop (NumPure.get l at0).2.1.toNat), (NumPure.get l at0).2.1 + (NumPure.get l at0).1, 0))
      else ((⟨#[]⟩ : ByteArray), 0, (NumPure.get l at0).2.2)
theorem gtext_f {k : Nat} (l : List Int) (hl : ∀ x ∈ l, 0 ≤ x ∧ x < 256) (at0 most : Int) (hk : 2 * l.length + 8 ≤ k) (hc : l.length + 10 ≤ capN) (h0 : 0 ≤ most) (hm : most ≤ 9223372036854775807) : num_GetText.f k l at0 most = some (gtext l at0 most) := by
  rw [GetText_f l hl at0 most hk hc hm, if_neg (by omega)]; rfl
theorem gtext_size (l : List Int) (at0 most : Int) (hc : l.length + 10 ≤ capN) : (gtext l at0 most).1.size < 140737488355328 := by
  have hcc := cap_lt (Nat.le_trans (Nat.le_add_right _ _) hc)
  unfold gtext
  split
  · split
    · show (0 : Nat) < _; decide
    · split
      · show (0 : Nat) < _; decide
      · show (strOfNums _).size < _
        rw [strOfNums_size]
        have : ((l.take ((NumPure.get l at0).2.1 + (NumPure.get l at0).1).toNat).drop (NumPure.get l at0).2.1.toNat).length ≤ l.length := by rw [List.length_drop, List.length_take]; omega
        omega
  · show (0 : Nat) < _; decide
theorem main_f (s : ByteArray) (h : s.size < 140737488355328) : main_main.f s = some (bytesOf s) := by unfold main_main.f; rw [if_pos h]
def cget (l : List Int) (at0 : Int) : Cm :=
  if at0 < 0 ∨ (l.length : Int) < at0 then cz 9
  else if at0 = (l.length : Int) ∨ 6 < rd l at0 then cz 6
  else if rd l at0 = 0 then (if (gtext l (at0 + 1) 65536).2.2 = 0 then (0, 0, [], 0, 0, 0, [], 0, bytesOf (gtext l (at0 + 1) 65536).1, (gtext l (at0 + 1) 65536).2.1, 0) else cz 6)
  else match nums l 1 (at0 + 1) with
    | none => cz 6
    | some r => if rd l at0 = 1 then (if (rget l r.2).2.2 = 0 then (match nums l 3 (rget l r.2).2.1 with | none => cz 6 | some q => (1, rd r.1 0, (rget l r.2).1, rd q.1 0, rd q.1 1, rd q.1 2, [], 0, [], q.2, 0)) else cz 6)
      else if rd l at0 = 2 ∨ rd l at0 = 4 then (if (gfront l r.2).2.2 = 0 then (rd l at0, rd r.1 0, [], 0, 0, 0, (gfront l r.2).1, 0, [], (gfront l r.2).2.1, 0) else cz 6)
      else if rd l at0 = 3 then (match nums l 1 r.2 with | none => cz 6 | some q => (3, rd r.1 0, [], 0, 0, 0, [], rd q.1 0, [], q.2, 0))
      else if rd l at0 = 5 then (match nums l 2 r.2 with | none => cz 6 | some q => (5, rd r.1 0, [], rd q.1 0, rd q.1 1, 0, [], 0, [], q.2, 0))
      else (6, rd r.1 0, [], 0, 0, 0, [], 0, [], r.2, 0)
def useOf (d : Int) : Int := if d = 0 then 4 else if d = 1 then 9 else if d = 2 ∨ d = 4 then 33 else if d = 3 then 3 else if d = 5 then 17 else if d = 6 then 1 else 0
theorem uses_f {k : Nat} (d : Int) (hk : 1 ≤ k) : wire_uses.f k d = some (useOf d) := by
  obtain ⟨k, rfl⟩ : ∃ n, k = n + 1 := ⟨k - 1, by omega⟩
  unfold wire_uses.f useOf
  by_cases e0 : d = 0
  · rw [if_pos e0, if_pos e0]
  rw [if_neg e0, if_neg e0]
  by_cases e1 : d = 1
  · rw [if_pos e1, if_pos e1]
  rw [if_neg e1, if_neg e1]
  by_cases e2 : d = 2
  · rw [if_pos e2, if_pos (.inl e2), e2]; simp [wire_uses.j0]
  rw [if_neg e2]
  simp only [wire_uses.j0]
  by_cases e4 : d = 4
  · rw [if_pos (by simp [e4]), if_pos (.inr e4)]
  rw [if_neg (by simp [e4]), if_neg (show ¬ (d = 2 ∨ d = 4) by omega)]
  by_cases e3 : d = 3
  · rw [if_pos e3, if_pos e3]
  rw [if_neg e3, if_neg e3]
  by_cases e5 : d = 5
  · rw [if_pos e5, if_pos e5]
  rw [if_neg e5, if_neg e5]
  by_cases e6 : d = 6
  · rw [if_pos e6, if_pos e6]
  · rw [if_neg e6, if_neg e6]
theorem up_f {k : Nat} (l : List Int) (hl : ∀ x ∈ l, 0 ≤ x ∧ x < 256) (hc : l.length + 10 ≤ capN) (at0 e : Int) (hk : 2 * l.length + 30 ≤ k) : wire_reader_up.f k l at0 e = some (
    if e = 0 then (if (rget l at0).2.2 = 0 then ((rget l at0).1, (rtime l (rget l at0).2.1 0).1, (rtime l (rget l at0).2.1 0).2.1, (rint l (rtime l (rget l at0).2.1 0).2.2.1 (rtime l (rget l at0).2.1 0).2.2.2).1, (rint l (rtime l (rget l at0).2.1 0).2.2.1 (rtime l (rget l at0).2.1 0).2.2.2).2.1, (rint l (rtime l (rget l at0).2.1 0).2.2.1 (rtime l (rget l at0).2.1 0).2.2.2).2.2) else ([], 0, 0, 0, at0, 6)) else ([], 0, 0, 0, at0, e)) := by
  unfold wire_reader_up.f
  rw [rget_f l hl at0 hk hc]
  simp only [Option.bind_some, api_Row.f]
  by_cases he : e = 0
  · subst he
    rw [if_pos rfl, if_pos rfl]
    by_cases h2 : (rget l at0).2.2 = 0
    · rw [if_pos h2, if_pos h2]
      simp only [Option.bind_some]
      rw [rtime_f l hl _ _ (by omega) hc]
      simp only [Option.bind_some]
      rw [rint_f l hl _ _ (by omega) hc]
      rfl
    · rw [if_neg h2, if_neg h2]
      simp only [Option.bind_some]
      rw [rtime_f l hl _ _ (by omega) hc, rtime_bad l at0 6 (by decide)]
      simp only [Option.bind_some]
      rw [rint_f l hl _ _ (by omega) hc, rint_bad l at0 6 (by decide)]
      rfl
  · rw [if_neg he, if_neg he]
    simp only [Option.bind_some]
    rw [rtime_f l hl _ _ (by omega) hc, rtime_bad l at0 e he]
    simp only [Option.bind_some]
    rw [rint_f l hl _ _ (by omega) hc, rint_bad l at0 e he]
    rfl
theorem front_f {k : Nat} (l : List Int) (hl : ∀ x ∈ l, 0 ≤ x ∧ x < 256) (hc : l.length + 10 ≤ capN) (at0 e : Int) (hk : 2 * l.length + 60 ≤ k) : wire_reader_front.f k l at0 e = some (
    if e = 0 then (if (gfront l at0).2.2 = 0 then ((gfront l at0).1, (gfront l at0).2.1, 0) else ([], at0, 6)) else ([], at0, e)) := by
  unfold wire_reader_front.f
  rw [gfront_f l hl hc at0 hk]
  simp only [Option.bind_some, api_Time_64.f]
  by_cases he : e = 0
  · subst he
    rw [if_pos rfl, if_pos rfl]
    by_cases h2 : (gfront l at0).2.2 = 0
    · rw [if_pos h2, if_pos h2]; rfl
    · rw [if_neg h2, if_neg h2]; rfl
  · rw [if_neg he, if_neg he]; rfl
theorem three (l : List Int) (at0 : Int) : (∃ a b c n, nums l 3 at0 = some ([a, b, c], n) ∧ rtime l at0 0 = (a, b, (rtime l at0 0).2.2.1, 0) ∧ rint l (rtime l at0 0).2.2.1 0 = (c, n, 0)) ∨ (nums l 3 at0 = none ∧ (rint l (rtime l at0 0).2.2.1 (rtime l at0 0).2.2.2).2.2 = 6) := by
  rw [show (3 : Nat) = 2 + 1 from rfl, nums_add]
  rcases rtime_two l at0 with ⟨a, b, n, h1, h2⟩ | ⟨h1, h2⟩
  · rw [h1, h2]
    simp only [Option.bind_some]
    rcases rint_one l n with ⟨c, m, h3, h4⟩ | ⟨h3, h4⟩
    · rw [h3, h4]; exact .inl ⟨a, b, c, m, rfl, rfl, rfl⟩
    · rw [h3, h4]; exact .inr ⟨rfl, rfl⟩
  · rw [h1, h2, rint_bad l _ 6 (by decide)]
    exact .inr ⟨rfl, rfl⟩
theorem b4_1 : (Go.bits .and .i64 4 1 > 0) = False := by simp only [eq_iff_iff, iff_true, iff_false]; decide +kernel
theorem b4_2 : (Go.bits .and .i64 4 2 > 0) = False := by simp only [eq_iff_iff, iff_true, iff_false]; decide +kernel
theorem b4_4 : (Go.bits .and .i64 4 4 > 0) = True := by simp only [eq_iff_iff, iff_true, iff_false]; decide +kernel
theorem b4_8 : (Go.bits .and .i64 4 8 > 0) = False := by simp only [eq_iff_iff, iff_true, iff_false]; decide +kernel
theorem b4_16 : (Go.bits .and .i64 4 16 > 0) = False := by simp only [eq_iff_iff, iff_true, iff_false]; decide +kernel
theorem b4_32 : (Go.bits .and .i64 4 32 > 0) = False := by simp only [eq_iff_iff, iff_true, iff_false]; decide +kernel
theorem b9_1 : (Go.bits .and .i64 9 1 > 0) = True := by simp only [eq_iff_iff, iff_true, iff_false]; decide +kernel
theorem b9_2 : (Go.bits .and .i64 9 2 > 0) = False := by simp only [eq_iff_iff, iff_true, iff_false]; decide +kernel
theorem b9_4 : (Go.bits .and .i64 9 4 > 0) = False := by simp only [eq_iff_iff, iff_true, iff_false]; decide +kernel
theorem b9_8 : (Go.bits .and .i64 9 8 > 0) = True := by simp only [eq_iff_iff, iff_true, iff_false]; decide +kernel
theorem b9_16 : (Go.bits .and .i64 9 16 > 0) = False := by simp only [eq_iff_iff, iff_true, iff_false]; decide +kernel
theorem b9_32 : (Go.bits .and .i64 9 32 > 0) = False := by simp only [eq_iff_iff, iff_true, iff_false]; decide +kernel
theorem b33_1 : (Go.bits .and .i64 33 1 > 0) = True := by simp only [eq_iff_iff, iff_true, iff_false]; decide +kernel
theorem b33_2 : (Go.bits .and .i64 33 2 > 0) = False := by simp only [eq_iff_iff, iff_true, iff_false]; decide +kernel
theorem b33_4 : (Go.bits .and .i64 33 4 > 0) = False := by simp only [eq_iff_iff, iff_true, iff_false]; decide +kernel
theorem b33_8 : (Go.bits .and .i64 33 8 > 0) = False := by simp only [eq_iff_iff, iff_true, iff_false]; decide +kernel
theorem b33_16 : (Go.bits .and .i64 33 16 > 0) = False := by simp only [eq_iff_iff, iff_true, iff_false]; decide +kernel
theorem b33_32 : (Go.bits .and .i64 33 32 > 0) = True := by simp only [eq_iff_iff, iff_true, iff_false]; decide +kernel
theorem b3_1 : (Go.bits .and .i64 3 1 > 0) = True := by simp only [eq_iff_iff, iff_true, iff_false]; decide +kernel
theorem b3_2 : (Go.bits .and .i64 3 2 > 0) = True := by simp only [eq_iff_iff, iff_true, iff_false]; decide +kernel
theorem b3_4 : (Go.bits .and .i64 3 4 > 0) = False := by simp only [eq_iff_iff, iff_true, iff_false]; decide +kernel
theorem b3_8 : (Go.bits .and .i64 3 8 > 0) = False := by simp only [eq_iff_iff, iff_true, iff_false]; decide +kernel
theorem b3_16 : (Go.bits .and .i64 3 16 > 0) = False := by simp only [eq_iff_iff, iff_true, iff_false]; decide +kernel
theorem b3_32 : (Go.bits .and .i64 3 32 > 0) = False := by simp only [eq_iff_iff, iff_true, iff_false]; decide +kernel
theorem b17_1 : (Go.bits .and .i64 17 1 > 0) = True := by simp only [eq_iff_iff, iff_true, iff_false]; decide +kernel
theorem b17_2 : (Go.bits .and .i64 17 2 > 0) = False := by simp only [eq_iff_iff, iff_true, iff_false]; decide +kernel
theorem b17_4 : (Go.bits .and .i64 17 4 > 0) = False := by simp only [eq_iff_iff, iff_true, iff_false]; decide +kernel
theorem b17_8 : (Go.bits .and .i64 17 8 > 0) = False := by simp only [eq_iff_iff, iff_true, iff_false]; decide +kernel
theorem b17_16 : (Go.bits .and .i64 17 16 > 0) = True := by simp only [eq_iff_iff, iff_true, iff_false]; decide +kernel
theorem b17_32 : (Go.bits .and .i64 17 32 > 0) = False := by simp only [eq_iff_iff, iff_true, iff_false]; decide +kernel
theorem b1_1 : (Go.bits .and .i64 1 1 > 0) = True := by simp only [eq_iff_iff, iff_true, iff_false]; decide +kernel
theorem b1_2 : (Go.bits .and .i64 1 2 > 0) = False := by simp only [eq_iff_iff, iff_true, iff_false]; decide +kernel
theorem b1_4 : (Go.bits .and .i64 1 4 > 0) = False := by simp only [eq_iff_iff, iff_true, iff_false]; decide +kernel
theorem b1_8 : (Go.bits .and .i64 1 8 > 0) = False := by simp only [eq_iff_iff, iff_true, iff_false]; decide +kernel
theorem b1_16 : (Go.bits .and .i64 1 16 > 0) = False := by simp only [eq_iff_iff, iff_true, iff_false]; decide +kernel
theorem b1_32 : (Go.bits .and .i64 1 32 > 0) = False := by simp only [eq_iff_iff, iff_true, iff_false]; decide +kernel
theorem cget_f {k : Nat} (l : List Int) (hl : ∀ x ∈ l, 0 ≤ x ∧ x < 256) (hc : l.length + 10 ≤ capN) (at0 : Int) (hk : 2 * l.length + 200 ≤ k) : wire_Get.f k l at0 = some (cget l at0) := by
  have hcc := cap_lt (Nat.le_trans (Nat.le_add_right _ _) hc)
  have hr := rd_byte l hl at0
  obtain ⟨k, rfl⟩ : ∃ n, k = n + 6 := ⟨k - 6, by omega⟩
  unfold wire_Get.f cget
  by_cases h1 : at0 < 0
  · rw [if_pos h1, if_pos (.inl h1)]; simp only [wire_Get.j0]; rfl
  rw [if_neg h1]
  by_cases h2 : (l.length : Int) < at0
  · rw [if_pos (.inr h2), decide_eq_true (show at0 > (l.length : Int) from h2)]; simp only [wire_Get.j0]; rfl
  rw [if_neg (show ¬ (at0 < 0 ∨ (l.length : Int) < at0) by omega), decide_eq_false (show ¬ at0 > (l.length : Int) from h2)]
  simp only [wire_Get.j0]
  rw [if_neg (show ¬ (false = true) by decide)]
  by_cases h3 : at0 = (l.length : Int)
  · rw [if_pos h3, if_pos (.inl h3)]; rfl
  rw [if_neg h3, if_pos (show 0 ≤ at0 by omega), if_pos (show at0 < (l.length : Int) by omega), wrap_in (rd l at0) (by omega) (by omega), wrap_in (at0 + 1) (by omega) (by omega), uses_f _ (by omega)]
  simp only [Option.bind_some]
  generalize hd : rd l at0 = d at hr ⊢
  by_cases h4 : 6 < d
  · have hu : useOf d = 0 := by
      unfold useOf
      rw [if_neg (by omega), if_neg (by omega), if_neg (by omega), if_neg (by omega), if_neg (by omega), if_neg (by omega)]
    rw [if_pos hu, if_pos (.inr h4)]; rfl
  rw [if_neg (show ¬ (at0 = (l.length : Int) ∨ 6 < d) by omega)]
  have hone : d ≠ 0 → (rint l (at0 + 1) 0 = (0, at0 + 1, 6) ∧ nums l 1 (at0 + 1) = none) ∨ ∃ a n, rint l (at0 + 1) 0 = (a, n, 0) ∧ nums l 1 (at0 + 1) = some ([a], n) := fun _ => by
    rcases rint_one l (at0 + 1) with ⟨a, n, x, y⟩ | ⟨x, y⟩
    · exact .inr ⟨a, n, y, x⟩
    · exact .inl ⟨y, x⟩
  rcases (show d = 0 ∨ d = 1 ∨ d = 2 ∨ d = 3 ∨ d = 4 ∨ d = 5 ∨ d = 6 by omega) with e | e | e | e | e | e | e
  · subst e
    rw [show useOf 0 = 4 from rfl]
    simp only [wire_Get.j1, wire_Get.j2, wire_Get.j3, wire_Get.j4, wire_Get.j5, b4_1, b4_2, b4_4, b4_8, b4_16, b4_32, if_true, if_false]
    rw [if_neg (by decide), gtext_f l hl (at0 + 1) 65536 (by omega) hc (by decide) (by decide)]
    simp only [Option.bind_some, wire_keep_string.f, if_true]
    by_cases h6 : (gtext l (at0 + 1) 65536).2.2 = 0
    · rw [if_pos h6, if_pos h6]
      simp only [Option.bind_some]
      rw [main_f _ (gtext_size l _ _ hc)]
      rfl
    · rw [if_neg h6, if_neg h6]
      simp only [Option.bind_some]
      rw [main_f _ (by decide)]
      rfl
  all_goals rcases hone (by omega) with ⟨hx, hq⟩ | ⟨a, n, hx, hq⟩
  · subst e
    rw [show useOf 1 = 9 from rfl, hq]
    simp only [wire_Get.j1, wire_Get.j2, wire_Get.j3, wire_Get.j4, wire_Get.j5, b9_1, b9_2, b9_4, b9_8, b9_16, b9_32, if_true, if_false]
    rw [if_neg (by decide), rint_f l hl _ _ (by omega) hc, hx]
    simp only [Option.bind_some]
    rw [up_f l hl hc _ _ (by omega)]
    rfl
  · subst e
    rw [show useOf 1 = 9 from rfl, hq]
    simp only [wire_Get.j1, wire_Get.j2, wire_Get.j3, wire_Get.j4, wire_Get.j5, b9_1, b9_2, b9_4, b9_8, b9_16, b9_32, if_true, if_false]
    rw [if_neg (by decide), rint_f l hl _ _ (by omega) hc, hx]
    simp only [Option.bind_some]
    rw [up_f l hl hc _ _ (by omega), if_pos rfl]
    simp only [Option.bind_some]
    by_cases h7 : (rget l n).2.2 = 0
    · rw [if_pos h7, if_pos h7]
      rcases three l (rget l n).2.1 with ⟨x, y, z, m, t1, t2, t3⟩ | ⟨t1, t2⟩
      · rw [t1]
        have t4 := congrArg (fun q => q.1) t2
        have t5 := congrArg (fun q => q.2.1) t2
        have t6 := congrArg (fun q => q.2.2.2) t2
        simp only at t4 t5 t6
        rw [t4, t5, t6, t3]
        rfl
      · rw [t1]
        simp only
        rw [t2]
        rfl
    · rw [if_neg h7, if_neg h7]
      rfl
  · subst e
    rw [show useOf 2 = 33 from rfl, hq]
    simp only [wire_Get.j1, wire_Get.j2, wire_Get.j3, wire_Get.j4, wire_Get.j5, b33_1, b33_2, b33_4, b33_8, b33_16, b33_32, if_true, if_false]
    rw [if_neg (by decide), rint_f l hl _ _ (by omega) hc, hx]
    simp only [Option.bind_some]
    rw [front_f l hl hc _ _ (by omega)]
    rfl
  · subst e
    rw [show useOf 2 = 33 from rfl, hq]
    simp only [wire_Get.j1, wire_Get.j2, wire_Get.j3, wire_Get.j4, wire_Get.j5, b33_1, b33_2, b33_4, b33_8, b33_16, b33_32, if_true, if_false]
    rw [if_neg (by decide), rint_f l hl _ _ (by omega) hc, hx]
    simp only [Option.bind_some]
    rw [front_f l hl hc _ _ (by omega), if_pos rfl]
    by_cases h7 : (gfront l n).2.2 = 0
    · rw [if_pos h7, if_pos h7]; rfl
    · rw [if_neg h7, if_neg h7]; rfl
  · subst e
    rw [show useOf 3 = 3 from rfl, hq]
    simp only [wire_Get.j1, wire_Get.j2, wire_Get.j3, wire_Get.j4, wire_Get.j5, b3_1, b3_2, b3_4, b3_8, b3_16, b3_32, if_true, if_false]
    rw [if_neg (by decide), rint_f l hl _ _ (by omega) hc, hx]
    simp only [Option.bind_some]
    rw [rint_f l hl _ _ (by omega) hc, rint_bad l _ 6 (by decide)]
    rfl
  · subst e
    rw [show useOf 3 = 3 from rfl, hq]
    simp only [wire_Get.j1, wire_Get.j2, wire_Get.j3, wire_Get.j4, wire_Get.j5, b3_1, b3_2, b3_4, b3_8, b3_16, b3_32, if_true, if_false]
    rw [if_neg (by decide), rint_f l hl _ _ (by omega) hc, hx]
    simp only [Option.bind_some]
    rw [rint_f l hl _ _ (by omega) hc]
    rcases rint_one l n with ⟨b, m, t1, t2⟩ | ⟨t1, t2⟩
    · rw [t1, t2]; rfl
    · rw [t1, t2]; rfl
  · subst e
    rw [show useOf 4 = 33 from rfl, hq]
    simp only [wire_Get.j1, wire_Get.j2, wire_Get.j3, wire_Get.j4, wire_Get.j5, b33_1, b33_2, b33_4, b33_8, b33_16, b33_32, if_true, if_false]
    rw [if_neg (by decide), rint_f l hl _ _ (by omega) hc, hx]
    simp only [Option.bind_some]
    rw [front_f l hl hc _ _ (by omega)]
    rfl
  · subst e
    rw [show useOf 4 = 33 from rfl, hq]
    simp only [wire_Get.j1, wire_Get.j2, wire_Get.j3, wire_Get.j4, wire_Get.j5, b33_1, b33_2, b33_4, b33_8, b33_16, b33_32, if_true, if_false]
    rw [if_neg (by decide), rint_f l hl _ _ (by omega) hc, hx]
    simp only [Option.bind_some]
    rw [front_f l hl hc _ _ (by omega), if_pos rfl]
    by_cases h7 : (gfront l n).2.2 = 0
    · rw [if_pos h7, if_pos h7]; rfl
    · rw [if_neg h7, if_neg h7]; rfl
  · subst e
    rw [show useOf 5 = 17 from rfl, hq]
    simp only [wire_Get.j1, wire_Get.j2, wire_Get.j3, wire_Get.j4, wire_Get.j5, b17_1, b17_2, b17_4, b17_8, b17_16, b17_32, if_true, if_false]
    rw [if_neg (by decide), rint_f l hl _ _ (by omega) hc, hx]
    simp only [Option.bind_some]
    rw [rtime_f l hl _ _ (by omega) hc, rtime_bad l _ 6 (by decide)]
    rfl
  · subst e
    rw [show useOf 5 = 17 from rfl, hq]
    simp only [wire_Get.j1, wire_Get.j2, wire_Get.j3, wire_Get.j4, wire_Get.j5, b17_1, b17_2, b17_4, b17_8, b17_16, b17_32, if_true, if_false]
    rw [if_neg (by decide), rint_f l hl _ _ (by omega) hc, hx]
    simp only [Option.bind_some]
    rw [rtime_f l hl _ _ (by omega) hc]
    rcases rtime_two l n with ⟨b, c, m, t1, t2⟩ | ⟨t1, t2⟩
    · rw [t1, t2]; rfl
    · rw [t1]
      simp only [Option.bind_some]
      rw [t2]
      rfl
  · subst e
    rw [show useOf 6 = 1 from rfl, hq]
    simp only [wire_Get.j1, wire_Get.j2, wire_Get.j3, wire_Get.j4, wire_Get.j5, b1_1, b1_2, b1_4, b1_8, b1_16, b1_32, if_true, if_false]
    rw [if_neg (by decide), rint_f l hl _ _ (by omega) hc, hx]
    rfl
  · subst e
    rw [show useOf 6 = 1 from rfl, hq]
    simp only [wire_Get.j1, wire_Get.j2, wire_Get.j3, wire_Get.j4, wire_Get.j5, b1_1, b1_2, b1_4, b1_8, b1_16, b1_32, if_true, if_false]
    rw [if_neg (by decide), rint_f l hl _ _ (by omega) hc, hx]
    rfl
structure cok (c : S40) : Prop where
  node : -9223372036854775808 ≤ c.f1 ∧ c.f1 ≤ 9223372036854775807
  fuel : -9223372036854775808 ≤ c.f4 ∧ c.f4 ≤ 9223372036854775807
  diff : -9223372036854775808 ≤ c.f2.f2 ∧ c.f2.f2 ≤ 9223372036854775807
  time : tok c.f2.f1
  rowl : c.f2.f0.length ≤ 30
  row : ∀ x ∈ c.f2.f0, (Lit.int .i64 x.f1).wf = true
  frontl : c.f3.length ≤ 30
  front : ∀ t ∈ c.f3, tok t
  sheetl : c.f5.length ≤ 70000
  sheet : ∀ x ∈ c.f5, 0 ≤ x ∧ x < 256
def cchk (c : S40) : Int :=
  if c.f0 < 0 ∨ 6 < c.f0 then 8 else if c.f0 = 0 ∧ 65536 < (c.f5.length : Int) then 2
  else if (c.f0 = 2 ∨ c.f0 = 4) ∧ 16 < (c.f3.length : Int) then 3 else if c.f0 = 1 then chk c.f2.f0 else 0
def cbytes (c : S40) : List Int :=
  c.f0 :: (if c.f0 = 0 then txt (strOfNums c.f5) else one c.f1 ++ (if c.f0 = 1 then rbytes c.f2.f0 ++ (titem c.f2.f1 ++ one c.f2.f2) else if c.f0 = 2 ∨ c.f0 = 4 then tfront c.f3 else if c.f0 = 3 then one c.f4 else if c.f0 = 5 then titem c.f2.f1 else []))
theorem maxLen_big : (100000 : Nat) ≤ maxLen := by unfold maxLen; omega
theorem wcheck_f {k : Nat} (c : S40) (hc : cok c) (hk : 60 ≤ k) : wire_Check.f k c.f0 c.f1 c.f2.f0 c.f2.f1.f0 c.f2.f1.f1 c.f2.f2 c.f3 c.f4 c.f5 = some (cchk c) := by
  have hm := maxLen_big
  have h1 := hc.rowl
  obtain ⟨k, rfl⟩ : ∃ n, k = n + 2 := ⟨k - 2, by omega⟩
  unfold wire_Check.f cchk
  rw [uses_f _ (by omega)]
  simp only [Option.bind_some]
  by_cases hr : c.f0 < 0 ∨ 6 < c.f0
  · rw [if_pos hr, if_pos (by unfold useOf; rw [if_neg (by omega), if_neg (by omega), if_neg (by omega), if_neg (by omega), if_neg (by omega), if_neg (by omega)])]
  · rw [if_neg hr]
    have hrow : row_Check.f k c.f2.f0 = some (chk c.f2.f0) := Check_f _ (by omega) (by omega)
    rcases (show c.f0 = 0 ∨ c.f0 = 1 ∨ c.f0 = 2 ∨ c.f0 = 3 ∨ c.f0 = 4 ∨ c.f0 = 5 ∨ c.f0 = 6 by omega) with e | e | e | e | e | e | e
    · rw [e, show useOf 0 = 4 from rfl, if_neg (by decide)]
      by_cases h2 : 65536 < (c.f5.length : Int)
      · simp only [wire_Check.j0, b4_4, if_true, show ((c.f5.length : Int) > 65536) from h2, decide_true]
        simp [h2]
      · simp only [wire_Check.j0, wire_Check.j1, b4_4, b4_32, b4_8, if_true, if_false, show ¬ ((c.f5.length : Int) > 65536) from h2, decide_false]
        simp [h2]
    · rw [e, show useOf 1 = 9 from rfl, if_neg (by decide)]
      simp only [wire_Check.j0, wire_Check.j1, b9_4, b9_32, b9_8, if_true, if_false, hrow]
      simp
    · rw [e, show useOf 2 = 33 from rfl, if_neg (by decide)]
      by_cases h2 : 16 < (c.f3.length : Int)
      · simp only [wire_Check.j0, wire_Check.j1, b33_4, b33_32, b33_8, if_true, if_false, show ((c.f3.length : Int) > 16) from h2, decide_true]
        simp [h2]
      · simp only [wire_Check.j0, wire_Check.j1, b33_4, b33_32, b33_8, if_true, if_false, show ¬ ((c.f3.length : Int) > 16) from h2, decide_false]
        simp [h2]
    · rw [e, show useOf 3 = 3 from rfl, if_neg (by decide)]
      simp only [wire_Check.j0, wire_Check.j1, b3_4, b3_32, b3_8, if_true, if_false]
      simp
    · rw [e, show useOf 4 = 33 from rfl, if_neg (by decide)]
      by_cases h2 : 16 < (c.f3.length : Int)
      · simp only [wire_Check.j0, wire_Check.j1, b33_4, b33_32, b33_8, if_true, if_false, show ((c.f3.length : Int) > 16) from h2, decide_true]
        simp [h2]
      · simp only [wire_Check.j0, wire_Check.j1, b33_4, b33_32, b33_8, if_true, if_false, show ¬ ((c.f3.length : Int) > 16) from h2, decide_false]
        simp [h2]
    · rw [e, show useOf 5 = 17 from rfl, if_neg (by decide)]
      simp only [wire_Check.j0, wire_Check.j1, b17_4, b17_32, b17_8, if_true, if_false]
      simp
    · rw [e, show useOf 6 = 1 from rfl, if_neg (by decide)]
      simp only [wire_Check.j0, wire_Check.j1, b1_4, b1_32, b1_8, if_true, if_false]
      simp
theorem cchk_ok (c : S40) (hc : cok c) (h : cchk c = 0) : (0 ≤ c.f0 ∧ c.f0 ≤ 6) ∧ (c.f0 = 0 → c.f5.length ≤ 65536) ∧ (c.f0 = 2 ∨ c.f0 = 4 → c.f3.length ≤ 16) ∧ (c.f0 = 1 → chk c.f2.f0 = 0) := by
  unfold cchk at h
  split at h
  · cases h
  · split at h
    · cases h
    · split at h
      · cases h
      · split at h
        · exact ⟨by omega, by omega, by omega, fun _ => h⟩
        · exact ⟨by omega, by omega, by omega, by omega⟩
theorem txt_len (s : ByteArray) (h : s.size < 18446744073709551616) : (txt s).length ≤ 10 + s.size := by
  have h10 := enc_ten h
  have hb : (bytesOf s).length = s.size := by unfold bytesOf; simp
  unfold txt
  rw [List.length_append, hb]
  omega
theorem cbytes_length (c : S40) (hc : cok c) (h : cchk c = 0) : (cbytes c).length ≤ 71000 := by
  obtain ⟨h0, h5, h3, h1⟩ := cchk_ok c hc h
  have hs := hc.sheetl
  have hf := hc.frontl
  have a1 := one_length c.f1 hc.node.1 hc.node.2
  unfold cbytes
  rw [List.length_cons]
  split
  · have := txt_len (strOfNums c.f5) (by rw [strOfNums_size]; omega)
    rw [strOfNums_size] at this
    omega
  · rw [List.length_append]
    split
    · rename_i e
      obtain ⟨h16, hg⟩ := chk_good _ (h1 e) hc.row
      have b1 := rbytes_length c.f2.f0 h16 hg
      have b2 := titem_length _ hc.time
      have b3 := one_length _ hc.diff.1 hc.diff.2
      rw [List.length_append, List.length_append]
      omega
    · split
      · have := tfront_length c.f3 (by omega) hc.front
        omega
      · split
        · have := one_length _ hc.fuel.1 hc.fuel.2
          omega
        · split
          · have := titem_length _ hc.time
            omega
          · rw [List.length_nil]; omega
theorem wput_f {k : Nat} (b : List Int) (c : S40) (hc : cok c) (hk : 120 ≤ k) (hb : b.length ≤ 800000000) :
    wire_Put.f k b c.f0 c.f1 c.f2.f0 c.f2.f1.f0 c.f2.f1.f1 c.f2.f2 c.f3 c.f4 c.f5 = some (if cchk c = 0 then (b ++ cbytes c, 0) else ([], cchk c)) := by
  have hm := maxLen_big
  have hcg := cap_ge
  have h1 := hc.rowl
  have hfl := hc.frontl
  have hsl := hc.sheetl
  obtain ⟨k, rfl⟩ : ∃ n, k = n + 5 := ⟨k - 5, by omega⟩
  unfold wire_Put.f
  rw [wcheck_f c hc (by omega)]
  simp only [Option.bind_some]
  by_cases h : cchk c = 0
  · obtain ⟨h0, h5, h3, hr⟩ := cchk_ok c hc h
    rw [if_pos h, if_pos h, uses_f _ (by omega)]
    simp only [Option.bind_some, slices_Clone_byte_byte.f, List.nil_append, List.length_nil, Nat.zero_add]
    rw [if_pos (by omega)]
    simp only [Option.bind_some]
    rw [if_pos (by simp; omega), show c.f0 % 256 = c.f0 by omega]
    have hbl : (b ++ [c.f0]).length = b.length + 1 := by simp
    have hn1 := one_length c.f1 hc.node.1 hc.node.2
    have hnode : num_PutInt.f (k + 5) (b ++ [c.f0]) c.f1 = some ((b ++ [c.f0]) ++ one c.f1) := PutInt_f _ _ hc.node.1 hc.node.2 (by omega) (by omega)
    have hnl : ((b ++ [c.f0]) ++ one c.f1).length ≤ b.length + 11 := by rw [List.length_append]; omega
    generalize hN : (b ++ [c.f0]) ++ one c.f1 = N at hnode hnl
    have hNe : ∀ x : List Int, c.f0 ≠ 0 → N ++ (if c.f0 = 1 then rbytes c.f2.f0 ++ (titem c.f2.f1 ++ one c.f2.f2) else if c.f0 = 2 ∨ c.f0 = 4 then tfront c.f3 else if c.f0 = 3 then one c.f4 else if c.f0 = 5 then titem c.f2.f1 else []) = b ++ cbytes c := by
      intro _ hne
      rw [← hN, cbytes, if_neg hne]
      simp
    rcases (show c.f0 = 0 ∨ c.f0 = 1 ∨ c.f0 = 2 ∨ c.f0 = 3 ∨ c.f0 = 4 ∨ c.f0 = 5 ∨ c.f0 = 6 by omega) with e | e | e | e | e | e | e
    · have hE : b ++ [c.f0] ++ txt (strOfNums c.f5) = b ++ cbytes c := by rw [cbytes, if_pos e]; simp
      have hP := PutText_f (k := k + 3) (b ++ [c.f0]) (strOfNums c.f5) (by omega) (by rw [strOfNums_size, hbl]; omega)
      rw [e] at hE hP ⊢
      simp only [show useOf 0 = 4 from rfl, wire_Put.j0, wire_Put.j1, wire_Put.j2, wire_Put.j3, b4_1, b4_2, b4_4, b4_8, b4_16, b4_32, if_true, if_false, hP, Option.bind_some, hE]
    · have hx := hNe [] (by omega)
      have hR := rput_f (k := k + 2) N c.f2.f0 (by omega) hc.row (by omega) (by omega)
      obtain ⟨h16, hg⟩ := chk_good _ (hr e) hc.row
      have b1 := rbytes_length c.f2.f0 h16 hg
      have b2 := titem_length _ hc.time
      have hT := putTime_f (k := k + 2) (N ++ rbytes c.f2.f0) c.f2.f1 hc.time (by omega) (by rw [List.length_append]; omega)
      have hD : num_PutInt.f (k + 2) (N ++ rbytes c.f2.f0 ++ titem c.f2.f1) c.f2.f2 = some (N ++ rbytes c.f2.f0 ++ titem c.f2.f1 ++ one c.f2.f2) := PutInt_f _ _ hc.diff.1 hc.diff.2 (by omega) (by rw [List.length_append, List.length_append]; omega)
      rw [if_pos (hr e)] at hR
      rw [if_pos e] at hx
      rw [e] at hnode ⊢
      simp only [show useOf 1 = 9 from rfl, wire_Put.j0, wire_Put.j1, wire_Put.j2, wire_Put.j3, b9_1, b9_2, b9_4, b9_8, b9_16, b9_32, if_true, if_false, hnode, Option.bind_some, hR, hT, hD]
      rw [← hx]
      simp
    · have hx := hNe [] (by omega)
      have hF := PutFront_f (k := k + 1) N c.f3 (by omega) hc.front (by omega) (by omega)
      rw [if_neg (by omega), if_pos (.inl e)] at hx
      rw [e] at hnode ⊢
      simp only [show useOf 2 = 33 from rfl, wire_Put.j0, wire_Put.j1, wire_Put.j2, wire_Put.j3, b33_1, b33_2, b33_4, b33_8, b33_16, b33_32, if_true, if_false, hnode, Option.bind_some, hF, hx]
    · have hx := hNe [] (by omega)
      have hF : num_PutInt.f (k + 4) N c.f4 = some (N ++ one c.f4) := PutInt_f _ _ hc.fuel.1 hc.fuel.2 (by omega) (by omega)
      rw [if_neg (by omega), if_neg (by omega), if_pos e] at hx
      rw [e] at hnode ⊢
      simp only [show useOf 3 = 3 from rfl, wire_Put.j0, wire_Put.j1, wire_Put.j2, wire_Put.j3, b3_1, b3_2, b3_4, b3_8, b3_16, b3_32, if_true, if_false, hnode, Option.bind_some, hF, hx]
    · have hx := hNe [] (by omega)
      have hF := PutFront_f (k := k + 1) N c.f3 (by omega) hc.front (by omega) (by omega)
      rw [if_neg (by omega), if_pos (.inr e)] at hx
      rw [e] at hnode ⊢
      simp only [show useOf 4 = 33 from rfl, wire_Put.j0, wire_Put.j1, wire_Put.j2, wire_Put.j3, b33_1, b33_2, b33_4, b33_8, b33_16, b33_32, if_true, if_false, hnode, Option.bind_some, hF, hx]
    · have hx := hNe [] (by omega)
      have hT := putTime_f (k := k + 1) N c.f2.f1 hc.time (by omega) (by omega)
      rw [if_neg (by omega), if_neg (by omega), if_neg (by omega), if_pos e] at hx
      rw [e] at hnode ⊢
      simp only [show useOf 5 = 17 from rfl, wire_Put.j0, wire_Put.j1, wire_Put.j2, wire_Put.j3, b17_1, b17_2, b17_4, b17_8, b17_16, b17_32, if_true, if_false, hnode, Option.bind_some, hT, hx]
    · have hx := hNe [] (by omega)
      rw [if_neg (by omega), if_neg (by omega), if_neg (by omega), if_neg (by omega), List.append_nil] at hx
      rw [e] at hnode ⊢
      simp only [show useOf 6 = 1 from rfl, wire_Put.j0, wire_Put.j1, wire_Put.j2, wire_Put.j3, b1_1, b1_2, b1_4, b1_8, b1_16, b1_32, if_true, if_false, hnode, Option.bind_some, hx]
  · rw [if_neg h, if_neg h]
theorem Rcheck_f {k : Nat} (c : S40) (hc : cok c) (hk : 80 ≤ k) : runnelref26_Check.f k c.f0 c.f1 c.f2.f0 c.f2.f1.f0 c.f2.f1.f1 c.f2.f2 c.f3 c.f4 c.f5 = some (cchk c) := by
  have hm := maxLen_big
  have h1 := hc.rowl
  obtain ⟨k, rfl⟩ : ∃ n, k = n + 3 := ⟨k - 3, by omega⟩
  have hrow : runnelref03_Check.f k c.f2.f0 = some (chk c.f2.f0) := RCheck_f _ (by omega) (by omega)
  unfold runnelref26_Check.f cchk
  by_cases h0 : c.f0 < 0
  · rw [if_pos h0, if_pos (.inl h0)]; simp only [runnelref26_Check.j0, if_true]
  rw [if_neg h0]
  by_cases h6 : c.f0 > 6
  · rw [if_pos (.inr h6), decide_eq_true h6]; simp only [runnelref26_Check.j0, if_true]
  rw [if_neg (show ¬ (c.f0 < 0 ∨ 6 < c.f0) by omega), decide_eq_false h6]
  simp only [runnelref26_Check.j0]
  rw [if_neg (show ¬ (false = true) by decide)]
  have hj2 : runnelref26_Check.j2 (k + 1) false c.f0 c.f1 c.f2.f0 c.f2.f1.f0 c.f2.f1.f1 c.f2.f2 c.f3 c.f4 c.f5 = some (if c.f0 = 1 then chk c.f2.f0 else 0) := by
    simp only [runnelref26_Check.j2, hrow, Option.bind_some]
    by_cases e1 : c.f0 = 1
    · simp [e1]
    · simp [e1]
  have hj1 : runnelref26_Check.j1 (k + 2) false c.f0 c.f1 c.f2.f0 c.f2.f1.f0 c.f2.f1.f1 c.f2.f2 c.f3 c.f4 c.f5 = some (if (c.f0 = 2 ∨ c.f0 = 4) ∧ 16 < (c.f3.length : Int) then 3 else if c.f0 = 1 then chk c.f2.f0 else 0) := by
    simp only [runnelref26_Check.j1]
    rw [if_neg (show ¬ (false = true) by decide)]
    by_cases hl : 16 < (c.f3.length : Int)
    · have hT : runnelref26_Check.j2 (k + 1) true c.f0 c.f1 c.f2.f0 c.f2.f1.f0 c.f2.f1.f1 c.f2.f2 c.f3 c.f4 c.f5 = some 3 := by simp only [runnelref26_Check.j2, if_true]
      rw [decide_eq_true (show (c.f3.length : Int) > 16 from hl)]
      by_cases e2 : c.f0 = 2
      · rw [if_pos e2, hT, if_pos ⟨.inl e2, hl⟩]
      rw [if_neg e2]
      by_cases e4 : c.f0 = 4
      · rw [if_pos e4, hT, if_pos ⟨.inr e4, hl⟩]
      rw [if_neg e4, hj2, if_neg (show ¬ ((c.f0 = 2 ∨ c.f0 = 4) ∧ 16 < (c.f3.length : Int)) from fun h => h.1.elim e2 e4)]
    · rw [decide_eq_false (show ¬ (c.f3.length : Int) > 16 from hl), hj2, if_neg (show ¬ ((c.f0 = 2 ∨ c.f0 = 4) ∧ 16 < (c.f3.length : Int)) from fun h => hl h.2)]
      by_cases e2 : c.f0 = 2
      · rw [if_pos e2]
      rw [if_neg e2]
      by_cases e4 : c.f0 = 4
      · rw [if_pos e4]
      rw [if_neg e4]
  by_cases e0 : c.f0 = 0
  · rw [if_pos e0]
    by_cases h2 : 65536 < (c.f5.length : Int)
    · rw [if_pos ⟨e0, h2⟩, decide_eq_true (show (c.f5.length : Int) > 65536 from h2)]
      simp only [runnelref26_Check.j1, if_true]
    · rw [if_neg (show ¬ (c.f0 = 0 ∧ 65536 < (c.f5.length : Int)) from fun h => h2 h.2), decide_eq_false (show ¬ (c.f5.length : Int) > 65536 from h2)]
      exact hj1
  · rw [if_neg e0, if_neg (show ¬ (c.f0 = 0 ∧ 65536 < (c.f5.length : Int)) from fun h => e0 h.1)]
    exact hj1
theorem Rcbytes_f {k : Nat} (c : S40) (hc : cok c) (h : cchk c = 0) (hk : 120 ≤ k) : runnelref26_Bytes.f k c.f0 c.f1 c.f2.f0 c.f2.f1.f0 c.f2.f1.f1 c.f2.f2 c.f3 c.f4 c.f5 = some (cbytes c) := by
  have hm := maxLen_big
  have hcg := cap_ge
  have h1 := hc.rowl
  have hfl := hc.frontl
  have hsl := hc.sheetl
  obtain ⟨h0, h5, h3, hr⟩ := cchk_ok c hc h
  obtain ⟨k, rfl⟩ : ∃ n, k = n + 2 := ⟨k - 2, by omega⟩
  unfold runnelref26_Bytes.f cbytes
  try simp only [Option.bind_some]
  rw [show c.f0 % 256 = c.f0 by omega]
  by_cases e0 : c.f0 = 0
  · have ht := txt_len (strOfNums c.f5) (by rw [strOfNums_size]; omega)
    rw [strOfNums_size] at ht
    rw [if_pos e0, if_pos e0, RText_f _ (by omega) (by rw [strOfNums_size]; omega)]
    try simp only [Option.bind_some]
    rw [if_pos (by rw [List.length_singleton]; omega), List.singleton_append]
  rw [if_neg e0, if_neg e0]
  have hn1 := one_length c.f1 hc.node.1 hc.node.2
  rw [Rone_f _ hc.node.1 hc.node.2 (by omega)]
  try simp only [Option.bind_some]
  rw [if_pos (by rw [List.length_singleton]; omega)]
  try simp only [Option.bind_some]
  have hNl : ([c.f0] ++ one c.f1).length ≤ 11 := by rw [List.length_append, List.length_singleton]; omega
  have hNe : ∀ x : List Int, ([c.f0] ++ one c.f1) ++ x = c.f0 :: (one c.f1 ++ x) := fun x => by simp
  generalize hN : [c.f0] ++ one c.f1 = N at hNl hNe ⊢
  by_cases e1 : c.f0 = 1
  · obtain ⟨h16, hg⟩ := chk_good _ (hr e1) hc.row
    have b1 := rbytes_length c.f2.f0 h16 hg
    have b2 := titem_length _ hc.time
    have b3 := one_length _ hc.diff.1 hc.diff.2
    rw [if_pos e1, if_pos e1, RBytes_f _ h16 hg (by omega)]
    try simp only [Option.bind_some]
    rw [if_pos (by omega)]
    try simp only [Option.bind_some]
    rw [Rtime_f _ hc.time (by omega)]
    try simp only [Option.bind_some]
    rw [if_pos (by rw [List.length_append]; omega)]
    try simp only [Option.bind_some]
    rw [Rone_f _ hc.diff.1 hc.diff.2 (by omega)]
    try simp only [Option.bind_some]
    rw [if_pos (by rw [List.length_append, List.length_append]; omega), List.append_assoc, List.append_assoc, hNe]
  rw [if_neg e1, if_neg e1]
  have hf := tfront_length c.f3 (by omega) hc.front
  have hF : runnelref26_Bytes.j0 (k + 2) N c.f0 true c.f0 c.f1 c.f2.f0 c.f2.f1.f0 c.f2.f1.f1 c.f2.f2 c.f3 c.f4 c.f5 = some (N ++ tfront c.f3) := by
    simp only [runnelref26_Bytes.j0, if_true]
    rw [RFront_f _ (by omega) hc.front (by omega)]
    try simp only [Option.bind_some]
    rw [if_pos (by omega)]
  by_cases e2 : c.f0 = 2
  · rw [if_pos e2, if_pos (.inl e2), show (c.f0 == 2) = true from beq_iff_eq.mpr e2, hF, hNe]
  rw [if_neg e2]
  by_cases e4 : c.f0 = 4
  · rw [if_pos (.inr e4), show (c.f0 == 4) = true from beq_iff_eq.mpr e4, hF, hNe]
  rw [if_neg (show ¬ (c.f0 = 2 ∨ c.f0 = 4) from fun h => h.elim e2 e4), show (c.f0 == 4) = false from beq_eq_false_iff_ne.mpr e4]
  simp only [runnelref26_Bytes.j0]
  rw [if_neg (show ¬ (false = true) by decide)]
  by_cases e3 : c.f0 = 3
  · have := one_length _ hc.fuel.1 hc.fuel.2
    rw [if_pos e3, if_pos e3, Rone_f _ hc.fuel.1 hc.fuel.2 (by omega)]
    try simp only [Option.bind_some]
    rw [if_pos (by omega), hNe]
  rw [if_neg e3, if_neg e3]
  by_cases e5 : c.f0 = 5
  · have := titem_length _ hc.time
    rw [if_pos e5, if_pos e5, Rtime_f _ hc.time (by omega)]
    try simp only [Option.bind_some]
    rw [if_pos (by omega), hNe]
  rw [if_neg e5, if_neg e5]
  have := hNe []
  rw [List.append_nil] at this
  rw [this]
def cplain (c : S40) : S40 :=
  ⟨c.f0, if c.f0 = 0 then 0 else c.f1, ⟨if c.f0 = 1 then c.f2.f0.map plain else [], if c.f0 = 1 ∨ c.f0 = 5 then c.f2.f1 else ⟨0, 0⟩, if c.f0 = 1 then c.f2.f2 else 0⟩, if c.f0 = 2 ∨ c.f0 = 4 then c.f3 else [], if c.f0 = 3 then c.f4 else 0, if c.f0 = 0 then c.f5 else []⟩
theorem nums_one (p r : List Int) (a : Int) (h : -9223372036854775808 ≤ a) (h' : a ≤ 9223372036854775807) (d : Nat) : nums (p ++ (one a ++ r)) (d + 1) (p.length : Int) = (nums (p ++ (one a ++ r)) d ((p.length + (one a).length : Nat) : Int)).map fun q => (a :: q.1, q.2) := by
  have hg := get_enc p r (zig a) (zig_lt a h h') (p.length : Int) rfl
  rw [nums, show one a = enc (zig a) from rfl, hg]
  simp only
  rw [if_pos trivial]
  have hz : zag ((zig a : Nat) : Int) = a := zag_zig a
  rw [hz]
theorem nums_two (p r : List Int) (a b : Int) (ha : -9223372036854775808 ≤ a ∧ a ≤ 9223372036854775807) (hb : -9223372036854775808 ≤ b ∧ b ≤ 9223372036854775807) (d : Nat) : nums (p ++ (one a ++ (one b ++ r))) (d + 1 + 1) (p.length : Int) = (nums (p ++ (one a ++ (one b ++ r))) d ((p.length + (one a).length + (one b).length : Nat) : Int)).map fun q => (a :: b :: q.1, q.2) := by
  rw [nums_one p (one b ++ r) a ha.1 ha.2 (d + 1)]
  have e : p ++ (one a ++ (one b ++ r)) = (p ++ one a) ++ (one b ++ r) := by simp
  have h := nums_one (p ++ one a) r b hb.1 hb.2 d
  rw [← e, List.length_append] at h
  rw [h]
  cases nums (p ++ (one a ++ (one b ++ r))) d ((p.length + (one a).length + (one b).length : Nat) : Int) <;> rfl
theorem nums_items (f : List S36) : ∀ (p r : List Int), (∀ t ∈ f, tok t) → nums (p ++ (titems f ++ r)) (2 * f.length) (p.length : Int) = some (f.flatMap fun t => [t.f0, t.f1], ((p.length + (titems f).length : Nat) : Int)) := by
  induction f with
  | nil => intro p r _; simp [titems, nums]
  | cons t f ih =>
    intro p r h
    have ht := h t (by simp)
    rw [titems, show 2 * (t :: f).length = 2 * f.length + 1 + 1 by simp; omega, show p ++ (titem t ++ titems f ++ r) = p ++ (one t.f0 ++ (one t.f1 ++ (titems f ++ r))) by simp [titem], nums_two p (titems f ++ r) _ _ ht.1 ht.2]
    have h2 := ih (p ++ (one t.f0 ++ one t.f1)) r (fun x hx => h x (by simp [hx]))
    rw [show (p ++ (one t.f0 ++ one t.f1)) ++ (titems f ++ r) = p ++ (one t.f0 ++ (one t.f1 ++ (titems f ++ r))) by simp, List.length_append, List.length_append, ← Nat.add_assoc] at h2
    rw [h2]
    simp [titem, Nat.add_assoc]
theorem pairs_flat (f : List S36) : pairs (f.flatMap fun t => [t.f0, t.f1]) = f := by
  induction f with
  | nil => rfl
  | cons t f ih => simp [pairs, ih]
theorem gfront_told (p r : List Int) (f : List S36) (hn : f.length ≤ 16) (hg : ∀ t ∈ f, tok t) : gfront (p ++ (tfront f ++ r)) (p.length : Int) = (f, ((p.length + (tfront f).length : Nat) : Int), 0) := by
  have h := get_enc p (titems f ++ r) f.length (by omega) (p.length : Int) rfl
  unfold gfront
  rw [tfront, List.append_assoc, h]
  simp only
  rw [if_pos trivial, if_neg (by omega), Int.toNat_natCast]
  have h2 := nums_items f (p ++ enc f.length) r hg
  rw [List.append_assoc, List.length_append] at h2
  rw [h2]
  simp only
  rw [pairs_flat, List.length_append, Nat.add_assoc]
theorem gtext_told (p r : List Int) (s : ByteArray) (most : Int) (hs : (s.size : Int) ≤ most) (hb : s.size < 18446744073709551616) : gtext (p ++ (txt s ++ r)) (p.length : Int) most = (s, ((p.length + (txt s).length : Nat) : Int), 0) := by
  have h := get_enc p (bytesOf s ++ r) s.size hb (p.length : Int) rfl
  have hbl : (bytesOf s).length = s.size := by unfold bytesOf; simp
  unfold gtext
  rw [txt, List.append_assoc, h]
  simp only
  rw [if_pos trivial, if_neg (by omega), if_neg (by rw [List.length_append, List.length_append, List.length_append, hbl]; omega)]
  have hcut := cut_mid (p ++ enc s.size) (bytesOf s) r (((p.length + (enc s.size).length : Nat) : Int) + (s.size : Int)) ((p.length + (enc s.size).length : Nat) : Int) (by rw [List.length_append, hbl]; omega) (by rw [List.length_append])
  rw [List.append_assoc] at hcut
  rw [hcut, str_back, List.length_append, hbl]
  congr 2
  omega
theorem bytes_str (l : List Int) (hl : ∀ x ∈ l, 0 ≤ x ∧ x < 256) : bytesOf (strOfNums l) = l := by
  apply str_inj (bytesOf_byte _) hl
  rw [str_bytesOf, str_of]
theorem cget_told (p r : List Int) (c : S40) (hc : cok c) (h : cchk c = 0) : cget (p ++ (cbytes c ++ r)) (p.length : Int) =
    ((cplain c).f0, (cplain c).f1, (cplain c).f2.f0, (cplain c).f2.f1.f0, (cplain c).f2.f1.f1, (cplain c).f2.f2, (cplain c).f3, (cplain c).f4, (cplain c).f5, ((p.length + (cbytes c).length : Nat) : Int), 0) := by
  obtain ⟨h0, h5, h3, hr⟩ := cchk_ok c hc h
  have hlen : (p ++ (cbytes c ++ r)).length = p.length + ((cbytes c).length + r.length) := by rw [List.length_append, List.length_append]
  have hcl : 1 ≤ (cbytes c).length := by unfold cbytes; rw [List.length_cons]; omega
  have hrd : rd (p ++ (cbytes c ++ r)) (p.length : Int) = c.f0 := by unfold cbytes; rw [List.cons_append]; exact rd_app _ _ _
  unfold cget
  rw [if_neg (show ¬ ((p.length : Int) < 0 ∨ ((p ++ (cbytes c ++ r)).length : Int) < (p.length : Int)) by rw [hlen]; omega), hrd, if_neg (show ¬ ((p.length : Int) = ((p ++ (cbytes c ++ r)).length : Int) ∨ 6 < c.f0) by rw [hlen]; omega)]
  clear hrd
  by_cases e0 : c.f0 = 0
  · rw [if_pos e0]
    have hcb : cbytes c = [c.f0] ++ txt (strOfNums c.f5) := by rw [cbytes, if_pos e0]; rfl
    have hg := gtext_told (p ++ [c.f0]) r (strOfNums c.f5) 65536 (by rw [strOfNums_size]; have := h5 e0; omega) (by rw [strOfNums_size]; have := h5 e0; omega)
    rw [hcb, show p ++ ([c.f0] ++ txt (strOfNums c.f5) ++ r) = (p ++ [c.f0]) ++ (txt (strOfNums c.f5) ++ r) by simp, show (p.length : Int) + 1 = ((p ++ [c.f0]).length : Int) by rw [List.length_append, List.length_singleton]; omega, hg]
    simp only
    rw [if_pos trivial, bytes_str _ hc.sheet]
    simp [cplain, e0]
    omega
  rw [if_neg e0]
  have hcb : ∀ x : List Int, (if c.f0 = 1 then rbytes c.f2.f0 ++ (titem c.f2.f1 ++ one c.f2.f2) else if c.f0 = 2 ∨ c.f0 = 4 then tfront c.f3 else if c.f0 = 3 then one c.f4 else if c.f0 = 5 then titem c.f2.f1 else []) = x → p ++ (cbytes c ++ r) = (p ++ [c.f0]) ++ (one c.f1 ++ (x ++ r)) ∧ p ++ (cbytes c ++ r) = (p ++ [c.f0] ++ one c.f1) ++ (x ++ r) ∧ (cbytes c).length = 1 + (one c.f1).length + x.length := by
    rintro x rfl
    refine ⟨?_, ?_, ?_⟩
    · rw [cbytes, if_neg e0]; simp
    · rw [cbytes, if_neg e0]; simp
    · rw [cbytes, if_neg e0, List.length_cons, List.length_append]; omega
  have hn : ∀ x : List Int, p ++ (cbytes c ++ r) = (p ++ [c.f0]) ++ (one c.f1 ++ (x ++ r)) → nums (p ++ (cbytes c ++ r)) 1 ((p.length : Int) + 1) = some ([c.f1], ((p ++ [c.f0] ++ one c.f1).length : Int)) := by
    intro x hx
    rw [hx, show (p.length : Int) + 1 = ((p ++ [c.f0]).length : Int) by rw [List.length_append, List.length_singleton]; omega, nums_one _ _ _ hc.node.1 hc.node.2 0, nums]
    simp
    omega
  have hr0 : rd [c.f1] 0 = c.f1 := rfl
  by_cases e1 : c.f0 = 1
  · obtain ⟨hx, hy, hl⟩ := hcb _ (if_pos e1)
    obtain ⟨h16, hg⟩ := chk_good _ (hr e1) hc.row
    rw [hn _ hx]
    simp only
    rw [if_pos e1, hy]
    have hrg := rget_told (p ++ [c.f0] ++ one c.f1) (titem c.f2.f1 ++ one c.f2.f2 ++ r) c.f2.f0 h16 hg
    rw [show (p ++ [c.f0] ++ one c.f1) ++ (rbytes c.f2.f0 ++ (titem c.f2.f1 ++ one c.f2.f2 ++ r)) = (p ++ [c.f0] ++ one c.f1) ++ (rbytes c.f2.f0 ++ (titem c.f2.f1 ++ one c.f2.f2) ++ r) by simp] at hrg
    rw [hrg]
    simp only
    rw [if_pos trivial]
    have h2 := nums_two ((p ++ [c.f0] ++ one c.f1) ++ rbytes c.f2.f0) (one c.f2.f2 ++ r) c.f2.f1.f0 c.f2.f1.f1 hc.time.1 hc.time.2 1
    have h4 := nums_one (((p ++ [c.f0] ++ one c.f1) ++ rbytes c.f2.f0) ++ (one c.f2.f1.f0 ++ one c.f2.f1.f1)) r c.f2.f2 hc.diff.1 hc.diff.2 0
    have e4 : (((p ++ [c.f0] ++ one c.f1) ++ rbytes c.f2.f0) ++ (one c.f2.f1.f0 ++ one c.f2.f1.f1)) ++ (one c.f2.f2 ++ r) = ((p ++ [c.f0] ++ one c.f1) ++ rbytes c.f2.f0) ++ (one c.f2.f1.f0 ++ (one c.f2.f1.f1 ++ (one c.f2.f2 ++ r))) := by simp
    have e6 : (((p ++ [c.f0] ++ one c.f1) ++ rbytes c.f2.f0) ++ (one c.f2.f1.f0 ++ one c.f2.f1.f1)).length = ((p ++ [c.f0] ++ one c.f1) ++ rbytes c.f2.f0).length + (one c.f2.f1.f0).length + (one c.f2.f1.f1).length := by rw [List.length_append (bs := one c.f2.f1.f0 ++ one c.f2.f1.f1), List.length_append (bs := one c.f2.f1.f1), Nat.add_assoc]
    rw [e4, e6] at h4
    rw [h4] at h2
    have e5 : (p ++ [c.f0] ++ one c.f1) ++ (rbytes c.f2.f0 ++ (titem c.f2.f1 ++ one c.f2.f2) ++ r) = ((p ++ [c.f0] ++ one c.f1) ++ rbytes c.f2.f0) ++ (one c.f2.f1.f0 ++ (one c.f2.f1.f1 ++ (one c.f2.f2 ++ r))) := by simp [titem]
    rw [e5, show (((p ++ [c.f0] ++ one c.f1).length + (rbytes c.f2.f0).length : Nat) : Int) = (((p ++ [c.f0] ++ one c.f1) ++ rbytes c.f2.f0).length : Int) by rw [List.length_append (bs := rbytes c.f2.f0)], show (3 : Nat) = 1 + 1 + 1 from rfl, h2, nums]
    simp only [Option.map_some]
    rw [hl]
    simp [cplain, e1, hr0, titem]
    refine ⟨rfl, rfl, rfl, ?_⟩
    omega
  rw [if_neg e1] at hcb
  by_cases e2 : c.f0 = 2 ∨ c.f0 = 4
  · obtain ⟨hx, hy, hl⟩ := hcb _ (if_pos e2)
    rw [hn _ hx]
    simp only
    rw [if_neg e1, if_pos e2, hy, gfront_told _ _ _ (h3 e2) hc.front]
    simp only
    rw [if_pos trivial, hl]
    rcases e2 with e2 | e2
    · simp [cplain, e2, hr0]
      omega
    · simp [cplain, e2, hr0]
      omega
  rw [if_neg e2] at hcb
  by_cases e3 : c.f0 = 3
  · obtain ⟨hx, hy, hl⟩ := hcb _ (if_pos e3)
    rw [hn _ hx]
    simp only
    rw [if_neg e1, if_neg e2, if_pos e3, hy, nums_one _ _ _ hc.fuel.1 hc.fuel.2 0, nums]
    simp only [Option.map_some]
    rw [hl]
    simp [cplain, e3, hr0]
    refine ⟨rfl, ?_⟩
    omega
  rw [if_neg e3] at hcb
  by_cases e5 : c.f0 = 5
  · obtain ⟨hx, hy, hl⟩ := hcb _ (if_pos e5)
    rw [hn _ hx]
    simp only
    rw [if_neg e1, if_neg e2, if_neg e3, if_pos e5, hy, show p ++ [c.f0] ++ one c.f1 ++ (titem c.f2.f1 ++ r) = p ++ [c.f0] ++ one c.f1 ++ (one c.f2.f1.f0 ++ (one c.f2.f1.f1 ++ r)) by simp [titem], nums_two _ _ _ _ hc.time.1 hc.time.2 0, nums]
    simp only [Option.map_some]
    rw [hl]
    simp [cplain, e5, hr0, titem]
    refine ⟨rfl, rfl, ?_⟩
    omega
  rw [if_neg e5] at hcb
  obtain ⟨hx, hy, hl⟩ := hcb _ rfl
  rw [hn _ hx]
  simp only
  rw [if_neg e1, if_neg e2, if_neg e3, if_neg e5, hl]
  have e6 : c.f0 = 6 := by omega
  simp [cplain, e6, hr0]
  omega
theorem RSame_refl {k : Nat} (l : List S103) (hm : l.length ≤ 1000) (hk : 2 * l.length + 2 < k) : runnelref03_Same.f k l l = some true := by
  have hx : (1000 : Nat) ≤ maxLen := by unfold maxLen; omega
  unfold runnelref03_Same.f
  rw [ROrder_f l l (by omega) hk, ord_ok.refl]
  rfl
theorem rdc_at (l : List S40) (i : Nat) (h : i < l.length) : rd_T40 l (i : Int) = l[i] := by unfold rd_T40; rw [Int.toNat_natCast, List.getD_eq_getElem?_getD, List.getElem?_eq_getElem h]; rfl
theorem rtitem_byte (t : S36) : ∀ x ∈ titem t, 0 ≤ x ∧ x < 256 := by
  intro x hx
  rw [titem, List.mem_append] at hx
  exact hx.elim (one_byte _ x) (one_byte _ x)
theorem cbytes_byte (c : S40) (hc : cok c) (h : cchk c = 0) : ∀ x ∈ cbytes c, 0 ≤ x ∧ x < 256 := by
  obtain ⟨h0, h5, h3, hr⟩ := cchk_ok c hc h
  intro x hx
  rw [cbytes, List.mem_cons] at hx
  rcases hx with rfl | hx
  · omega
  split at hx
  · rw [txt, List.mem_append] at hx
    exact hx.elim (enc_byte _ x) (bytesOf_byte _ x)
  · rw [List.mem_append] at hx
    rcases hx with hx | hx
    · exact one_byte _ x hx
    split at hx
    · rename_i e
      obtain ⟨h16, hg⟩ := chk_good _ (hr e) hc.row
      rw [List.mem_append, List.mem_append] at hx
      rcases hx with hx | hx | hx
      · exact rbytes_byte _ hg x hx
      · exact rtitem_byte _ x hx
      · exact one_byte _ x hx
    split at hx
    · exact tfront_byte _ x hx
    split at hx
    · exact one_byte _ x hx
    split at hx
    · exact rtitem_byte _ x hx
    · cases hx
theorem Plain_f {k : Nat} (c : S40) (hk : 4 ≤ k) : runnelref26_Plain.f k c.f0 c.f1 c.f2.f0 c.f2.f1.f0 c.f2.f1.f1 c.f2.f2 c.f3 c.f4 c.f5 =
    some (c.f0, (if 1 ≤ c.f0 ∧ c.f0 ≤ 6 then c.f1 else 0), (if c.f0 = 1 then c.f2.f0 else []), (if c.f0 = 1 ∨ c.f0 = 5 then c.f2.f1.f0 else 0), (if c.f0 = 1 ∨ c.f0 = 5 then c.f2.f1.f1 else 0), (if c.f0 = 1 then c.f2.f2 else 0), (if c.f0 = 2 ∨ c.f0 = 4 then c.f3 else []), (if c.f0 = 3 then c.f4 else 0), (if c.f0 = 0 then c.f5 else [])) := by
  obtain ⟨k, rfl⟩ : ∃ n, k = n + 4 := ⟨k - 4, by omega⟩
  generalize hd : c.f0 = d
  have key : ∀ (b : Bool) (x : Int), b = decide (1 ≤ d ∧ d ≤ 6) → runnelref26_Plain.j0 (k + 4) b d c.f1 c.f2.f0 c.f2.f1.f0 c.f2.f1.f1 c.f2.f2 c.f3 c.f4 c.f5 d 0 0 0 0 0 = some (d, (if 1 ≤ d ∧ d ≤ 6 then c.f1 else 0), (if d = 1 then c.f2.f0 else []), (if d = 1 ∨ d = 5 then c.f2.f1.f0 else 0), (if d = 1 ∨ d = 5 then c.f2.f1.f1 else 0), (if d = 1 then c.f2.f2 else 0), (if d = 2 ∨ d = 4 then c.f3 else []), (if d = 3 then c.f4 else 0), (if d = 0 then c.f5 else [])) := by
    intro b _ hb
    subst hb
    simp only [runnelref26_Plain.j0, runnelref26_Plain.j1, runnelref26_Plain.j2, decide_eq_true_eq]
    by_cases e0 : d = 0
    · subst e0; simp
    by_cases e1 : d = 1
    · subst e1; simp
    by_cases e2 : d = 2
    · subst e2; simp
    by_cases e4 : d = 4
    · subst e4; simp
    by_cases e3 : d = 3
    · subst e3; simp
    by_cases e5 : d = 5
    · subst e5; simp
    by_cases hr : 1 ≤ d ∧ d ≤ 6
    · simp [e0, e1, e2, e3, e4, e5, hr]
    · simp [e0, e1, e2, e3, e4, e5, hr]
  unfold runnelref26_Plain.f
  by_cases h : d ≥ 1
  · rw [if_pos h]
    exact key _ 0 (by by_cases h6 : d ≤ 6 <;> simp [h6] <;> omega)
  · rw [if_neg h]
    exact key _ 0 (by simp; omega)
theorem RSame_plain {k : Nat} (l : List S103) (hm : l.length ≤ 1000) (hg : ∀ x ∈ l, good x) (hk : 2 * l.length + 2 < k) : runnelref03_Same.f k (l.map plain) l = some true := by
  have hx : (1000 : Nat) ≤ maxLen := by unfold maxLen; omega
  unfold runnelref03_Same.f
  rw [ROrder_f (l.map plain) l (by rw [List.length_map]; omega) (by rw [List.length_map]; omega), plain_same l hg]
  rfl
theorem RSame_nil {k : Nat} (hk : 10 ≤ k) : runnelref03_Same.f k [] [] = some true := by
  have := RSame_plain (k := k) [] (by simp) (by simp) (by simp; omega)
  exact this
theorem Much_l0 (l : List S40) (hm : l.length ≤ 1000) (hw : ∀ c ∈ l, c.f2.f0.length ≤ maxLen) (d : Nat) : ∀ (k i : Nat), i + d = l.length → d + maxLen < k → ∃ b, runnelref26_Much.l0 k l (i : Int) = some b ∧ (b = false → ∀ c ∈ l.drop i, c.f2.f0.length ≤ 30 ∧ c.f3.length ≤ 30 ∧ c.f5.length ≤ 70000) := by
  induction d with
  | zero =>
    intro k i hi hk
    obtain ⟨k, rfl⟩ : ∃ n, k = n + 1 := ⟨k - 1, by omega⟩
    refine ⟨false, ?_, ?_⟩
    · simp only [runnelref26_Much.l0]
      rw [if_neg (by omega)]
    · intro _ c hc
      rw [List.drop_of_length_le (by omega)] at hc
      cases hc
  | succ d ih =>
    intro k i hi hk
    obtain ⟨k, rfl⟩ : ∃ n, k = n + 1 := ⟨k - 1, by omega⟩
    have hil : i < l.length := by omega
    have hx := hw _ (List.getElem_mem hil)
    obtain ⟨b, hb, hb2⟩ := Long_f (k := k) l[i].f2.f0 hx (by omega)
    obtain ⟨b', h1, h2⟩ := ih k (i + 1) (by omega) (by omega)
    simp only [runnelref26_Much.l0]
    rw [if_pos (by omega), if_pos (by omega), rdc_at l i hil, hb]
    simp only [Option.bind_some]
    cases b with
    | true => exact ⟨true, by rw [if_pos rfl], by simp⟩
    | false =>
      rw [if_neg (by decide)]
      by_cases h3 : (l[i].f3.length : Int) > 30
      · exact ⟨true, by rw [if_pos h3], by simp⟩
      rw [if_neg h3]
      by_cases h5 : (l[i].f5.length : Int) > 70000
      · exact ⟨true, by rw [if_pos h5], by simp⟩
      rw [if_neg h5, wrap_in _ (by omega) (by omega), show ((i : Int) + 1) = ((i + 1 : Nat) : Int) by omega]
      refine ⟨b', h1, fun hb' c hc => ?_⟩
      rw [List.drop_eq_getElem_cons hil, List.mem_cons] at hc
      rcases hc with rfl | hc
      · exact ⟨(hb2 rfl).1, by omega, by omega⟩
      · exact h2 hb' c hc
def pl (c : S40) : S40 :=
  ⟨c.f0, if 1 ≤ c.f0 ∧ c.f0 ≤ 6 then c.f1 else 0, ⟨if c.f0 = 1 then c.f2.f0 else [], ⟨if c.f0 = 1 ∨ c.f0 = 5 then c.f2.f1.f0 else 0, if c.f0 = 1 ∨ c.f0 = 5 then c.f2.f1.f1 else 0⟩, if c.f0 = 1 then c.f2.f2 else 0⟩, if c.f0 = 2 ∨ c.f0 = 4 then c.f3 else [], if c.f0 = 3 then c.f4 else 0, if c.f0 = 0 then c.f5 else []⟩
theorem b0_any (n : Int) (h : n = 1 ∨ n = 2 ∨ n = 4 ∨ n = 8 ∨ n = 16 ∨ n = 32) : (Go.bits .and .i64 0 n > 0) = False := by
  rcases h with h | h | h | h | h | h <;> subst h <;> (simp only [eq_iff_iff, iff_true, iff_false]; decide +kernel)
theorem wplain_f {k : Nat} (c : S40) (hc : cok c) (hk : 5 ≤ k) : wire_Plain.f k c.f0 c.f1 c.f2.f0 c.f2.f1.f0 c.f2.f1.f1 c.f2.f2 c.f3 c.f4 c.f5 =
    some ((pl c).f0, (pl c).f1, (pl c).f2.f0, (pl c).f2.f1.f0, (pl c).f2.f1.f1, (pl c).f2.f2, (pl c).f3, (pl c).f4, (pl c).f5) := by
  obtain ⟨k, rfl⟩ : ∃ n, k = n + 4 := ⟨k - 4, by omega⟩
  have h5 : c.f5.length < 140737488355328 := by have := hc.sheetl; omega
  have h2 : c.f2.f0.length < 4398046511104 := by have := hc.rowl; omega
  have h3 : c.f3.length < 8796093022208 := by have := hc.frontl; omega
  unfold wire_Plain.f pl
  rw [uses_f _ (by omega)]
  generalize c.f0 = d
  simp only [Option.bind_some]
  by_cases e0 : d = 0
  · subst e0
    simp only [useOf, if_true, wire_Plain.j0, wire_Plain.j1, wire_Plain.j2, wire_Plain.j3, b4_1, b4_2, b4_4, b4_8, b4_16, b4_32, if_false, slices_Clone_byte_byte.f, api_Val.f, api_Time_54.f, Option.bind_some]; simp [h2, h3, h5]
  by_cases e1 : d = 1
  · subst e1
    simp only [useOf, show ¬ ((1 : Int) = 0) by decide, if_true, wire_Plain.j0, wire_Plain.j1, wire_Plain.j2, wire_Plain.j3, b9_1, b9_2, b9_4, b9_8, b9_16, b9_32, if_false, slices_Clone_byte_byte.f, api_Val.f, api_Time_54.f, Option.bind_some]; simp [h2, h3, h5]
  by_cases e2 : d = 2
  · subst e2
    simp only [useOf, show ¬ ((2 : Int) = 0) by decide, show ¬ ((2 : Int) = 1) by decide, true_or, if_true, wire_Plain.j0, wire_Plain.j1, wire_Plain.j2, wire_Plain.j3, b33_1, b33_2, b33_4, b33_8, b33_16, b33_32, if_false, slices_Clone_byte_byte.f, api_Val.f, api_Time_54.f, Option.bind_some]; simp [h2, h3, h5]
  by_cases e4 : d = 4
  · subst e4
    simp only [useOf, show ¬ ((4 : Int) = 0) by decide, show ¬ ((4 : Int) = 1) by decide, or_true, if_true, wire_Plain.j0, wire_Plain.j1, wire_Plain.j2, wire_Plain.j3, b33_1, b33_2, b33_4, b33_8, b33_16, b33_32, if_false, slices_Clone_byte_byte.f, api_Val.f, api_Time_54.f, Option.bind_some]; simp [h2, h3, h5]
  by_cases e3 : d = 3
  · subst e3
    simp only [useOf, show ¬ ((3 : Int) = 0) by decide, show ¬ ((3 : Int) = 1) by decide, show ¬ ((3 : Int) = 2 ∨ (3 : Int) = 4) by decide, if_true, wire_Plain.j0, wire_Plain.j1, wire_Plain.j2, wire_Plain.j3, b3_1, b3_2, b3_4, b3_8, b3_16, b3_32, if_false, slices_Clone_byte_byte.f, api_Val.f, api_Time_54.f, Option.bind_some]; simp [h2, h3, h5]
  by_cases e5 : d = 5
  · subst e5
    simp only [useOf, show ¬ ((5 : Int) = 0) by decide, show ¬ ((5 : Int) = 1) by decide, show ¬ ((5 : Int) = 2 ∨ (5 : Int) = 4) by decide, show ¬ ((5 : Int) = 3) by decide, if_true, wire_Plain.j0, wire_Plain.j1, wire_Plain.j2, wire_Plain.j3, b17_1, b17_2, b17_4, b17_8, b17_16, b17_32, if_false, slices_Clone_byte_byte.f, api_Val.f, api_Time_54.f, Option.bind_some]; simp [h2, h3, h5]
  by_cases e6 : d = 6
  · subst e6
    simp only [useOf, show ¬ ((6 : Int) = 0) by decide, show ¬ ((6 : Int) = 1) by decide, show ¬ ((6 : Int) = 2 ∨ (6 : Int) = 4) by decide, show ¬ ((6 : Int) = 3) by decide, show ¬ ((6 : Int) = 5) by decide, if_true, wire_Plain.j0, wire_Plain.j1, wire_Plain.j2, wire_Plain.j3, b1_1, b1_2, b1_4, b1_8, b1_16, b1_32, if_false, slices_Clone_byte_byte.f, api_Val.f, api_Time_54.f, Option.bind_some]; simp [h2, h3, h5]
  have h16 : ¬ (1 ≤ d ∧ d ≤ 6) := by omega
  simp only [useOf, e0, e1, e2, e3, e4, e5, e6, or_self, if_true, wire_Plain.j0, wire_Plain.j1, wire_Plain.j2, wire_Plain.j3, b0_any 1 (by decide), b0_any 2 (by decide), b0_any 4 (by decide), b0_any 8 (by decide), b0_any 16 (by decide), b0_any 32 (by decide), if_false, slices_Clone_byte_byte.f, api_Val.f, api_Time_54.f, Option.bind_some, h16]
theorem rplain_f {k : Nat} (c : S40) (hk : 4 ≤ k) : runnelref26_Plain.f k c.f0 c.f1 c.f2.f0 c.f2.f1.f0 c.f2.f1.f1 c.f2.f2 c.f3 c.f4 c.f5 =
    some ((pl c).f0, (pl c).f1, (pl c).f2.f0, (pl c).f2.f1.f0, (pl c).f2.f1.f1, (pl c).f2.f2, (pl c).f3, (pl c).f4, (pl c).f5) := Plain_f c hk
theorem CSame_one (x y : S40) {k : Nat} (hk : 4000 < k) (h0 : x.f0 = y.f0) (h1 : x.f1 = y.f1) (h4 : x.f4 = y.f4) (h5 : x.f5 = y.f5) (hrow : ∀ k, 3000 < k → runnelref03_Same.f k x.f2.f0 y.f2.f0 = some true) (ht : x.f2.f1 = y.f2.f1) (hd : x.f2.f2 = y.f2.f2) (h3 : x.f3 = y.f3) (hl : y.f3.length ≤ 30) : runnelref26_Same.f k [x] [y] false = some true := by
  obtain ⟨k, rfl⟩ : ∃ n, k = n + 2 := ⟨k - 2, by omega⟩
  have r1 : rd_T40 [x] 0 = x := rfl
  have r2 : rd_T40 [y] 0 = y := rfl
  have hw : wrap64 (0 + 1) = 1 := wrap_in _ (by omega) (by omega)
  unfold runnelref26_Same.f
  rw [if_pos (by simp)]
  simp only [runnelref26_Same.l0]
  rw [if_pos (by simp), if_pos (by decide), if_pos (by simp), r1, r2, if_pos h0, if_pos h1, if_pos h4, if_pos (by rw [h5]), hrow _ (by omega)]
  simp only [Option.bind_some]
  rw [if_pos trivial, ht, if_neg (by simp), if_pos hd, h3, TSame_refl _ (by omega) (by omega)]
  simp only [Option.bind_some]
  rw [if_pos trivial, hw, if_neg (by simp)]
theorem CSameP (c : S40) (hc : cok c) (hz : cchk c = 0) {k : Nat} (hk : 4000 < k) : runnelref26_Same.f k [cplain c] [pl c] false = some true := by
  obtain ⟨g0, g5, g3, gr⟩ := cchk_ok c hc hz
  refine CSame_one _ _ hk rfl ?_ rfl rfl (fun k hk => ?_) ?_ rfl rfl ?_
  · show (if c.f0 = 0 then 0 else c.f1) = (if 1 ≤ c.f0 ∧ c.f0 ≤ 6 then c.f1 else 0)
    by_cases h : c.f0 = 0
    · rw [if_pos h, if_neg (by omega)]
    · rw [if_neg h, if_pos (by omega)]
  · show runnelref03_Same.f k (if c.f0 = 1 then c.f2.f0.map plain else []) (if c.f0 = 1 then c.f2.f0 else []) = some true
    by_cases h : c.f0 = 1
    · rw [if_pos h, if_pos h]
      obtain ⟨h16, hgd⟩ := chk_good _ (gr h) hc.row
      exact RSame_plain _ (by omega) hgd (by omega)
    · rw [if_neg h, if_neg h]; exact RSame_nil (by omega)
  · show (if c.f0 = 1 ∨ c.f0 = 5 then c.f2.f1 else ⟨0, 0⟩) = _
    unfold pl
    by_cases h : c.f0 = 1 ∨ c.f0 = 5
    · simp only [if_pos h]
    · simp only [if_neg h]
  · show (if c.f0 = 2 ∨ c.f0 = 4 then c.f3 else []).length ≤ 30
    split
    · exact hc.frontl
    · exact Nat.zero_le _
theorem CSamePl (c : S40) (hc : cok c) {k : Nat} (hk : 4000 < k) : runnelref26_Same.f k [pl c] [pl c] false = some true := by
  refine CSame_one _ _ hk rfl rfl rfl rfl (fun k hk => ?_) rfl rfl rfl ?_
  · show runnelref03_Same.f k (if c.f0 = 1 then c.f2.f0 else []) (if c.f0 = 1 then c.f2.f0 else []) = some true
    by_cases h : c.f0 = 1
    · rw [if_pos h]; exact RSame_refl _ (by have := hc.rowl; omega) (by have := hc.rowl; omega)
    · rw [if_neg h]; exact RSame_nil (by omega)
  · show (if c.f0 = 2 ∨ c.f0 = 4 then c.f3 else []).length ≤ 30
    split
    · exact hc.frontl
    · exact Nat.zero_le _
end Go.Proofs.Ytpplklickfioiaa.BWirePuts
