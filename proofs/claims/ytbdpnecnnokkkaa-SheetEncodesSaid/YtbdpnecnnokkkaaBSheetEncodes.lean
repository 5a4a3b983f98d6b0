/- SheetEncodes: what the printed functions answer, for each input, by plain mathematics. -/
import Derived.Test.YtbdpnecnnokkkaaOSheetEncodesx
import Derived.Test.YtbdpnecnnokkkaaEqPure
import Derived.Test.YtbdpnecnnokkkaaNumPure
namespace Go.Proofs.Ytbdpnecnnokkkaa.BSheetEncodes
open Go.RowKit Go.Proofs.Ytbdpnecnnokkkaa.PSheetEncodes Go.Proofs.Ytbdpnecnnokkkaa.EqPure Go.Proofs.Ytbdpnecnnokkkaa.NumPure Go.Proofs.YtbdpnecnnokkkaaW.PrintWords Go.Proofs.YtbdpnecnnokkkaaW.PrintLast Go.Proofs.YtbdpnecnnokkkaaW.PrintMore
set_option linter.unusedVariables false
set_option linter.unusedSimpArgs false
attribute [local irreducible] IntKind.wrap Go.bits shr shl maxLen str
theorem size_l0 (d : Nat) : ∀ (k n : Nat) (c : Int), (hi n).length = d → d < k → 0 ≤ c → c + d ≤ 100 → num_Size.l0 k n c = some (c + d) := by
  induction d with
  | zero =>
    intro k n c hd hk _ _
    obtain ⟨k, rfl⟩ : ∃ m, k = m + 1 := ⟨k - 1, by omega⟩
    have h0 : n = 0 := by
      rcases Nat.eq_zero_or_pos n with h | h
      · exact h
      · rw [hi_pos h] at hd; simp at hd
    subst h0
    simp only [num_Size.l0]
    rw [if_neg (by omega)]
    simp
  | succ d ih =>
    intro k n c hd hk h0 h1
    obtain ⟨k, rfl⟩ : ∃ m, k = m + 1 := ⟨k - 1, by omega⟩
    rcases Nat.eq_zero_or_pos n with h | h
    · subst h; rw [hi_zero] at hd; simp at hd
    · rw [hi_pos h] at hd
      simp only [List.length_append, List.length_singleton] at hd
      simp only [num_Size.l0]
      rw [if_pos (by omega), show ((n : Int) / 128) = ((n / 128 : Nat) : Int) by omega]
      rw [wrap_in _ (by omega) (by omega), ih k _ _ (by omega) (by omega) (by omega) (by omega)]
      congr 1
      omega
theorem size_f {k n : Nat} (hn : n < 18446744073709551616) (hk : 12 ≤ k) : num_Size.f k n = some ((enc n).length : Int) := by
  have h := hi_ten hn
  unfold num_Size.f
  rw [show ((n : Int) / 128) = ((n / 128 : Nat) : Int) by omega, size_l0 _ k _ 1 rfl (by omega) (by omega) (by omega), enc_length]
  congr 1
  omega
theorem shr128 (n e : Nat) (he : e ≤ 9) : shr .u64 (n : Int) (7 * (e : Int)) = ((n / 128 ^ e : Nat) : Int) := by
  have h1 : (7 * (e : Int)).toNat = 7 * e := by omega
  have h2 : min (7 * e) IntKind.u64.bits = 7 * e := Nat.min_eq_left (by simp only [IntKind.bits]; omega)
  have h3 : (128 : Nat) ^ e = 2 ^ (7 * e) := by rw [Nat.pow_mul]
  have h4 : shr .u64 (n : Int) (7 * (e : Int)) = (n : Int) / 2 ^ min (7 * (e : Int)).toNat IntKind.u64.bits := by with_unfolding_all rfl
  rw [h4, h1, h2, h3, Int.natCast_ediv, Int.natCast_pow]
  rfl
theorem put_l0 (n m : Nat) (e : List Int) (hm : m ≤ 9) (h1 : ∀ j, j < m → e.drop j = (((n / 128 ^ (m - j) % 128 : Nat) : Int) + 128) :: e.drop (j + 1)) (h2 : e.drop m = [((n % 128 : Nat) : Int)])
    (h3 : e.drop (m + 1) = []) (d : Nat) : ∀ (k j : Nat) (acc : List Int), j + d = m + 1 → d < k → acc.length + d ≤ capN →
    num_put.l0 k acc n ((m + 1 : Nat) : Int) ((m + 1 : Nat) : Int) j = some (acc ++ e.drop j) := by
  induction d with
  | zero =>
    intro k j acc hj hk _
    obtain ⟨k, rfl⟩ : ∃ m, k = m + 1 := ⟨k - 1, by omega⟩
    simp only [num_put.l0]
    rw [if_neg (by omega), show j = m + 1 by omega, h3, List.append_nil]
  | succ d ih =>
    intro k j acc hj hk ha
    obtain ⟨k, rfl⟩ : ∃ m, k = m + 1 := ⟨k - 1, by omega⟩
    have hd9 : d ≤ 9 := by omega
    have hc : acc.length < 140737488355328 := cap_lt (Nat.le_trans (Nat.le_add_right _ _) ha)
    have hi0 : ∀ x : Int, (acc ++ [x]).length + d ≤ capN := fun x => by rw [List.length_append, List.length_singleton]; omega
    clear ha
    have e1 : wrap64 (((m + 1 : Nat) : Int) - 1) = (m : Int) := by rw [wrap_in _ (by omega) (by omega)]; omega
    have e2 : wrap64 ((m : Int) - (j : Int)) = (d : Int) := by rw [wrap_in _ (by omega) (by omega)]; omega
    have e3 : wrap64 (7 * (d : Int)) = 7 * (d : Int) := wrap_in _ (by omega) (by omega)
    have e4 : wrap64 ((j : Int) + 1) = ((j + 1 : Nat) : Int) := by rw [wrap_in _ (by omega) (by omega)]; omega
    have e5 : bits .and .u8 (((n / 128 ^ d : Nat) : Int) % 256) 127 = ((n / 128 ^ d % 128 : Nat) : Int) := by
      generalize n / 128 ^ d = q
      rw [u8_and127 _ (by omega) (by omega)]; omega
    have e6 : bits .or .u8 ((n / 128 ^ d % 128 : Nat) : Int) 128 = ((n / 128 ^ d % 128 : Nat) : Int) + 128 := by
      generalize n / 128 ^ d = q
      rw [u8_or_128 _ (by omega) (by omega)]
    have hlt : (j : Int) < ((m + 1 : Nat) : Int) := by omega
    simp only [num_put.l0]
    rw [if_pos hlt, e1, e2, e3, if_pos (by omega), shr128 n d hd9, e4, e5, e6, if_pos hc, if_pos hc]
    by_cases hd : d = 0
    · subst hd
      obtain rfl : j = m := by omega
      rw [if_neg (Int.lt_irrefl _), ih k (j + 1) _ (by omega) (by omega) (hi0 _), List.append_assoc, h3, h2]
      simp
    · have hjm : j < m := by omega
      rw [if_pos (by omega), ih k (j + 1) _ (by omega) (by omega) (hi0 _), List.append_assoc, h1 j hjm, show m - j = d by omega]
      rfl
theorem put_f {k n : Nat} (l : List Int) (hn : n < 18446744073709551616) (hk : 12 ≤ k) (hl : l.length + 10 ≤ capN) : num_put.f k l n = some (l ++ enc n) := by
  have h10 := hi_ten hn
  unfold num_put.f
  rw [size_f hn hk, enc_length]
  simp only [Option.bind_some]
  have h := put_l0 n (hi (n / 128)).length (enc n) h10 (fun j hj => enc_drop hj) (enc_last n) (List.drop_of_length_le (by rw [enc_length]; exact Nat.le_refl _)) _ k 0 l (Nat.zero_add _) (by omega) (by omega)
  exact h
theorem fresh_f (l : List Int) (hl : l.length + 10 ≤ capN) : num_fresh.f l = some l := by
  unfold num_fresh.f
  simp only [Option.bind_some]
  rw [if_pos (cap_lt (by simp; omega))]
  rfl
theorem Put_f {k n : Nat} (l : List Int) (hn : n < 18446744073709551616) (hk : 12 ≤ k) (hl : l.length + 10 ≤ capN) : num_Put.f k l n = some (l ++ enc n) := by
  unfold num_Put.f
  rw [fresh_f l hl]
  simp only [Option.bind_some]
  rw [put_f l hn hk hl]
  rfl
theorem Bytes_l0 (n : Nat) : ∀ (k : Nat) (acc : List Int), (hi n).length < k → n < 18446744073709551616 → acc.length + (hi n).length ≤ capN → runnelref01_Bytes.l0 k n acc = some (hi n ++ acc) := by
  induction n using Nat.strongRecOn with
  | ind n ih =>
    intro k acc hk hn ha
    obtain ⟨k, rfl⟩ : ∃ m, k = m + 1 := ⟨k - 1, by omega⟩
    simp only [runnelref01_Bytes.l0]
    rcases Nat.eq_zero_or_pos n with h | h
    · subst h
      rw [if_neg (by omega), hi_zero]
      rfl
    · rw [if_pos (by omega)]
      simp only [Option.bind_some]
      rw [hi_pos h] at hk ha
      simp only [List.length_append, List.length_singleton] at hk ha
      rw [if_pos (cap_lt (by simp; omega))]
      have e1 : IntKind.u64.wrap (Int.tmod (n : Int) 128 + 128) = ((n % 128 : Nat) : Int) + 128 := by
        rw [Int.tmod_eq_emod_of_nonneg (by omega), u64_in _ (by omega) (by omega)]; omega
      have e2 : IntKind.u64.wrap (Int.tdiv (n : Int) 128) = ((n / 128 : Nat) : Int) := by
        rw [Int.tdiv_eq_ediv_of_nonneg (by omega), u64_in _ (by omega) (by omega)]; omega
      rw [e1, e2, ih (n / 128) (by omega) k _ (by omega) (by omega) (by simp; omega)]
      rw [hi_pos h, show (((n % 128 : Nat) : Int) + 128) % 256 = ((n % 128 : Nat) : Int) + 128 by omega]
      simp
theorem Bytes_f {k n : Nat} (hn : n < 18446744073709551616) (hk : 12 ≤ k) : runnelref01_Bytes.f k n = some (enc n) := by
  have h := hi_ten hn
  have hc := cap_ge
  unfold runnelref01_Bytes.f
  have e1 : Int.tmod (n : Int) 128 % 256 = ((n % 128 : Nat) : Int) := by rw [Int.tmod_eq_emod_of_nonneg (by omega)]; omega
  have e2 : IntKind.u64.wrap (Int.tdiv (n : Int) 128) = ((n / 128 : Nat) : Int) := by rw [Int.tdiv_eq_ediv_of_nonneg (by omega), u64_in _ (by omega) (by omega)]; omega
  rw [e1, e2, Bytes_l0 _ k _ (by omega) (by omega) (by simp; omega), enc]
theorem Get_l0 (l : List Int) (hl : ∀ x ∈ l, 0 ≤ x ∧ x < 256) (at0 : Int) (d : Nat) : ∀ (k i : Nat) (n : Int), 2 * d < k → (l.length : Int) < i + d → i ≤ l.length → l.length + 10 ≤ capN → 0 ≤ n → n < 18446744073709551616 →
    num_Get.l0 k l at0 n i = some (Get l i n at0 d) := by
  induction d with
  | zero => intro k i n hk hd hi _ _ _; omega
  | succ d ih =>
    intro k i n hk hd hi hc hn0 hn1
    obtain ⟨k, rfl⟩ : ∃ m, k = m + 1 := ⟨k - 1, by omega⟩
    obtain ⟨k, rfl⟩ : ∃ m, k = m + 1 := ⟨k - 1, by omega⟩
    simp only [num_Get.l0, num_Get.j2, Get]
    by_cases h : (i : Int) < (l.length : Int)
    · rw [if_pos h, if_pos h]
      have h0 : (0 : Int) ≤ (i : Int) := by omega
      have hb := hl (l.getD i 0) (by rw [List.getD_eq_getElem?_getD, List.getElem?_eq_getElem (by omega)]; exact List.getElem_mem _)
      have hcap : (i : Int) + 1 ≤ 9223372036854775807 := by have := cap_lt (Nat.le_trans (Nat.le_add_right _ _) hc); omega
      have e0 : rd l (i : Int) = l.getD i 0 := rfl
      have e1 : (l.getD (i : Int).toNat 0) = l.getD i 0 := rfl
      have e2 : wrap64 ((i : Int) + 1) = ((i + 1 : Nat) : Int) := by rw [wrap_in _ (by omega) (by omega)]; omega
      have e3 : ((i : Int) + 1) = ((i + 1 : Nat) : Int) := by omega
      rw [e0, e1, if_pos h0, if_pos h0, if_pos h]
      generalize l.getD i 0 = b at hb ⊢
      have e4 : bits .and .u8 b 127 = b % 128 := u8_and127 b hb.1 hb.2
      by_cases g : 144115188075855872 ≤ n
      · have g1 : decide (n / 144115188075855872 > 0) = true := decide_eq_true (by omega)
        rw [g1, if_pos (Or.inr g)]
        simp only [if_true]
        split
        · split <;> rfl
        · rfl
      · have g1 : decide (n / 144115188075855872 > 0) = false := decide_eq_false (by omega)
        rw [g1]
        simp only [if_true, Bool.false_eq_true, if_false]
        have e5 : bits .or .u64 (IntKind.u64.wrap (n * 128)) (IntKind.u64.wrap (b % 128)) = n * 128 + b % 128 := u64_or_low n (b % 128) hn0 (by omega) (by omega) (by omega)
        rw [e4, e5, e2, e3]
        have rest : (if b < 128 then some (n * 128 + b % 128, ((i + 1 : Nat) : Int), (0 : Int)) else num_Get.l0 k l at0 (n * 128 + b % 128) ((i + 1 : Nat) : Int)) =
            some (if b < 128 then (n * 128 + b % 128, ((i + 1 : Nat) : Int), (0 : Int)) else Get l ((i + 1 : Nat) : Int) (n * 128 + b % 128) at0 d) := by
          by_cases hb1 : b < 128
          · rw [if_pos hb1, if_pos hb1]
          · rw [if_neg hb1, if_neg hb1, ih k (i + 1) _ (by omega) (by omega) (by omega) hc (by omega) (by omega)]
        by_cases ha : (i : Int) = at0
        · rw [if_pos ha]
          by_cases hb2 : b = 128
          · rw [if_pos hb2, if_pos (Or.inl ⟨ha, hb2⟩)]
          · rw [if_neg hb2, if_neg (show ¬ (((i : Int) = at0 ∧ b = 128) ∨ 144115188075855872 ≤ n) from fun o => o.elim (fun o => hb2 o.2) g)]
            exact rest
        · rw [if_neg ha, if_neg (show ¬ (((i : Int) = at0 ∧ b = 128) ∨ 144115188075855872 ≤ n) from fun o => o.elim (fun o => ha o.1) g)]
          exact rest
    · rw [if_neg h, if_neg h]
theorem get_f {k : Nat} (l : List Int) (hl : ∀ x ∈ l, 0 ≤ x ∧ x < 256) (at0 : Int) (hk : 2 * l.length + 8 ≤ k) (hc : l.length + 10 ≤ capN) : num_Get.f k l at0 = some (NumPure.get l at0) := by
  obtain ⟨k, rfl⟩ : ∃ m, k = m + 1 := ⟨k - 1, by omega⟩
  unfold num_Get.f NumPure.get
  simp only [num_Get.j0]
  by_cases h0 : at0 < 0
  · rw [if_pos h0, if_pos (Or.inl h0)]
    rfl
  · rw [if_neg h0]
    by_cases h1 : (l.length : Int) < at0
    · rw [decide_eq_true (show at0 > (l.length : Int) from h1), if_pos (Or.inr h1)]
      rfl
    · rw [decide_eq_false (show ¬ at0 > (l.length : Int) from h1), if_neg (show ¬ (false = true) by decide), if_neg (show ¬ (at0 < 0 ∨ (l.length : Int) < at0) from fun o => o.elim h0 h1)]
      obtain ⟨a, rfl⟩ := Int.eq_ofNat_of_zero_le (by omega : 0 ≤ at0)
      exact Get_l0 l hl _ _ k a 0 (by omega) (by omega) (by omega) hc (by omega) (by omega)
theorem get_range (l : List Int) (hl : ∀ x ∈ l, 0 ≤ x ∧ x < 256) (at0 : Int) (d : Nat) : ∀ (i n : Int), 0 ≤ n → 0 ≤ i → 0 ≤ (Get l i n at0 d).1 ∧ (Get l i n at0 d).1 < 18446744073709551616 := by
  induction d with
  | zero => intro i n _ _; exact ⟨Int.le_refl _, (by decide : (0 : Int) < 18446744073709551616)⟩
  | succ d ih =>
    intro i n hn hi
    rw [Get]
    split
    · rename_i h
      have hb : 0 ≤ l.getD i.toNat 0 ∧ l.getD i.toNat 0 < 256 := hl _ (by rw [List.getD_eq_getElem?_getD, List.getElem?_eq_getElem (by omega)]; exact List.getElem_mem _)
      generalize l.getD i.toNat 0 = b at hb ⊢
      split
      · exact ⟨Int.le_refl _, (by decide : (0 : Int) < 18446744073709551616)⟩
      · rename_i h2
        split
        · show 0 ≤ n * 128 + b % 128 ∧ n * 128 + b % 128 < 18446744073709551616
          have h3 : ¬ 144115188075855872 ≤ n := fun h3 => h2 (Or.inr h3)
          omega
        · exact ih _ _ (by omega) (by omega)
    · exact ⟨Int.le_refl _, (by decide : (0 : Int) < 18446744073709551616)⟩
theorem got_range (l : List Int) (hl : ∀ x ∈ l, 0 ≤ x ∧ x < 256) (at0 : Int) : 0 ≤ (NumPure.get l at0).1 ∧ (NumPure.get l at0).1 < 18446744073709551616 := by
  unfold NumPure.get
  split
  · exact ⟨Int.le_refl _, (by decide : (0 : Int) < 18446744073709551616)⟩
  · rename_i h
    exact get_range l hl at0 _ _ _ (Int.le_refl _) (by omega)
/-- P1.2: the way back. -/
def zag (x : Int) : Int := if x % 2 = 1 then -(x / 2) - 1 else x / 2
theorem xor_zero (a : Int) (h : -9223372036854775808 ≤ a) (h' : a ≤ 9223372036854775807) : bits .xor .i64 a 0 = a := by
  have e : bits .xor .i64 a 0 = IntKind.i64.wrap ((BitVec.ofInt 64 a ^^^ BitVec.ofInt 64 0).toNat : Int) := by with_unfolding_all rfl
  rw [e, show BitVec.ofInt 64 0 = 0#64 from rfl, BitVec.xor_zero, BitVec.toNat_ofInt, IntKind.wrap_i64]
  omega
theorem xor_ones (a : Int) (h : -9223372036854775808 ≤ a) (h' : a ≤ 9223372036854775807) : bits .xor .i64 a (-1) = -a - 1 := by
  have e : bits .xor .i64 a (-1) = IntKind.i64.wrap ((BitVec.ofInt 64 a ^^^ BitVec.ofInt 64 (-1)).toNat : Int) := by with_unfolding_all rfl
  rw [e, show BitVec.ofInt 64 (-1) = BitVec.allOnes 64 by decide, BitVec.xor_allOnes, BitVec.toNat_not, BitVec.toNat_ofInt, IntKind.wrap_i64]
  omega
theorem zag_f (x : Int) (h0 : 0 ≤ x) (h1 : x < 18446744073709551616) : num_zag.f x = some (zag x) := by
  unfold num_zag.f zag
  have e1 : bits .and .u64 x 1 = x % 2 := by
    rw [u64_and x 1 h0 h1 (by decide) (by decide), show ((1 : Int).toNat) = 1 from rfl, nat_mask1]; omega
  rw [e1, wrap_in (x / 2) (by omega) (by omega), wrap_in (x % 2) (by omega) (by omega), wrap_in (-(x % 2)) (by omega) (by omega)]
  by_cases h : x % 2 = 1
  · rw [if_pos h, h, xor_ones _ (by omega) (by omega)]
  · rw [if_neg h, show x % 2 = 0 by omega]
    exact congrArg some (xor_zero _ (by omega) (by omega))
theorem getInt_f {k : Nat} (l : List Int) (hl : ∀ x ∈ l, 0 ≤ x ∧ x < 256) (at0 : Int) (hk : 2 * l.length + 8 ≤ k) (hc : l.length + 10 ≤ capN) : num_GetInt.f k l at0 = some (zag (NumPure.get l at0).1, (NumPure.get l at0).2.1, (NumPure.get l at0).2.2) := by
  have h := got_range l hl at0
  unfold num_GetInt.f
  rw [get_f l hl at0 hk hc]
  simp only [Option.bind_some]
  rw [zag_f _ h.1 h.2]
  rfl
theorem cut_mid (p f r : List Int) (j a : Int) (hj : j = ((p.length + f.length : Nat) : Int)) (ha : a = (p.length : Int)) : ((p ++ (f ++ r)).take j.toNat).drop a.toNat = f := by
  subst hj; subst ha
  rw [Int.toNat_natCast, Int.toNat_natCast, ← List.append_assoc, show p.length + f.length = (p ++ f).length by simp, List.take_left, List.drop_left]
theorem getD_mid (p f r : List Int) (b : Int) : (p ++ (f ++ b :: r)).getD ((p.length + f.length : Nat) : Int).toNat 0 = b := by
  rw [Int.toNat_natCast, List.getD_eq_getElem?_getD, List.getElem?_append_right (by omega), List.getElem?_append_right (by omega)]
  simp
/-- What a number's reading tells: a fault, or the number whose bytes these are. -/
theorem Get_ok (p r : List Int) : ∀ (f : List Int) (d : Nat), r.length < d → (∀ x ∈ f, 128 ≤ x ∧ x < 256) → (∀ x t, f = x :: t → x ≠ 128) → (∀ x ∈ r, 0 ≤ x ∧ x < 256) →
    Get (p ++ (f ++ r)) ((p.length + f.length : Nat) : Int) (valF 0 f) (p.length : Int) d = (0, 0, 6) ∨
    ∃ (m : Nat) (t : List Int) (r' : List Int), m < 18446744073709551616 ∧ f ++ r = enc m ++ r' ∧ Get (p ++ (f ++ r)) ((p.length + f.length : Nat) : Int) (valF 0 f) (p.length : Int) d = ((m : Int), ((p.length + (enc m).length : Nat) : Int), 0) := by
  induction r with
  | nil =>
    intro f d hd hf hh _
    obtain ⟨d, rfl⟩ : ∃ m, d = m + 1 := ⟨d - 1, by omega⟩
    left
    rw [Get, if_neg (by simp)]
  | cons b r ih =>
    intro f d hd hf hh hr
    obtain ⟨d, rfl⟩ : ∃ m, d = m + 1 := ⟨d - 1, by omega⟩
    have hb := hr b (by simp)
    rw [Get, if_pos (by simp; omega), getD_mid]
    have hv0 := valF_nonneg 0 (Int.le_refl 0) f
    by_cases hbad : (((p.length + f.length : Nat) : Int) = (p.length : Int) ∧ b = 128) ∨ 144115188075855872 ≤ valF 0 f
    · rw [if_pos hbad]; exact .inl rfl
    · rw [if_neg hbad]
      have h57 : valF 0 f < 144115188075855872 := by
        rcases Int.lt_or_le (valF 0 f) 144115188075855872 with h | h
        · exact h
        · exact absurd (Or.inr h) hbad
      by_cases h : b < 128
      · rw [if_pos h]
        right
        have hce := canon_enc f hf hh b hb.1 h
        rw [valF_snoc] at hce
        refine ⟨(valF 0 f * 128 + b % 128).toNat, [], r, by omega, by rw [hce]; simp, ?_⟩
        rw [hce]
        simp only [List.length_append, List.length_singleton, Prod.mk.injEq, and_true]
        exact ⟨by omega, by omega⟩
      · rw [if_neg h, show valF 0 f * 128 + b % 128 = valF 0 (f ++ [b]) from (valF_snoc _ _ _).symm]
        have h1 := ih (f ++ [b]) d (by simp at hd; omega) (fun x hx => by
          rcases List.mem_append.1 hx with hx | hx
          · exact hf x hx
          · rw [List.mem_singleton] at hx; omega) (fun x t e => by
          rcases f with _ | ⟨y, s⟩
          · simp only [List.nil_append, List.cons.injEq] at e
            rw [← e.1]
            intro hb2
            exact hbad (.inl ⟨by simp, hb2⟩)
          · simp only [List.cons_append, List.cons.injEq] at e
            rw [← e.1]
            exact hh y s rfl) (fun x hx => hr x (by simp [hx]))
        rw [show (p ++ ((f ++ [b]) ++ r)) = p ++ (f ++ b :: r) by simp, show ((p.length + (f ++ [b]).length : Nat) : Int) = ((p.length + f.length : Nat) : Int) + 1 by simp; omega] at h1
        rcases h1 with h1 | ⟨m, t, r', h2, h3, h4⟩
        · exact .inl h1
        · exact .inr ⟨m, t, r', h2, by rw [← h3]; simp, h4⟩
/-- P1.4: whatever is got: a fault tells noughts; else these bytes are the number's own. -/
theorem get_ok (l : List Int) (hl : ∀ x ∈ l, 0 ≤ x ∧ x < 256) (at0 : Int) : (NumPure.get l at0 = (0, 0, 9) ∧ (at0 < 0 ∨ (l.length : Int) < at0)) ∨ (NumPure.get l at0 = (0, 0, 6) ∧ 0 ≤ at0 ∧ at0 ≤ l.length) ∨
    ∃ (m : Nat) (p r : List Int), m < 18446744073709551616 ∧ l = p ++ (enc m ++ r) ∧ at0 = p.length ∧ NumPure.get l at0 = ((m : Int), ((p.length + (enc m).length : Nat) : Int), 0) := by
  unfold NumPure.get
  by_cases h : at0 < 0 ∨ (l.length : Int) < at0
  · rw [if_pos h]; exact .inl ⟨rfl, h⟩
  · rw [if_neg h]
    have h0 : 0 ≤ at0 := by omega
    obtain ⟨a, rfl⟩ := Int.eq_ofNat_of_zero_le h0
    have hp : (l.take a).length = a := by rw [List.length_take]; omega
    have e : l.take a ++ ([] ++ l.drop a) = l := by simp
    have h2 := Get_ok (l.take a) (l.drop a) [] (l.length + 1 - a) (by rw [List.length_drop]; omega) (by simp) (by simp) (fun x hx => hl x (List.mem_of_mem_drop hx))
    rw [e, hp] at h2
    rcases h2 with h2 | ⟨m, t, r', h3, h4, h5⟩
    · exact .inr (.inl ⟨h2, h0, by omega⟩)
    · refine .inr (.inr ⟨m, l.take a, r', h3, ?_, by rw [hp], ?_⟩)
      · rw [← h4, e]
      · rw [hp]; exact h5
theorem Get_flags (p r : List Int) (b : Int) (hb0 : 0 ≤ b) (hb : b < 128) (g : List Int) : ∀ (f : List Int) (d : Nat), g.length < d → (∀ x ∈ f ++ g, 128 ≤ x ∧ x < 256) → (∀ x t, f ++ g = x :: t → x ≠ 128) → valF 0 (f ++ g) < 144115188075855872 →
    Get (p ++ (f ++ (g ++ b :: r))) ((p.length + f.length : Nat) : Int) (valF 0 f) (p.length : Int) d = (valF 0 (f ++ g ++ [b]), ((p.length + f.length + g.length + 1 : Nat) : Int), 0) := by
  induction g with
  | nil =>
    intro f d hd hf hh hv
    obtain ⟨d, rfl⟩ : ∃ m, d = m + 1 := ⟨d - 1, by omega⟩
    rw [List.nil_append, Get, if_pos (by simp; omega), getD_mid, if_neg, if_pos hb, valF_snoc, List.append_nil]
    · simp
    · rw [List.append_nil] at hv
      rintro (⟨_, h⟩ | h) <;> omega
  | cons x g ih =>
    intro f d hd hf hh hv
    obtain ⟨d, rfl⟩ : ∃ m, d = m + 1 := ⟨d - 1, by omega⟩
    have hx := hf x (by simp)
    have hle : valF 0 f ≤ valF 0 (f ++ x :: g) := by rw [valF_append]; exact valF_ge _ (valF_nonneg 0 (Int.le_refl 0) f) _
    rw [List.cons_append, Get, if_pos (by simp; omega), getD_mid, if_neg, if_neg (by omega), show valF 0 f * 128 + x % 128 = valF 0 (f ++ [x]) from (valF_snoc _ _ _).symm]
    · have h1 := ih (f ++ [x]) d (by simp at hd; omega) (by simpa using hf) (by simpa using hh) (by simpa using hv)
      rw [show (p ++ ((f ++ [x]) ++ (g ++ b :: r))) = p ++ (f ++ x :: (g ++ b :: r)) by simp, show ((p.length + (f ++ [x]).length : Nat) : Int) = ((p.length + f.length : Nat) : Int) + 1 by simp; omega] at h1
      rw [h1, show f ++ [x] ++ g ++ [b] = f ++ x :: g ++ [b] by simp, show ((p.length + (f ++ [x]).length + g.length + 1 : Nat) : Int) = ((p.length + f.length + (x :: g).length + 1 : Nat) : Int) by simp; omega]
    · rintro (⟨h1, h2⟩ | h)
      · have hf0 : f = [] := List.eq_nil_of_length_eq_zero (by omega)
        subst hf0
        exact hh x g rfl h2
      · omega
/-- P1.4: what is put is got, whatever stands ahead and behind. -/
theorem get_enc (p r : List Int) (n : Nat) (hn : n < 18446744073709551616) (at0 : Int) (ha : at0 = (p.length : Int)) : NumPure.get (p ++ (enc n ++ r)) at0 = ((n : Int), ((p.length + (enc n).length : Nat) : Int), 0) := by
  subst ha
  unfold NumPure.get
  rw [if_neg (by simp; omega)]
  have h1 := Get_flags p r ((n % 128 : Nat) : Int) (by omega) (by omega) (hi (n / 128)) [] ((p ++ (enc n ++ r)).length + 1 - (p.length : Int).toNat) (by rw [List.length_append, List.length_append, enc_length]; omega) (by simpa using hi_flag _) (by simpa using hi_head _) (by rw [List.nil_append, val_hi]; omega)
  have e : enc n = hi (n / 128) ++ [((n % 128 : Nat) : Int)] := rfl
  have e2 : valF 0 ([] ++ hi (n / 128) ++ [((n % 128 : Nat) : Int)]) = (n : Int) := by rw [List.nil_append, ← e, val_enc]
  rw [e2, show p ++ ([] ++ (hi (n / 128) ++ ((n % 128 : Nat) : Int) :: r)) = p ++ (enc n ++ r) by rw [e]; simp] at h1
  rw [enc_length]
  exact h1
/-- P1.2: a number with a sign as one without. -/
def zig (a : Int) : Nat := if 0 ≤ a then (2 * a).toNat else (-2 * a - 1).toNat
theorem zig_lt (a : Int) (h : -9223372036854775808 ≤ a) (h' : a ≤ 9223372036854775807) : zig a < 18446744073709551616 := by unfold zig; split <;> omega
theorem zag_zig (a : Int) : (if ((zig a : Nat) : Int) % 2 = 1 then -(((zig a : Nat) : Int) / 2) - 1 else ((zig a : Nat) : Int) / 2) = a := by unfold zig; split <;> split <;> omega
theorem uxor_zero (a : Int) (h : 0 ≤ a) (h' : a < 18446744073709551616) : bits .xor .u64 a 0 = a := by
  rw [u64_xor a 0 h h' (by decide) (by decide), show ((0 : Int).toNat) = 0 from rfl, Nat.xor_zero]; omega
theorem uxor_ones (a : Int) (h : 0 ≤ a) (h' : a < 18446744073709551616) : bits .xor .u64 a 18446744073709551615 = 18446744073709551615 - a := by
  have e : bits .xor .u64 a 18446744073709551615 = IntKind.u64.wrap ((BitVec.ofInt 64 a ^^^ BitVec.ofInt 64 18446744073709551615).toNat : Int) := by with_unfolding_all rfl
  rw [e, show BitVec.ofInt 64 18446744073709551615 = BitVec.allOnes 64 by decide, BitVec.xor_allOnes, BitVec.toNat_not, BitVec.toNat_ofInt, u64_mod]
  omega
theorem zig_f (a : Int) (h : -9223372036854775808 ≤ a) (h' : a ≤ 9223372036854775807) : num_zig.f a = some ((zig a : Nat) : Int) := by
  unfold num_zig.f zig
  by_cases h0 : 0 ≤ a
  · rw [if_pos h0, show a / 9223372036854775808 = 0 by omega, u64_in a h0 (by omega), u64_in (a * 2) (by omega) (by omega), u64_in 0 (by decide) (by decide), uxor_zero _ (by omega) (by omega)]
    congr 1
    omega
  · rw [if_neg h0, show a / 9223372036854775808 = -1 by omega]
    rw [show IntKind.u64.wrap a = a + 18446744073709551616 by rw [u64_mod]; omega, show IntKind.u64.wrap ((a + 18446744073709551616) * 2) = 2 * a + 18446744073709551616 by rw [u64_mod]; omega, show IntKind.u64.wrap (-1) = 18446744073709551615 by rw [u64_mod]; omega]
    rw [uxor_ones _ (by omega) (by omega)]
    congr 1
    omega
theorem PutInt_f {k : Nat} (l : List Int) (a : Int) (h : -9223372036854775808 ≤ a) (h' : a ≤ 9223372036854775807) (hk : 12 ≤ k) (hl : l.length + 10 ≤ capN) : num_PutInt.f k l a = some (l ++ enc (zig a)) := by
  unfold num_PutInt.f
  rw [fresh_f l hl, zig_f a h h']
  simp only [Option.bind_some]
  rw [put_f l (zig_lt a h h') hk hl]
  rfl
theorem Signed_f (a : Int) (h : -9223372036854775808 ≤ a) (h' : a ≤ 9223372036854775807) : runnelref01_Signed.f a = some ((zig a : Nat) : Int) := by
  unfold runnelref01_Signed.f zig
  by_cases h0 : 0 ≤ a
  · rw [if_pos (show a ≥ 0 from h0), if_pos h0, u64_in a h0 (by omega), u64_in (2 * a) (by omega) (by omega)]
    congr 1
    omega
  · rw [if_neg (show ¬ a ≥ 0 from h0), if_neg h0, wrap_in (a + 1) (by omega) (by omega), wrap_in (-(a + 1)) (by omega) (by omega), u64_in (-(a + 1)) (by omega) (by omega), u64_in (2 * -(a + 1)) (by omega) (by omega), u64_in _ (by omega) (by omega)]
    congr 1
    omega
theorem bytesOf_byte (s : ByteArray) : ∀ x ∈ bytesOf s, 0 ≤ x ∧ x < 256 := by
  intro x hx
  unfold bytesOf at hx
  obtain ⟨u, _, rfl⟩ := List.mem_map.1 hx
  have := u.toNat_lt
  omega
theorem str_bytesOf (s : ByteArray) : str (bytesOf s) = s.toList := by
  have e : ∀ l : List UInt8, str (l.map fun b => (b.toNat : Int)) = l := by
    intro l
    have e0 : ∀ m : List Int, str m = m.map fun n => UInt8.ofNat n.toNat := fun m => by with_unfolding_all rfl
    rw [e0]
    induction l with
    | nil => rfl
    | cons u l ih => rw [List.map_cons, List.map_cons, ih, Int.toNat_natCast, UInt8.ofNat_toNat]
  unfold bytesOf
  rw [e, toList_eq]
/-- P1.3: a text's bytes. -/
def txt (s : ByteArray) : List Int := enc s.size ++ bytesOf s
theorem PutText_f {k : Nat} (l : List Int) (s : ByteArray) (hk : 12 ≤ k) (hl : l.length + 10 + s.size ≤ capN) : num_PutText.f k l s = some (l ++ txt s) := by
  have h1 := cap_lt hl
  have hn : s.size < 18446744073709551616 := by omega
  have h10 := enc_ten hn
  unfold num_PutText.f
  rw [fresh_f l (by omega)]
  simp only [Option.bind_some]
  rw [u64_in _ (by omega) (by omega), put_f l hn hk (by omega)]
  simp only [Option.bind_some]
  rw [if_pos (by rw [List.length_append]; generalize (enc s.size).length = E at h10 ⊢; omega), txt, List.append_assoc]
theorem GetText_f {k : Nat} (l : List Int) (hl : ∀ x ∈ l, 0 ≤ x ∧ x < 256) (at0 most : Int) (hk : 2 * l.length + 8 ≤ k) (hc : l.length + 10 ≤ capN) (hm : most ≤ 9223372036854775807) :
    num_GetText.f k l at0 most = some (if most < 0 then ((⟨#[]⟩ : ByteArray), 0, 1) else if (NumPure.get l at0).2.2 = 0 then
      (if most < (NumPure.get l at0).1 then ((⟨#[]⟩ : ByteArray), 0, 2) else if (l.length : Int) - (NumPure.get l at0).2.1 < (NumPure.get l at0).1 then ((⟨#[]⟩ : ByteArray), 0, 6)
       else (strOfNums ((l.take ((NumPure.get l at0).2.1 + (NumPure.get l at0).1).toNat).drop (NumPure.get l at0).2.1.toNat), (NumPure.get l at0).2.1 + (NumPure.get l at0).1, 0))
      else ((⟨#[]⟩ : ByteArray), 0, (NumPure.get l at0).2.2)) := by
  have hcc := cap_lt (Nat.le_trans (Nat.le_add_right _ _) hc)
  unfold num_GetText.f
  by_cases h0 : most < 0
  · rw [if_pos h0, if_pos h0]
  · rw [if_neg h0, if_neg h0, get_f l hl at0 hk hc]
    simp only [Option.bind_some]
    have ho := get_ok l hl at0
    have hin : (NumPure.get l at0).2.2 = 0 → 0 ≤ (NumPure.get l at0).1 ∧ (NumPure.get l at0).1 < 18446744073709551616 ∧ 0 ≤ (NumPure.get l at0).2.1 ∧ (NumPure.get l at0).2.1 ≤ (l.length : Int) := by
      intro he
      rcases ho with ⟨ho, _⟩ | ⟨ho, _⟩ | ⟨m, p, r, h1, h2, h3, ho⟩
      · rw [ho] at he; cases he
      · rw [ho] at he; cases he
      · rw [ho, h2]
        simp only [List.length_append]
        generalize (enc m).length = E
        exact ⟨by omega, by omega, by omega, by omega⟩
    generalize NumPure.get l at0 = g at hin ⊢
    obtain ⟨n, b, e⟩ := g
    simp only at hin ⊢
    by_cases he : e = 0
    · obtain ⟨h1, h2, h3, h4⟩ := hin he
      rw [if_pos he, if_pos he, u64_in most (by omega) (by omega)]
      by_cases h5 : most < n
      · rw [if_pos (show n > most from h5), if_pos h5]
      · rw [if_neg (show ¬ n > most from h5), if_neg h5, wrap_in ((l.length : Int) - b) (by omega) (by omega), u64_in ((l.length : Int) - b) (by omega) (by omega)]
        by_cases h6 : (l.length : Int) - b < n
        · rw [if_pos (show n > (l.length : Int) - b from h6), if_pos h6]
        · rw [if_neg (show ¬ n > (l.length : Int) - b from h6), if_neg h6, wrap_in n (by omega) (by omega), wrap_in (b + n) (by omega) (by omega), if_pos h3, if_pos (by omega), if_pos (by omega)]
    · rw [if_neg he, if_neg he]
theorem RText_f {k : Nat} (s : ByteArray) (hk : 12 ≤ k) (hl : s.size + 10 ≤ capN) : runnelref01_Text.f k s = some (txt s) := by
  have h1 := cap_lt hl
  have hn : s.size < 18446744073709551616 := by omega
  have h10 := enc_ten hn
  unfold runnelref01_Text.f
  rw [u64_in _ (by omega) (by omega), Bytes_f hn hk]
  simp only [Option.bind_some]
  rw [if_pos (by generalize (enc s.size).length = E at h10 ⊢; omega), txt]
/-- What two terms, two nodes, two plans are compared by. -/
def tk (x : S52) : Int × Int × List UInt8 := (x.f0, x.f1, x.f2.toList)
def ek (l : List S52) : List (Int × Int × List UInt8) := l.map tk
abbrev NK := ((Int × Int × Int × Int × Int) × (List Int × List Int × List Int)) × List (List (Int × Int × List UInt8))
noncomputable instance : DecidableEq NK := fun a b => Classical.propDecidable (a = b)
def nk (x : S44) : NK := (((x.f0, x.f5, x.f6, x.f7, x.f8), (x.f1, x.f2, x.f4)), x.f3.map ek)
theorem wrapi {i n : Nat} (h : i < n) (hn : n ≤ maxLen) : wrap64 ((i : Int) + 1) = ((i + 1 : Nat) : Int) := by
  have : maxLen = 9223372036854775807 := by with_unfolding_all rfl
  have e : wrap64 ((i : Int) + 1) = ((i : Int) + 1 + 9223372036854775808) % 18446744073709551616 - 9223372036854775808 := by with_unfolding_all rfl
  rw [e]; omega
theorem rdI (l : List Int) (i : Nat) (h : i < l.length) : rd l (i : Int) = l[i] := by unfold rd; rw [Int.toNat_natCast, List.getD_eq_getElem?_getD, List.getElem?_eq_getElem h]; rfl
theorem rdT (l : List S52) (i : Nat) (h : i < l.length) : rd_T52 l (i : Int) = l[i] := by unfold rd_T52; rw [Int.toNat_natCast, List.getD_eq_getElem?_getD, List.getElem?_eq_getElem h]; rfl
theorem rdN (l : List S44) (i : Nat) (h : i < l.length) : rd_T44 l (i : Int) = l[i] := by unfold rd_T44; rw [Int.toNat_natCast, List.getD_eq_getElem?_getD, List.getElem?_eq_getElem h]; rfl
theorem rdE (l : List (List S52)) (i : Nat) (h : i < l.length) : rd_L4 l (i : Int) = l[i] := by unfold rd_L4; rw [Int.toNat_natCast, List.getD_eq_getElem?_getD, List.getElem?_eq_getElem h]; rfl
theorem rints_l0 (l m : List Int) (hl : l.length ≤ maxLen) (he : l.length = m.length) (d : Nat) : ∀ (k i : Nat), i + d = l.length → d < k →
    runnelref16_same.l0 k l m (i : Int) = some (decide ((l.drop i).map id = (m.drop i).map id)) := by
  induction d with
  | zero =>
    intro k i hi hk
    obtain ⟨k, rfl⟩ : ∃ n, k = n + 1 := ⟨k - 1, by omega⟩
    simp only [runnelref16_same.l0]
    rw [if_neg (by omega), decide_end id l m i (by omega) (by omega)]
  | succ d ih =>
    intro k i hi hk
    obtain ⟨k, rfl⟩ : ∃ n, k = n + 1 := ⟨k - 1, by omega⟩
    simp only [runnelref16_same.l0]
    rw [if_pos (by omega), if_pos (by omega), if_pos (by omega), rdI l i (by omega), rdI m i (by omega), wrapi (n := l.length) (by omega) hl, ih k (i + 1) (by omega) (by omega), decide_step id l m i (by omega) (by omega)]
    by_cases h : l[i]'(by omega) = m[i]'(by omega)
    · rw [if_pos h, decide_eq_true (show id _ = id _ from h)]; rfl
    · rw [if_neg h, decide_eq_false (show ¬ id _ = id _ from h)]; rfl
theorem rints_f {k : Nat} (l m : List Int) (hl : l.length ≤ maxLen) (hk : l.length < k) : runnelref16_Same.f k l m = some (decide (l = m)) := by
  unfold runnelref16_Same.f runnelref16_same.f
  by_cases h : l.length = m.length
  · rw [if_pos (by omega)]
    have := rints_l0 l m hl h l.length k 0 (by omega) hk
    rw [show ((0 : Nat) : Int) = 0 from rfl] at this
    rw [this]; simp
  · rw [if_neg (by omega)]
    have := decide_len id l m h
    simp only [List.map_id] at this
    rw [this]; rfl
theorem term_test (a b : S52) : (!(a.f0 == b.f0) || (!(a.f1 == b.f1) || (!(a.f2.toList == b.f2.toList)))) = !decide (tk a = tk b) := by
  unfold tk
  by_cases h0 : a.f0 = b.f0
  · by_cases h1 : a.f1 = b.f1
    · by_cases h2 : a.f2.toList = b.f2.toList
      · simp [h0, h1, h2]
      · simp [h0, h1, h2]
    · simp [h0, h1]
  · simp [h0]
def NW (a : S44) : Prop := a.f1.length ≤ maxLen ∧ a.f2.length ≤ maxLen ∧ a.f4.length ≤ maxLen ∧ a.f3.length ≤ maxLen ∧ ∀ x ∈ a.f3, x.length ≤ maxLen
section
variable (ns ms : List S44) (o q : List Int) (r s : Int)
def L0 (i : Int) (k : Nat) : Option Bool := runnelref17_Same.l0 k i ns o r ms q s
def J2 (a b : S44) (x : Int) (t : Bool) (k : Nat) : Option Bool := runnelref17_Same.j2 k x t ns o r ms q s a.f0 a.f1 a.f2 a.f3 a.f4 a.f5 a.f6 a.f7 a.f8 b.f0 b.f1 b.f2 b.f3 b.f4 b.f5 b.f6 b.f7 b.f8
def L1 (a b : S44) (x e : Int) (k : Nat) : Option Bool := runnelref17_Same.l1 k x e ns o r ms q s a.f0 a.f1 a.f2 a.f3 a.f4 a.f5 a.f6 a.f7 a.f8 b.f0 b.f1 b.f2 b.f3 b.f4 b.f5 b.f6 b.f7 b.f8
def L2 (a b : S44) (x e j : Int) (k : Nat) : Option Bool := runnelref17_Same.l2 k x e j ns o r ms q s a.f0 a.f1 a.f2 a.f3 a.f4 a.f5 a.f6 a.f7 a.f8 b.f0 b.f1 b.f2 b.f3 b.f4 b.f5 b.f6 b.f7 b.f8
theorem L2_ev (a b : S44) (x : Int) (e : Nat) (he : e < a.f3.length) (he' : e < b.f3.length) (hlen : (a.f3[e]).length = (b.f3[e]).length) (hm : (a.f3[e]).length ≤ maxLen) (hm3 : a.f3.length ≤ maxLen)
    (R : Bool) (h : Ev (L1 ns ms o q r s a b x ((e + 1 : Nat) : Int)) R) (d : Nat) : ∀ j : Nat, j + d = (a.f3[e]).length →
    Ev (L2 ns ms o q r s a b x e j) (decide (((a.f3[e]).drop j).map tk = ((b.f3[e]).drop j).map tk) && R) := by
  induction d with
  | zero =>
    intro j hj
    rw [decide_end tk _ _ j (by omega) (by omega), Bool.true_and]
    refine Ev.step (fun k => ?_) h
    show runnelref17_Same.l2 (k + 1) _ _ _ _ _ _ _ _ _ _ _ _ _ _ _ _ _ _ _ _ _ _ _ _ _ _ _ = _
    simp only [runnelref17_Same.l2]
    rw [rdE a.f3 e he, if_pos (by omega), if_pos (by omega), if_neg (by omega), wrapi (n := a.f3.length) he hm3]
    rfl
  | succ d ih =>
    intro j hj
    rw [decide_step tk _ _ j (by omega) (by omega)]
    by_cases ht : tk ((a.f3[e])[j]'(by omega)) = tk ((b.f3[e])[j]'(by omega))
    · rw [decide_eq_true ht, Bool.true_and]
      refine Ev.step (fun k => ?_) (ih (j + 1) (by omega))
      show runnelref17_Same.l2 (k + 1) _ _ _ _ _ _ _ _ _ _ _ _ _ _ _ _ _ _ _ _ _ _ _ _ _ _ _ = _
      simp only [runnelref17_Same.l2]
      rw [rdE a.f3 e he, rdE b.f3 e he', if_pos (by omega), if_pos (by omega), if_pos (by omega), if_pos (by omega), if_pos (by omega), if_pos (by omega), rdT _ j (by omega), rdT _ j (by omega), term_test, decide_eq_true ht, wrapi (n := (a.f3[e]).length) (by omega) hm]
      rfl
    · rw [decide_eq_false ht, Bool.false_and, Bool.false_and]
      refine Ev.step (fun k => ?_) (Ev.now false)
      show runnelref17_Same.l2 (k + 1) _ _ _ _ _ _ _ _ _ _ _ _ _ _ _ _ _ _ _ _ _ _ _ _ _ _ _ = _
      simp only [runnelref17_Same.l2]
      rw [rdE a.f3 e he, rdE b.f3 e he', if_pos (by omega), if_pos (by omega), if_pos (by omega), if_pos (by omega), if_pos (by omega), if_pos (by omega), rdT _ j (by omega), rdT _ j (by omega), term_test, decide_eq_false ht]
      rfl
theorem L1_ev (a b : S44) (x : Nat) (hx : x < ns.length) (hns : ns.length ≤ maxLen) (hw : NW a) (hlen : a.f3.length = b.f3.length)
    (R : Bool) (h : Ev (L0 ns ms o q r s ((x + 1 : Nat) : Int)) R) (d : Nat) : ∀ e : Nat, e + d = a.f3.length →
    Ev (L1 ns ms o q r s a b x e) (decide ((a.f3.drop e).map ek = (b.f3.drop e).map ek) && R) := by
  induction d with
  | zero =>
    intro e he
    rw [decide_end ek _ _ e (by omega) (by omega), Bool.true_and]
    refine Ev.step (fun k => ?_) h
    show runnelref17_Same.l1 (k + 1) _ _ _ _ _ _ _ _ _ _ _ _ _ _ _ _ _ _ _ _ _ _ _ _ _ _ = _
    simp only [runnelref17_Same.l1]
    rw [if_neg (by omega), wrapi (n := ns.length) hx hns]
    rfl
  | succ d ih =>
    intro e he
    have h1 : e < a.f3.length := by omega
    have h2 : e < b.f3.length := by omega
    rw [decide_step ek _ _ e h1 h2]
    by_cases hl : (a.f3[e]).length = (b.f3[e]).length
    · rw [Bool.and_assoc]
      have := L2_ev ns ms o q r s a b x e h1 h2 hl (hw.2.2.2.2 _ (List.getElem_mem _)) hw.2.2.2.1 _ (ih (e + 1) (by omega)) (a.f3[e]).length 0 (by omega)
      refine Ev.step (fun k => ?_) this
      show runnelref17_Same.l1 (k + 1) _ _ _ _ _ _ _ _ _ _ _ _ _ _ _ _ _ _ _ _ _ _ _ _ _ _ = _
      simp only [runnelref17_Same.l1]
      rw [rdE a.f3 e h1, rdE b.f3 e h2, if_pos (by omega), if_pos (by omega), if_pos (by omega), if_pos (by omega)]
      rfl
    · have hne : ¬ ek a.f3[e] = ek b.f3[e] := fun e_ => hl (by have := congrArg List.length e_; simpa [ek] using this)
      rw [decide_eq_false hne, Bool.false_and, Bool.false_and]
      refine Ev.step (fun k => ?_) (Ev.now false)
      show runnelref17_Same.l1 (k + 1) _ _ _ _ _ _ _ _ _ _ _ _ _ _ _ _ _ _ _ _ _ _ _ _ _ _ = _
      simp only [runnelref17_Same.l1]
      rw [rdE a.f3 e h1, rdE b.f3 e h2, if_pos (by omega), if_pos (by omega), if_pos (by omega), if_neg (by omega)]
theorem J2_true (a b : S44) (x : Int) : Ev (J2 ns ms o q r s a b x true) false := by
  refine Ev.step (fun k => ?_) (Ev.now false)
  show runnelref17_Same.j2 (k + 1) _ _ _ _ _ _ _ _ _ _ _ _ _ _ _ _ _ _ _ _ _ _ _ _ _ _ = _
  simp only [runnelref17_Same.j2]
  rfl
theorem ints_ev (l m : List Int) (hl : l.length ≤ maxLen) : Ev (fun k => runnelref16_Same.f k l m) (decide (l = m)) := ⟨l.length + 1, fun k hk => rints_f l m hl (by omega)⟩
theorem L0_ev (hns : ns.length ≤ maxLen) (hw : ∀ x ∈ ns, NW x) (hlen : ns.length = ms.length) (d : Nat) : ∀ i : Nat, i + d = ns.length →
    Ev (L0 ns ms o q r s i) (decide ((ns.drop i).map nk = (ms.drop i).map nk)) := by
  induction d with
  | zero =>
    intro i hi
    rw [decide_end nk _ _ i (by omega) (by omega)]
    refine Ev.step (fun k => ?_) (Ev.now true)
    show runnelref17_Same.l0 (k + 1) _ _ _ _ _ _ _ = _
    simp only [runnelref17_Same.l0]
    rw [if_neg (by omega)]
  | succ d ih =>
    intro i hi
    have h1 : i < ns.length := by omega
    have h2 : i < ms.length := by omega
    have hwi := hw _ (List.getElem_mem h1)
    have rest := ih (i + 1) (by omega)
    rw [decide_step nk _ _ i h1 h2]
    generalize hR : decide ((ns.drop (i + 1)).map nk = (ms.drop (i + 1)).map nk) = R at rest ⊢
    have ea := rdN ns i h1
    have eb := rdN ms i h2
    generalize hA : ns[i] = a at ea hwi ⊢
    generalize hB : ms[i] = b at eb ⊢
    have bad := J2_true ns ms o q r s a b i
    have good : ∀ t : Bool, t = false → a.f3.length = b.f3.length → Ev (J2 ns ms o q r s a b i t) (decide (a.f3.map ek = b.f3.map ek) && R) := by
      rintro t rfl hl
      have := L1_ev ns ms o q r s a b i h1 hns hwi hl R rest a.f3.length 0 (by omega)
      refine Ev.step (fun k => ?_) this
      show runnelref17_Same.j2 (k + 1) _ _ _ _ _ _ _ _ _ _ _ _ _ _ _ _ _ _ _ _ _ _ _ _ _ _ = _
      simp only [runnelref17_Same.j2]
      rfl
    have start : ∀ k, L0 ns ms o q r s i (k + 1) = (if a.f0 = b.f0 then (if a.f5 = b.f5 then (if a.f6 = b.f6 then (if a.f7 = b.f7 then (if a.f8 = b.f8 then ((runnelref16_Same.f k a.f1 b.f1).bind fun t => if t = true then ((runnelref16_Same.f k a.f2 b.f2).bind fun t => if t = true then ((runnelref16_Same.f k a.f4 b.f4).bind fun t => if t = true then J2 ns ms o q r s a b i ((a.f3.length : Int) != (b.f3.length : Int)) k else J2 ns ms o q r s a b i true k) else J2 ns ms o q r s a b i true k) else J2 ns ms o q r s a b i true k) else J2 ns ms o q r s a b i true k) else J2 ns ms o q r s a b i true k) else J2 ns ms o q r s a b i true k) else J2 ns ms o q r s a b i true k) else J2 ns ms o q r s a b i true k) := by
      intro k
      show runnelref17_Same.l0 (k + 1) _ _ _ _ _ _ _ = _
      simp only [runnelref17_Same.l0]
      rw [ea, eb, if_pos (by omega), if_pos (by omega), if_pos (by omega)]
      rfl
    refine Ev.step start ?_
    have nf : ∀ {p : Bool}, (decide (nk a = nk b) && R) = p → p = false ∨ (nk a = nk b ∧ p = R) := by
      intro p hp
      by_cases h : nk a = nk b
      · exact .inr ⟨h, by rw [← hp, decide_eq_true h, Bool.true_and]⟩
      · exact .inl (by rw [← hp, decide_eq_false h, Bool.false_and])
    have no : ∀ P : Prop, ¬ P → (nk a = nk b → P) → (decide (nk a = nk b) && R) = false := fun P hP hi => by rw [decide_eq_false (fun e => hP (hi e)), Bool.false_and]
    by_cases c0 : a.f0 = b.f0
    · by_cases c5 : a.f5 = b.f5
      · by_cases c6 : a.f6 = b.f6
        · by_cases c7 : a.f7 = b.f7
          · by_cases c8 : a.f8 = b.f8
            · simp only [c0, c5, c6, c7, c8, if_true]
              refine Ev.bind (ints_ev a.f1 b.f1 hwi.1) ?_
              by_cases c1 : a.f1 = b.f1
              · simp only [decide_eq_true c1, if_true]
                refine Ev.bind (ints_ev a.f2 b.f2 hwi.2.1) ?_
                by_cases c2 : a.f2 = b.f2
                · simp only [decide_eq_true c2, if_true]
                  refine Ev.bind (ints_ev a.f4 b.f4 hwi.2.2.1) ?_
                  by_cases c4 : a.f4 = b.f4
                  · simp only [decide_eq_true c4, if_true]
                    by_cases c3 : a.f3.length = b.f3.length
                    · have e : decide (nk a = nk b) = decide (a.f3.map ek = b.f3.map ek) := by
                        apply decide_eq_decide.2
                        unfold nk
                        simp [c0, c1, c2, c4, c5, c6, c7, c8]
                      rw [e]
                      exact good _ (bne_eq_false_iff_eq.2 (by omega)) c3
                    · rw [no _ c3 (fun e => by unfold nk at e; simp at e; have := congrArg List.length e.2; simpa using this), show ((a.f3.length : Int) != (b.f3.length : Int)) = true from bne_iff_ne.2 (by omega)]
                      exact bad
                  · simp only [decide_eq_false c4, Bool.false_eq_true, if_false]
                    rw [no _ c4 (fun e => by unfold nk at e; simp at e; exact e.1.2.2.2)]
                    exact bad
                · simp only [decide_eq_false c2, Bool.false_eq_true, if_false]
                  rw [no _ c2 (fun e => by unfold nk at e; simp at e; exact e.1.2.2.1)]
                  exact bad
              · simp only [decide_eq_false c1, Bool.false_eq_true, if_false]
                rw [no _ c1 (fun e => by unfold nk at e; simp at e; exact e.1.2.1)]
                exact bad
            · simp only [c0, c5, c6, c7, c8, if_true, if_false]
              rw [no _ c8 (fun e => by unfold nk at e; simp at e; exact e.1.1.2.2.2.2)]
              exact bad
          · simp only [c0, c5, c6, c7, if_true, if_false]
            rw [no _ c7 (fun e => by unfold nk at e; simp at e; exact e.1.1.2.2.2.1)]
            exact bad
        · simp only [c0, c5, c6, if_true, if_false]
          rw [no _ c6 (fun e => by unfold nk at e; simp at e; exact e.1.1.2.2.1)]
          exact bad
      · simp only [c0, c5, if_true, if_false]
        rw [no _ c5 (fun e => by unfold nk at e; simp at e; exact e.1.1.2.1)]
        exact bad
    · simp only [c0, if_false]
      rw [no _ c0 (fun e => by unfold nk at e; simp at e; exact e.1.1.1)]
      exact bad
theorem RSame_ev (hns : ns.length ≤ maxLen) (hw : ∀ x ∈ ns, NW x) (ho : o.length ≤ maxLen) :
    Ev (fun k => runnelref17_Same.f k ns o r ms q s) (decide ((r, o, ns.map nk) = (s, q, ms.map nk))) := by
  have jbad : Ev (fun k => runnelref17_Same.j0 k true ns o r ms q s) false := by
    refine Ev.step (fun k => ?_) (Ev.now false)
    simp only [runnelref17_Same.j0]
    rfl
  by_cases h1 : r = s
  · have e : ∀ k, runnelref17_Same.f k ns o r ms q s = (runnelref16_Same.f k o q).bind fun t => if t = true then runnelref17_Same.j0 k ((ns.length : Int) != (ms.length : Int)) ns o r ms q s else runnelref17_Same.j0 k true ns o r ms q s := by
      intro k
      unfold runnelref17_Same.f
      rw [if_pos h1]
    refine Ev.congr e (Ev.bind (ints_ev o q ho) ?_)
    by_cases h2 : o = q
    · simp only [decide_eq_true h2, if_true]
      by_cases h3 : ns.length = ms.length
      · have l0 := L0_ev ns ms o q r s hns hw h3 ns.length 0 (by omega)
        rw [show ((ns.length : Int) != (ms.length : Int)) = false from bne_eq_false_iff_eq.2 (by omega)]
        have e2 : decide ((r, o, ns.map nk) = (s, q, ms.map nk)) = decide ((ns.drop 0).map nk = (ms.drop 0).map nk) := by
          apply decide_eq_decide.2
          simp [h1, h2]
        rw [e2]
        refine Ev.step (fun k => ?_) l0
        simp only [runnelref17_Same.j0]
        rfl
      · rw [show ((ns.length : Int) != (ms.length : Int)) = true from bne_iff_ne.2 (by omega), show decide ((r, o, ns.map nk) = (s, q, ms.map nk)) = false from decide_eq_false (fun e => h3 (by have := congrArg (fun z => z.2.2.length) e; simpa using this))]
        exact jbad
    · simp only [decide_eq_false h2, Bool.false_eq_true, if_false]
      rw [show decide ((r, o, ns.map nk) = (s, q, ms.map nk)) = false from decide_eq_false (fun e => h2 (congrArg (fun z => z.2.1) e))]
      exact jbad
  · have e : ∀ k, runnelref17_Same.f k ns o r ms q s = runnelref17_Same.j0 k true ns o r ms q s := by
      intro k
      unfold runnelref17_Same.f
      rw [if_neg h1]
    refine Ev.congr e ?_
    rw [show decide ((r, o, ns.map nk) = (s, q, ms.map nk)) = false from decide_eq_false (fun e => h1 (congrArg (fun z => z.1) e))]
    exact jbad
end
theorem Long08_l0 (l : List S52) (hm : l.length ≤ maxLen) (d : Nat) : ∀ i : Nat, i + d = l.length → ∃ b, Ev (fun k => runnelref08_Long.l0 k l (i : Int)) b := by
  induction d with
  | zero =>
    intro i hi
    refine ⟨false, Ev.step (fun k => ?_) (Ev.now false)⟩
    simp only [runnelref08_Long.l0]
    rw [if_neg (by omega)]
  | succ d ih =>
    intro i hi
    by_cases h : ((rd_T52 l (i : Int)).f2.size : Int) > 5000
    · refine ⟨true, Ev.step (fun k => ?_) (Ev.now true)⟩
      simp only [runnelref08_Long.l0]
      rw [if_pos (by omega), if_pos (by omega), if_pos h]
    · obtain ⟨b, hb⟩ := ih (i + 1) (by omega)
      refine ⟨b, Ev.step (fun k => ?_) hb⟩
      simp only [runnelref08_Long.l0]
      rw [if_pos (by omega), if_pos (by omega), if_neg h, wrapi (n := l.length) (by omega) hm]
theorem Long08_ev (l : List S52) (hm : l.length ≤ maxLen) : ∃ b, Ev (fun k => runnelref08_Long.f k l) b := by
  unfold runnelref08_Long.f
  by_cases h : (l.length : Int) > 80
  · simp only [if_pos h]; exact ⟨true, Ev.now true⟩
  · simp only [if_neg h]; exact Long08_l0 l hm l.length 0 (by omega)
section
variable (ns : List S44) (o : List Int) (r : Int)
def G0 (i : Int) (k : Nat) : Option Bool := runnelref16_Long.l0 k i ns o r
def H2 (a : S44) (x : Int) (t : Bool) (k : Nat) : Option Bool := runnelref16_Long.j2 k x t ns o r a.f0 a.f1 a.f2 a.f3 a.f4 a.f5 a.f6 a.f7 a.f8
def G1 (a : S44) (x e : Int) (k : Nat) : Option Bool := runnelref16_Long.l1 k x e ns o r a.f0 a.f1 a.f2 a.f3 a.f4 a.f5 a.f6 a.f7 a.f8
theorem G1_ev (a : S44) (x : Nat) (hx : x < ns.length) (hns : ns.length ≤ maxLen) (hw : NW a) (R : Bool) (h : Ev (G0 ns o r ((x + 1 : Nat) : Int)) R) (d : Nat) : ∀ e : Nat, e + d = a.f3.length → ∃ b, Ev (G1 ns o r a x e) b := by
  induction d with
  | zero =>
    intro e he
    refine ⟨R, Ev.step (fun k => ?_) h⟩
    show runnelref16_Long.l1 (k + 1) _ _ _ _ _ _ _ _ _ _ _ _ _ _ = _
    simp only [runnelref16_Long.l1]
    rw [if_neg (by omega), wrapi (n := ns.length) hx hns]
    rfl
  | succ d ih =>
    intro e he
    have h1 : e < a.f3.length := by omega
    obtain ⟨b, hb⟩ := ih (e + 1) (by omega)
    obtain ⟨c, hc⟩ := Long08_ev (a.f3[e]) (hw.2.2.2.2 _ (List.getElem_mem _))
    have start : ∀ k, G1 ns o r a x e (k + 1) = (runnelref08_Long.f k (a.f3[e])).bind fun t => if t = true then some true else G1 ns o r a x ((e + 1 : Nat) : Int) k := by
      intro k
      show runnelref16_Long.l1 (k + 1) _ _ _ _ _ _ _ _ _ _ _ _ _ _ = _
      simp only [runnelref16_Long.l1]
      rw [if_pos (by omega), if_pos (by omega), rdE a.f3 e h1, wrapi (n := a.f3.length) h1 hw.2.2.2.1]
      rfl
    cases c with
    | true => exact ⟨true, Ev.step start (Ev.bind hc (Ev.now true))⟩
    | false => exact ⟨b, Ev.step start (Ev.bind hc hb)⟩
theorem G0_ev (hns : ns.length ≤ maxLen) (hw : ∀ x ∈ ns, NW x) (d : Nat) : ∀ i : Nat, i + d = ns.length → ∃ b, Ev (G0 ns o r i) b := by
  induction d with
  | zero =>
    intro i hi
    refine ⟨false, Ev.step (fun k => ?_) (Ev.now false)⟩
    show runnelref16_Long.l0 (k + 1) _ _ _ _ = _
    simp only [runnelref16_Long.l0]
    rw [if_neg (by omega)]
  | succ d ih =>
    intro i hi
    have h1 : i < ns.length := by omega
    have hwi := hw _ (List.getElem_mem h1)
    obtain ⟨R, hR⟩ := ih (i + 1) (by omega)
    have ea := rdN ns i h1
    generalize hA : ns[i] = a at ea hwi
    have j : ∀ t : Bool, ∃ b, Ev (H2 ns o r a i t) b := by
      intro t
      cases t with
      | true =>
        refine ⟨true, Ev.step (fun k => ?_) (Ev.now true)⟩
        show runnelref16_Long.j2 (k + 1) _ _ _ _ _ _ _ _ _ _ _ _ _ _ = _
        simp only [runnelref16_Long.j2]
        rfl
      | false =>
        obtain ⟨b, hb⟩ := G1_ev ns o r a i h1 hns hwi R hR a.f3.length 0 (by omega)
        refine ⟨b, Ev.step (fun k => ?_) hb⟩
        show runnelref16_Long.j2 (k + 1) _ _ _ _ _ _ _ _ _ _ _ _ _ _ = _
        simp only [runnelref16_Long.j2]
        rfl
    have start : ∀ k, G0 ns o r i (k + 1) = (if (a.f1.length : Int) > 20 then H2 ns o r a i true k else if (a.f2.length : Int) > 30 then H2 ns o r a i true k else if (a.f3.length : Int) > 30 then H2 ns o r a i true k else H2 ns o r a i (decide ((a.f4.length : Int) > 30)) k) := by
      intro k
      show runnelref16_Long.l0 (k + 1) _ _ _ _ = _
      simp only [runnelref16_Long.l0]
      rw [ea, if_pos (by omega), if_pos (by omega)]
      rfl
    obtain ⟨b, hb⟩ := j true
    obtain ⟨c, hc⟩ := j (decide ((a.f4.length : Int) > 30))
    by_cases h1 : (a.f1.length : Int) > 20
    · simp only [if_pos h1] at start; exact ⟨b, Ev.step start hb⟩
    · by_cases h2 : (a.f2.length : Int) > 30
      · simp only [if_neg h1, if_pos h2] at start; exact ⟨b, Ev.step start hb⟩
      · by_cases h3 : (a.f3.length : Int) > 30
        · simp only [if_neg h1, if_neg h2, if_pos h3] at start; exact ⟨b, Ev.step start hb⟩
        · simp only [if_neg h1, if_neg h2, if_neg h3] at start; exact ⟨c, Ev.step start hc⟩
theorem Long_ev (hns : ns.length ≤ maxLen) (hw : ∀ x ∈ ns, NW x) : ∃ b, Ev (fun k => runnelref16_Long.f k ns o r) b := by
  have j : ∀ t : Bool, ∃ b, Ev (fun k => runnelref16_Long.j0 k t ns o r) b := by
    intro t
    cases t with
    | true =>
      refine ⟨true, Ev.step (fun k => ?_) (Ev.now true)⟩
      simp only [runnelref16_Long.j0]
      rfl
    | false =>
      obtain ⟨b, hb⟩ := G0_ev ns o r hns hw ns.length 0 (by omega)
      refine ⟨b, Ev.step (fun k => ?_) hb⟩
      simp only [runnelref16_Long.j0]
      rfl
  unfold runnelref16_Long.f
  by_cases h : (ns.length : Int) > 70
  · simp only [if_pos h]; exact j _
  · simp only [if_neg h]; exact j _
end
theorem live_60 : runnellaw17_live.f 60 = some true := by decide +kernel
theorem live_ev : Ev (fun k => runnellaw17_live.f k) true := Ev.of (fun k => runnellaw17_live.mono k) live_60
def i64 (a : Int) : Prop := -9223372036854775808 ≤ a ∧ a ≤ 9223372036854775807
def one (a : Int) : List Int := enc (zig a)
theorem one_len (a : Int) (h : i64 a) : (one a).length ≤ 10 := enc_ten (zig_lt a h.1 h.2)
theorem one_byte (a : Int) : ∀ x ∈ one a, 0 ≤ x ∧ x < 256 := enc_byte _
def flat {α : Type} (f : α → List Int) : List α → List Int
  | [] => []
  | x :: t => f x ++ flat f t
def lst {α : Type} (f : α → List Int) (l : List α) : List Int := enc l.length ++ flat f l
theorem flat_len {α : Type} (f : α → List Int) (B : Nat) (l : List α) (h : ∀ x ∈ l, (f x).length ≤ B) : (flat f l).length ≤ B * l.length := by
  induction l with
  | nil => simp [flat]
  | cons x t ih =>
    have h1 := h x (by simp)
    have h2 := ih (fun y hy => h y (by simp [hy]))
    rw [flat, List.length_append, List.length_cons, Nat.mul_succ]
    omega
theorem lst_len {α : Type} (f : α → List Int) (B : Nat) (l : List α) (hl : l.length ≤ 100) (h : ∀ x ∈ l, (f x).length ≤ B) : (lst f l).length ≤ 10 + B * l.length := by
  have h1 := flat_len f B l h
  have h10 := enc_ten (n := l.length) (by omega)
  rw [lst, List.length_append]
  omega
theorem flat_byte {α : Type} (f : α → List Int) (l : List α) (h : ∀ x ∈ l, ∀ y ∈ f x, 0 ≤ y ∧ y < 256) : ∀ y ∈ flat f l, 0 ≤ y ∧ y < 256 := by
  induction l with
  | nil => intro y hy; cases hy
  | cons x t ih =>
    intro y hy
    rw [flat, List.mem_append] at hy
    exact hy.elim (h x (by simp) y) (ih (fun z hz => h z (by simp [hz])) y)
theorem lst_byte {α : Type} (f : α → List Int) (l : List α) (h : ∀ x ∈ l, ∀ y ∈ f x, 0 ≤ y ∧ y < 256) : ∀ y ∈ lst f l, 0 ≤ y ∧ y < 256 := by
  intro y hy
  rw [lst, List.mem_append] at hy
  exact hy.elim (enc_byte _ y) (flat_byte f l h y)
def tbytes (t : S52) : List Int := one t.f0 ++ (one t.f1 ++ txt t.f2)
def ebytes (e : List S52) : List Int := lst tbytes e
def nbytes (x : S44) : List Int := one x.f0 ++ (lst one x.f1 ++ (lst one x.f2 ++ (lst ebytes x.f3 ++ (lst one x.f4 ++ (one x.f5 ++ (one x.f6 ++ (one x.f7 ++ one x.f8)))))))
/-- P17.2: a plan's bytes. -/
def pbytes (ns : List S44) (o : List Int) (r : Int) : List Int := 80 :: (one r ++ (lst one o ++ lst nbytes ns))
structure tgood (t : S52) : Prop where
  op : i64 t.f0
  int : i64 t.f1
  str : t.f2.size ≤ 4096
def egood (e : List S52) : Prop := e.length ≤ 64 ∧ ∀ t ∈ e, tgood t
structure ngood (x : S44) : Prop where
  kind : i64 x.f0
  insl : x.f1.length ≤ 8
  ins : ∀ a ∈ x.f1, i64 a
  kindsl : x.f2.length ≤ 16
  kinds : ∀ a ∈ x.f2, i64 a
  exprsl : x.f3.length ≤ 16
  exprs : ∀ e ∈ x.f3, egood e
  colsl : x.f4.length ≤ 16
  cols : ∀ a ∈ x.f4, i64 a
  key : i64 x.f5
  n : i64 x.f6
  size : i64 x.f7
  slide : i64 x.f8
structure pgood (ns : List S44) (o : List Int) (r : Int) : Prop where
  nsl : ns.length ≤ 64
  ns : ∀ x ∈ ns, ngood x
  ol : o.length ≤ 8
  o : ∀ a ∈ o, i64 a
  r : i64 r
theorem txt_len (s : ByteArray) (h : s.size ≤ 4096) : (txt s).length ≤ 4106 := by
  have h10 := enc_ten (n := s.size) (by omega)
  have hb : (bytesOf s).length = s.size := by unfold bytesOf; simp
  unfold txt
  rw [List.length_append, hb]
  omega
theorem tbytes_len (t : S52) (h : tgood t) : (tbytes t).length ≤ 4126 := by
  have a := one_len _ h.op
  have b := one_len _ h.int
  have c := txt_len _ h.str
  rw [tbytes, List.length_append, List.length_append]
  omega
theorem ebytes_len (e : List S52) (h : egood e) : (ebytes e).length ≤ 264074 := by
  have := lst_len tbytes 4126 e (by have := h.1; omega) (fun t ht => tbytes_len t (h.2 t ht))
  have h1 := h.1
  rw [ebytes]
  omega
theorem ints_len (l : List Int) (hl : l.length ≤ 16) (h : ∀ a ∈ l, i64 a) : (lst one l).length ≤ 170 := by
  have := lst_len one 10 l (by omega) (fun t ht => one_len t (h t ht))
  omega
theorem nbytes_len (x : S44) (h : ngood x) : (nbytes x).length ≤ 4226000 := by
  have a0 := one_len _ h.kind
  have a1 := ints_len _ (by have := h.insl; omega) h.ins
  have a2 := ints_len _ h.kindsl h.kinds
  have a3 := lst_len ebytes 264074 x.f3 (by have := h.exprsl; omega) (fun e he => ebytes_len e (h.exprs e he))
  have a4 := ints_len _ h.colsl h.cols
  have a5 := one_len _ h.key
  have a6 := one_len _ h.n
  have a7 := one_len _ h.size
  have a8 := one_len _ h.slide
  have h3 := h.exprsl
  rw [nbytes]
  simp only [List.length_append]
  omega
theorem pbytes_len (ns : List S44) (o : List Int) (r : Int) (h : pgood ns o r) : (pbytes ns o r).length ≤ 280000000 := by
  have a0 := one_len _ h.r
  have a1 := ints_len _ (by have := h.ol; omega) h.o
  have a2 := lst_len nbytes 4226000 ns (by have := h.nsl; omega) (fun e he => nbytes_len e (h.ns e he))
  have h3 := h.nsl
  rw [pbytes, List.length_cons]
  simp only [List.length_append]
  omega
/-- A number behind bytes. -/
theorem puti_ev (b : List Int) (a : Int) (h : i64 a) (hb : b.length ≤ 900000000) : Ev (fun k => num_PutInt.f k b a) (b ++ one a) := ⟨12, fun k hk => PutInt_f b a h.1 h.2 hk (by have := cap_ge; omega)⟩
theorem put_ev (b : List Int) (n : Nat) (h : n ≤ 100) (hb : b.length ≤ 900000000) : Ev (fun k => num_Put.f k b (IntKind.u64.wrap (n : Int))) (b ++ enc n) := ⟨12, fun k hk => by rw [u64_in _ (by omega) (by omega)]; exact Put_f b (by omega) hk (by have := cap_ge; omega)⟩
theorem putt_ev (b : List Int) (s : ByteArray) (h : s.size ≤ 4096) (hb : b.length ≤ 900000000) : Ev (fun k => num_PutText.f k b s) (b ++ txt s) := ⟨12, fun k hk => PutText_f b s hk (by have := cap_ge; omega)⟩
theorem maxLen_big : (100000 : Nat) ≤ maxLen := by unfold maxLen; omega
theorem li_l0 (l : List Int) (hm : l.length ≤ 100) (hg : ∀ x ∈ l, i64 x) (d : Nat) : ∀ (i : Nat) (acc : List Int), i + d = l.length → acc.length + 10 * d ≤ 900000000 →
    Ev (fun k => sheet_list_int.l0 k acc l (l.length : Int) (i : Int)) (acc ++ flat one (l.drop i)) := by
  induction d with
  | zero =>
    intro i acc hi _
    rw [List.drop_of_length_le (by omega), flat, List.append_nil]
    refine Ev.step (fun k => ?_) (Ev.now acc)
    simp only [sheet_list_int.l0]
    rw [if_neg (by omega)]
  | succ d ih =>
    intro i acc hi hb
    have hil : i < l.length := by omega
    have hx := hg _ (List.getElem_mem hil)
    have hlen := one_len _ hx
    rw [List.drop_eq_getElem_cons hil, flat, ← List.append_assoc]
    refine Ev.step (f := fun k => (num_PutInt.f k acc l[i]).bind fun t => sheet_list_int.l0 k t l (l.length : Int) (((i + 1 : Nat) : Int))) (fun k => ?_) (Ev.bind (puti_ev acc _ hx (by omega)) (ih (i + 1) _ (by omega) (by rw [List.length_append]; omega)))
    simp only [sheet_list_int.l0]
    rw [if_pos (by omega), if_pos (by omega), if_pos (by omega), rdI l i hil, wrapi (n := l.length) hil (by have := maxLen_big; omega)]
theorem li_ev (b : List Int) (l : List Int) (hm : l.length ≤ 100) (hg : ∀ x ∈ l, i64 x) (hb : b.length + 10 * l.length + 10 ≤ 900000000) (z : Bool) : Ev (fun k => sheet_list_int.f k b l z) (b ++ lst one l) := by
  have h10 := enc_ten (n := l.length) (by omega)
  rw [lst, ← List.append_assoc]
  exact Ev.bind (put_ev b l.length hm (by omega)) (li_l0 l hm hg l.length 0 _ (by omega) (by rw [List.length_append]; generalize (enc l.length).length = E at h10 ⊢; omega))
theorem term_ev (b : List Int) (t : S52) (h : tgood t) (hb : b.length ≤ 899000000) : Ev (fun k => sheet_term.f k b t.f0 t.f1 t.f2) (b ++ tbytes t) := by
  have a := one_len _ h.op
  have c := one_len _ h.int
  rw [tbytes, ← List.append_assoc, ← List.append_assoc]
  exact Ev.bind (puti_ev b _ h.op (by omega)) (Ev.bind (puti_ev _ _ h.int (by rw [List.length_append]; omega)) (Ev.bind (putt_ev _ _ h.str (by rw [List.length_append, List.length_append]; omega)) (Ev.now _)))
theorem lt_l0 (l : List S52) (hm : l.length ≤ 100) (hg : ∀ x ∈ l, tgood x) (d : Nat) : ∀ (i : Nat) (acc : List Int), i + d = l.length → acc.length + 4126 * d ≤ 899000000 →
    Ev (fun k => api_Term_31.l0 k acc l (l.length : Int) (i : Int)) (acc ++ flat tbytes (l.drop i)) := by
  induction d with
  | zero =>
    intro i acc hi _
    rw [List.drop_of_length_le (by omega), flat, List.append_nil]
    refine Ev.step (fun k => ?_) (Ev.now acc)
    simp only [api_Term_31.l0]
    rw [if_neg (by omega)]
  | succ d ih =>
    intro i acc hi hb
    have hil : i < l.length := by omega
    have hx := hg _ (List.getElem_mem hil)
    have hlen := tbytes_len _ hx
    rw [List.drop_eq_getElem_cons hil, flat, ← List.append_assoc]
    refine Ev.step (f := fun k => (sheet_term.f k acc l[i].f0 l[i].f1 l[i].f2).bind fun t => api_Term_31.l0 k t l (l.length : Int) (((i + 1 : Nat) : Int))) (fun k => ?_) (Ev.bind (term_ev acc _ hx (by omega)) (ih (i + 1) _ (by omega) (by rw [List.length_append]; omega)))
    simp only [api_Term_31.l0]
    rw [if_pos (by omega), if_pos (by omega), if_pos (by omega), rdT l i hil, wrapi (n := l.length) hil (by have := maxLen_big; omega)]
theorem lt_ev (b : List Int) (l : List S52) (hm : l.length ≤ 100) (hg : ∀ x ∈ l, tgood x) (hb : b.length + 4126 * l.length + 10 ≤ 899000000) (z : Bool) : Ev (fun k => api_Term_31.f k b l z) (b ++ lst tbytes l) := by
  have h10 := enc_ten (n := l.length) (by omega)
  rw [lst, ← List.append_assoc]
  exact Ev.bind (put_ev b l.length hm (by omega)) (lt_l0 l hm hg l.length 0 _ (by omega) (by rw [List.length_append]; generalize (enc l.length).length = E at h10 ⊢; omega))
theorem expr_ev (b : List Int) (e : List S52) (h : egood e) (hb : b.length ≤ 898000000) : Ev (fun k => sheet_Encode_1_1.f k b e) (b ++ ebytes e) := by
  have h1 := h.1
  exact Ev.bind (lt_ev b e (by omega) h.2 (by omega) true) (Ev.now _)
theorem le_l0 (l : List (List S52)) (hm : l.length ≤ 100) (hg : ∀ x ∈ l, egood x) (d : Nat) : ∀ (i : Nat) (acc : List Int), i + d = l.length → acc.length + 264074 * d ≤ 898000000 →
    Ev (fun k => api_Term_29.l0 k acc l (l.length : Int) (i : Int)) (acc ++ flat ebytes (l.drop i)) := by
  induction d with
  | zero =>
    intro i acc hi _
    rw [List.drop_of_length_le (by omega), flat, List.append_nil]
    refine Ev.step (fun k => ?_) (Ev.now acc)
    simp only [api_Term_29.l0]
    rw [if_neg (by omega)]
  | succ d ih =>
    intro i acc hi hb
    have hil : i < l.length := by omega
    have hx := hg _ (List.getElem_mem hil)
    have hlen := ebytes_len _ hx
    rw [List.drop_eq_getElem_cons hil, flat, ← List.append_assoc]
    refine Ev.step (f := fun k => (sheet_Encode_1_1.f k acc l[i]).bind fun t => api_Term_29.l0 k t l (l.length : Int) (((i + 1 : Nat) : Int))) (fun k => ?_) (Ev.bind (expr_ev acc _ hx (by omega)) (ih (i + 1) _ (by omega) (by rw [List.length_append]; omega)))
    simp only [api_Term_29.l0]
    rw [if_pos (by omega), if_pos (by omega), if_pos (by omega), rdE l i hil, wrapi (n := l.length) hil (by have := maxLen_big; omega)]
theorem le_ev (b : List Int) (l : List (List S52)) (hm : l.length ≤ 100) (hg : ∀ x ∈ l, egood x) (hb : b.length + 264074 * l.length + 10 ≤ 898000000) (z : Bool) : Ev (fun k => api_Term_29.f k b l z) (b ++ lst ebytes l) := by
  have h10 := enc_ten (n := l.length) (by omega)
  rw [lst, ← List.append_assoc]
  exact Ev.bind (put_ev b l.length hm (by omega)) (le_l0 l hm hg l.length 0 _ (by omega) (by rw [List.length_append]; generalize (enc l.length).length = E at h10 ⊢; omega))
theorem four_l0 (l : List Int) (hm : l.length ≤ 100) (hg : ∀ x ∈ l, i64 x) (d : Nat) : ∀ (i : Nat) (acc : List Int), i + d = l.length → acc.length + 10 * d ≤ 900000000 →
    Ev (fun k => sheet_Encode_1.l0 k acc l (l.length : Int) (i : Int)) (acc ++ flat one (l.drop i)) := by
  induction d with
  | zero =>
    intro i acc hi _
    rw [List.drop_of_length_le (by omega), flat, List.append_nil]
    refine Ev.step (fun k => ?_) (Ev.now acc)
    simp only [sheet_Encode_1.l0]
    rw [if_neg (by omega)]
  | succ d ih =>
    intro i acc hi hb
    have hil : i < l.length := by omega
    have hx := hg _ (List.getElem_mem hil)
    have hlen := one_len _ hx
    rw [List.drop_eq_getElem_cons hil, flat, ← List.append_assoc]
    refine Ev.step (f := fun k => (num_PutInt.f k acc l[i]).bind fun t => sheet_Encode_1.l0 k t l (l.length : Int) (((i + 1 : Nat) : Int))) (fun k => ?_) (Ev.bind (puti_ev acc _ hx (by omega)) (ih (i + 1) _ (by omega) (by rw [List.length_append]; omega)))
    simp only [sheet_Encode_1.l0]
    rw [if_pos (by omega), if_pos (by omega), if_pos (by omega), rdI l i hil, wrapi (n := l.length) hil (by have := maxLen_big; omega)]
theorem node_ev (b : List Int) (x : S44) (h : ngood x) (hb : b.length ≤ 890000000) : Ev (fun k => sheet_Encode_1.f k b x.f0 x.f1 x.f2 x.f3 x.f4 x.f5 x.f6 x.f7 x.f8) (b ++ nbytes x) := by
  have a0 := one_len _ h.kind
  have a1 := ints_len _ (by have := h.insl; omega) h.ins
  have a2 := ints_len _ h.kindsl h.kinds
  have a3 := lst_len ebytes 264074 x.f3 (by have := h.exprsl; omega) (fun e he => ebytes_len e (h.exprs e he))
  have a4 := ints_len _ h.colsl h.cols
  have h1 := h.insl
  have h2 := h.kindsl
  have h3 := h.exprsl
  have h4 := h.colsl
  have e : b ++ nbytes x = (((((b ++ one x.f0) ++ lst one x.f1) ++ lst one x.f2) ++ lst ebytes x.f3) ++ lst one x.f4) ++ flat one [x.f5, x.f6, x.f7, x.f8] := by simp [nbytes, flat]
  rw [e]
  refine Ev.bind (puti_ev b _ h.kind (by omega)) (Ev.bind (li_ev _ _ (by omega) h.ins (by rw [List.length_append]; omega) true) (Ev.bind (li_ev _ _ (by omega) h.kinds (by simp only [List.length_append]; omega) true) (Ev.bind (le_ev _ _ (by omega) h.exprs (by simp only [List.length_append]; omega) true) (Ev.bind (li_ev _ _ (by omega) h.cols (by simp only [List.length_append]; omega) true) ?_))))
  have hg : ∀ a ∈ [x.f5, x.f6, x.f7, x.f8], i64 a := by
    intro a ha
    simp only [List.mem_cons, List.not_mem_nil, or_false] at ha
    rcases ha with rfl | rfl | rfl | rfl
    · exact h.key
    · exact h.n
    · exact h.size
    · exact h.slide
  exact four_l0 [x.f5, x.f6, x.f7, x.f8] (by simp) hg 4 0 _ (by simp) (by simp only [List.length_append]; omega)
theorem ln_l0 (l : List S44) (hm : l.length ≤ 100) (hg : ∀ x ∈ l, ngood x) (d : Nat) : ∀ (i : Nat) (acc : List Int), i + d = l.length → acc.length + 4226000 * d ≤ 890000000 →
    Ev (fun k => api_Node_27.l0 k acc l (l.length : Int) (i : Int)) (acc ++ flat nbytes (l.drop i)) := by
  induction d with
  | zero =>
    intro i acc hi _
    rw [List.drop_of_length_le (by omega), flat, List.append_nil]
    refine Ev.step (fun k => ?_) (Ev.now acc)
    simp only [api_Node_27.l0]
    rw [if_neg (by omega)]
  | succ d ih =>
    intro i acc hi hb
    have hil : i < l.length := by omega
    have hx := hg _ (List.getElem_mem hil)
    have hlen := nbytes_len _ hx
    rw [List.drop_eq_getElem_cons hil, flat, ← List.append_assoc]
    refine Ev.step (f := fun k => (sheet_Encode_1.f k acc l[i].f0 l[i].f1 l[i].f2 l[i].f3 l[i].f4 l[i].f5 l[i].f6 l[i].f7 l[i].f8).bind fun t => api_Node_27.l0 k t l (l.length : Int) (((i + 1 : Nat) : Int))) (fun k => ?_) (Ev.bind (node_ev acc _ hx (by omega)) (ih (i + 1) _ (by omega) (by rw [List.length_append]; omega)))
    simp only [api_Node_27.l0]
    rw [if_pos (by omega), if_pos (by omega), if_pos (by omega), rdN l i hil, wrapi (n := l.length) hil (by have := maxLen_big; omega)]
theorem ln_ev (b : List Int) (l : List S44) (hm : l.length ≤ 100) (hg : ∀ x ∈ l, ngood x) (hb : b.length + 4226000 * l.length + 10 ≤ 890000000) (z : Bool) : Ev (fun k => api_Node_27.f k b l z) (b ++ lst nbytes l) := by
  have h10 := enc_ten (n := l.length) (by omega)
  rw [lst, ← List.append_assoc]
  exact Ev.bind (put_ev b l.length hm (by omega)) (ln_l0 l hm hg l.length 0 _ (by omega) (by rw [List.length_append]; generalize (enc l.length).length = E at h10 ⊢; omega))
def elong (e : List S52) : Bool := decide ((e.length : Int) > 64)
def tlong (t : S52) : Bool := decide ((t.f2.size : Int) > 4096)
/-- P17.1: what is wrong with a node. -/
def nchk (x : S44) : Int := if x.f1.length > 8 ∨ x.f2.length > 16 ∨ x.f3.length > 16 ∨ x.f4.length > 16 then 3 else if x.f3.any elong = true then 3 else if (x.f3.any fun e => e.any tlong) = true then 2 else 0
def nsum : List S44 → Int
  | [] => 0
  | x :: t => if nchk x = 0 then nsum t else nchk x
def pchk (ns : List S44) (o : List Int) : Int := if ns.length > 64 ∨ o.length > 8 then 3 else nsum ns
theorem i69_l0 (l : List (List S52)) (hm : l.length ≤ maxLen) (d : Nat) : ∀ i : Nat, i + d = l.length → ∃ j : Int, Ev (fun k => api_Term_69.l0 k l (l.length : Int) (i : Int)) j ∧ decide (j ≥ 0) = (l.drop i).any elong := by
  induction d with
  | zero =>
    intro i hi
    refine ⟨-1, Ev.step (fun k => ?_) (Ev.now (-1)), ?_⟩
    · simp only [api_Term_69.l0]
      rw [if_neg (by omega)]
    · rw [List.drop_of_length_le (by omega)]; rfl
  | succ d ih =>
    intro i hi
    have hil : i < l.length := by omega
    rw [List.drop_eq_getElem_cons hil, List.any_cons]
    obtain ⟨j, h1, h2⟩ := ih (i + 1) (by omega)
    by_cases h : elong l[i] = true
    · refine ⟨(i : Int), Ev.step (fun k => ?_) (Ev.now _), ?_⟩
      · simp only [api_Term_69.l0, sheet_node_1.f, Option.bind_some]
        rw [if_pos (by omega), if_pos (by omega), if_pos (by omega), rdE l i hil]
        exact if_pos h
      · rw [h]; simp
    · refine ⟨j, Ev.step (fun k => ?_) h1, ?_⟩
      · simp only [api_Term_69.l0, sheet_node_1.f, Option.bind_some]
        rw [if_pos (by omega), if_pos (by omega), if_pos (by omega), rdE l i hil, wrapi hil hm]
        exact if_neg h
      · rw [h2]; simp [h]
theorem a53_ev (l : List (List S52)) (hm : l.length ≤ maxLen) (z : Bool) : Ev (fun k => api_Term_53.f k l z) (l.any elong) := by
  obtain ⟨j, h1, h2⟩ := i69_l0 l hm l.length 0 (by omega)
  rw [List.drop_zero] at h2
  rw [← h2]
  exact Ev.bind (g := fun k => api_Term_69.f k l true) h1 (Ev.now _)
theorem i70_l0 (l : List S52) (hm : l.length ≤ maxLen) (d : Nat) : ∀ i : Nat, i + d = l.length → ∃ j : Int, Ev (fun k => api_Term_70.l0 k l (l.length : Int) (i : Int)) j ∧ decide (j ≥ 0) = (l.drop i).any tlong := by
  induction d with
  | zero =>
    intro i hi
    refine ⟨-1, Ev.step (fun k => ?_) (Ev.now (-1)), ?_⟩
    · simp only [api_Term_70.l0]
      rw [if_neg (by omega)]
    · rw [List.drop_of_length_le (by omega)]; rfl
  | succ d ih =>
    intro i hi
    have hil : i < l.length := by omega
    rw [List.drop_eq_getElem_cons hil, List.any_cons]
    obtain ⟨j, h1, h2⟩ := ih (i + 1) (by omega)
    by_cases h : tlong l[i] = true
    · refine ⟨(i : Int), Ev.step (fun k => ?_) (Ev.now _), ?_⟩
      · simp only [api_Term_70.l0, sheet_node_2.f, Option.bind_some]
        rw [if_pos (by omega), if_pos (by omega), if_pos (by omega), rdT l i hil]
        exact if_pos h
      · rw [h]; simp
    · refine ⟨j, Ev.step (fun k => ?_) h1, ?_⟩
      · simp only [api_Term_70.l0, sheet_node_2.f, Option.bind_some]
        rw [if_pos (by omega), if_pos (by omega), if_pos (by omega), rdT l i hil, wrapi hil hm]
        exact if_neg h
      · rw [h2]; simp [h]
theorem a55_ev (l : List S52) (hm : l.length ≤ maxLen) (z : Bool) : Ev (fun k => api_Term_55.f k l z) (l.any tlong) := by
  obtain ⟨j, h1, h2⟩ := i70_l0 l hm l.length 0 (by omega)
  rw [List.drop_zero] at h2
  rw [← h2]
  exact Ev.bind (g := fun k => api_Term_70.f k l true) h1 (Ev.now _)
theorem node_l0 (l : List (List S52)) (hm : l.length ≤ maxLen) (hw : ∀ e ∈ l, e.length ≤ maxLen) (d : Nat) : ∀ i : Nat, i + d = l.length → Ev (fun k => sheet_node.l0 k l (l.length : Int) (i : Int)) (if ((l.drop i).any fun e => e.any tlong) = true then 2 else 0) := by
  induction d with
  | zero =>
    intro i hi
    rw [List.drop_of_length_le (by omega)]
    refine Ev.step (fun k => ?_) (Ev.now 0)
    simp only [sheet_node.l0]
    rw [if_neg (by omega)]
  | succ d ih =>
    intro i hi
    have hil : i < l.length := by omega
    rw [List.drop_eq_getElem_cons hil, List.any_cons]
    refine Ev.step (f := fun k => (api_Term_55.f k l[i] true).bind fun t => if t = true then some 2 else sheet_node.l0 k l (l.length : Int) ((i + 1 : Nat) : Int)) (fun k => ?_) (Ev.bind (a55_ev _ (hw _ (List.getElem_mem hil)) true) ?_)
    · simp only [sheet_node.l0]
      rw [if_pos (by omega), if_pos (by omega), if_pos (by omega), rdE l i hil, wrapi hil hm]
    · by_cases h : l[i].any tlong = true
      · simp only [h, if_true, Bool.true_or]; exact Ev.now 2
      · rw [Bool.not_eq_true] at h
        simp only [h, Bool.false_or]
        exact ih (i + 1) (by omega)
theorem node_chk (x : S44) (hw : NW x) : Ev (fun k => sheet_node.f k x.f0 x.f1 x.f2 x.f3 x.f4 x.f5 x.f6 x.f7 x.f8) (nchk x) := by
  obtain ⟨h1, h2, h4, h3, h5⟩ := hw
  have hf : Ev (fun k => sheet_node.j0 k false x.f0 x.f1 x.f2 x.f3 x.f4 x.f5 x.f6 x.f7 x.f8) (if x.f3.any elong = true then 3 else if (x.f3.any fun e => e.any tlong) = true then 2 else 0) := by
    refine Ev.step (f := fun k => (api_Term_53.f k x.f3 true).bind fun t => if t = true then some 3 else sheet_node.l0 k x.f3 (x.f3.length : Int) 0) (fun k => ?_) (Ev.bind (a53_ev _ h3 true) ?_)
    · simp only [sheet_node.j0]; rfl
    · by_cases h : x.f3.any elong = true
      · simp only [h, if_true]; exact Ev.now 3
      · rw [Bool.not_eq_true] at h
        simp only [h]
        exact node_l0 x.f3 h3 h5 x.f3.length 0 (by omega)
  have ht : Ev (fun k => sheet_node.j0 k true x.f0 x.f1 x.f2 x.f3 x.f4 x.f5 x.f6 x.f7 x.f8) 3 := by
    refine Ev.step (fun k => ?_) (Ev.now 3)
    simp only [sheet_node.j0]; rfl
  unfold nchk
  by_cases c1 : (x.f1.length : Int) > 8
  · rw [if_pos (by omega)]
    exact Ev.congr (fun k => by unfold sheet_node.f; rw [if_pos c1]) ht
  · by_cases c2 : mx (mx (x.f2.length : Int) (x.f3.length : Int)) (x.f4.length : Int) > 16
    · rw [if_pos (by unfold mx at c2; split at c2 <;> split at c2 <;> omega)]
      exact Ev.congr (fun k => by unfold sheet_node.f; rw [if_neg c1, decide_eq_true c2]) ht
    · rw [if_neg (by unfold mx at c2; split at c2 <;> split at c2 <;> omega)]
      exact Ev.congr (fun k => by unfold sheet_node.f; rw [if_neg c1, decide_eq_false c2]) hf
theorem chk_l0 (ns : List S44) (hm : ns.length ≤ maxLen) (hw : ∀ x ∈ ns, NW x) (d : Nat) : ∀ i : Nat, i + d = ns.length → Ev (fun k => sheet_Check.l0 k ns (ns.length : Int) (i : Int)) (nsum (ns.drop i)) := by
  induction d with
  | zero =>
    intro i hi
    rw [List.drop_of_length_le (by omega), nsum]
    refine Ev.step (fun k => ?_) (Ev.now 0)
    simp only [sheet_Check.l0]
    rw [if_neg (by omega)]
  | succ d ih =>
    intro i hi
    have hil : i < ns.length := by omega
    rw [List.drop_eq_getElem_cons hil, nsum]
    refine Ev.step (f := fun k => (sheet_node.f k ns[i].f0 ns[i].f1 ns[i].f2 ns[i].f3 ns[i].f4 ns[i].f5 ns[i].f6 ns[i].f7 ns[i].f8).bind fun t => if t = 0 then sheet_Check.l0 k ns (ns.length : Int) ((i + 1 : Nat) : Int) else some t) (fun k => ?_) (Ev.bind (node_chk _ (hw _ (List.getElem_mem hil))) ?_)
    · simp only [sheet_Check.l0]
      rw [if_pos (by omega), if_pos (by omega), if_pos (by omega), rdN ns i hil, wrapi hil hm]
    · by_cases h : nchk ns[i] = 0
      · simp only [h, if_true]; exact ih (i + 1) (by omega)
      · simp only [h, if_false]; exact Ev.now _
theorem chk_ev (ns : List S44) (o : List Int) (r : Int) (hm : ns.length ≤ maxLen) (hw : ∀ x ∈ ns, NW x) : Ev (fun k => sheet_Check.f k ns o r) (pchk ns o) := by
  have hf : Ev (fun k => sheet_Check.j0 k false ns o r) (nsum ns) := by
    refine Ev.step (f := fun k => sheet_Check.l0 k ns (ns.length : Int) 0) (fun k => ?_) (chk_l0 ns hm hw ns.length 0 (by omega))
    simp only [sheet_Check.j0]; rfl
  have ht : Ev (fun k => sheet_Check.j0 k true ns o r) 3 := by
    refine Ev.step (fun k => ?_) (Ev.now 3)
    simp only [sheet_Check.j0]; rfl
  unfold pchk
  by_cases c1 : (ns.length : Int) > 64
  · rw [if_pos (by omega)]
    exact Ev.congr (fun k => by unfold sheet_Check.f; rw [if_pos c1]) ht
  · by_cases c2 : (o.length : Int) > 8
    · rw [if_pos (by omega)]
      exact Ev.congr (fun k => by unfold sheet_Check.f; rw [if_neg c1, decide_eq_true c2]) ht
    · rw [if_neg (by omega)]
      exact Ev.congr (fun k => by unfold sheet_Check.f; rw [if_neg c1, decide_eq_false c2]) hf
section
variable (x : S44)
def R0 (i : Int) (k : Nat) : Option Int := runnelref17_node.l0 k i x.f0 x.f1 x.f2 x.f3 x.f4 x.f5 x.f6 x.f7 x.f8
def R1 (i : Int) (k : Nat) : Option Int := runnelref17_node.l1 k i x.f0 x.f1 x.f2 x.f3 x.f4 x.f5 x.f6 x.f7 x.f8
def R2 (i j : Int) (k : Nat) : Option Int := runnelref17_node.l2 k i j x.f0 x.f1 x.f2 x.f3 x.f4 x.f5 x.f6 x.f7 x.f8
theorem R2_ev (hw : NW x) (i : Nat) (hi : i < x.f3.length) (r : Int) (h : Ev (R1 x ((i + 1 : Nat) : Int)) r) (d : Nat) : ∀ j : Nat, j + d = x.f3[i].length → Ev (R2 x (i : Int) (j : Int)) (if (x.f3[i].drop j).any tlong = true then 2 else r) := by
  have h3 := hw.2.2.2.1
  have h5 := hw.2.2.2.2 _ (List.getElem_mem hi)
  induction d with
  | zero =>
    intro j hj
    rw [List.drop_of_length_le (by omega)]
    refine Ev.step (f := R1 x ((i + 1 : Nat) : Int)) (fun k => ?_) h
    show runnelref17_node.l2 (k + 1) _ _ _ _ _ _ _ _ _ _ _ = _
    simp only [runnelref17_node.l2]
    rw [if_pos (by omega), if_pos (by omega), rdE x.f3 i hi, if_neg (by omega), wrapi hi h3]
    rfl
  | succ d ih =>
    intro j hj
    have hjl : j < x.f3[i].length := by omega
    rw [List.drop_eq_getElem_cons hjl, List.any_cons]
    by_cases ht : tlong x.f3[i][j] = true
    · rw [ht, Bool.true_or, if_pos rfl]
      refine Ev.step (fun k => ?_) (Ev.now 2)
      show runnelref17_node.l2 (k + 1) _ _ _ _ _ _ _ _ _ _ _ = _
      simp only [runnelref17_node.l2]
      rw [if_pos (by omega), if_pos (by omega), rdE x.f3 i hi, if_pos (by omega), if_pos (by omega), rdT _ j hjl]
      exact if_pos (of_decide_eq_true ht)
    · rw [Bool.not_eq_true] at ht
      rw [ht, Bool.false_or]
      refine Ev.step (f := R2 x (i : Int) ((j + 1 : Nat) : Int)) (fun k => ?_) (ih (j + 1) (by omega))
      show runnelref17_node.l2 (k + 1) _ _ _ _ _ _ _ _ _ _ _ = _
      simp only [runnelref17_node.l2]
      rw [if_pos (by omega), if_pos (by omega), rdE x.f3 i hi, if_pos (by omega), if_pos (by omega), rdT _ j hjl, wrapi hjl h5]
      exact if_neg (of_decide_eq_false ht)
theorem R1_ev (hw : NW x) (d : Nat) : ∀ i : Nat, i + d = x.f3.length → Ev (R1 x (i : Int)) (if ((x.f3.drop i).any fun e => e.any tlong) = true then 2 else 0) := by
  induction d with
  | zero =>
    intro i hi
    rw [List.drop_of_length_le (by omega)]
    refine Ev.step (fun k => ?_) (Ev.now 0)
    show runnelref17_node.l1 (k + 1) _ _ _ _ _ _ _ _ _ _ = _
    simp only [runnelref17_node.l1]
    rw [if_neg (by omega)]
  | succ d ih =>
    intro i hi
    have hil : i < x.f3.length := by omega
    have h2 := R2_ev x hw i hil _ (ih (i + 1) (by omega)) x.f3[i].length 0 (by omega)
    rw [List.drop_zero] at h2
    rw [List.drop_eq_getElem_cons hil, List.any_cons]
    have e : (if (x.f3[i].any tlong || (x.f3.drop (i + 1)).any fun e => e.any tlong) = true then (2 : Int) else 0) = (if x.f3[i].any tlong = true then 2 else if ((x.f3.drop (i + 1)).any fun e => e.any tlong) = true then 2 else 0) := by
      by_cases h : x.f3[i].any tlong = true
      · simp [h]
      · rw [Bool.not_eq_true] at h; simp [h]
    rw [e]
    refine Ev.step (f := R2 x (i : Int) 0) (fun k => ?_) h2
    show runnelref17_node.l1 (k + 1) _ _ _ _ _ _ _ _ _ _ = _
    simp only [runnelref17_node.l1]
    rw [if_pos (by omega)]
    rfl
theorem R0_ev (hw : NW x) (d : Nat) : ∀ i : Nat, i + d = x.f3.length → Ev (R0 x (i : Int)) (if (x.f3.drop i).any elong = true then 3 else if (x.f3.any fun e => e.any tlong) = true then 2 else 0) := by
  have h3 := hw.2.2.2.1
  induction d with
  | zero =>
    intro i hi
    rw [List.drop_of_length_le (by omega)]
    refine Ev.step (f := R1 x 0) (fun k => ?_) (R1_ev x hw x.f3.length 0 (by omega))
    show runnelref17_node.l0 (k + 1) _ _ _ _ _ _ _ _ _ _ = _
    simp only [runnelref17_node.l0]
    rw [if_neg (by omega)]
    rfl
  | succ d ih =>
    intro i hi
    have hil : i < x.f3.length := by omega
    rw [List.drop_eq_getElem_cons hil, List.any_cons]
    by_cases ht : elong x.f3[i] = true
    · rw [ht, Bool.true_or, if_pos rfl]
      refine Ev.step (fun k => ?_) (Ev.now 3)
      show runnelref17_node.l0 (k + 1) _ _ _ _ _ _ _ _ _ _ = _
      simp only [runnelref17_node.l0]
      rw [if_pos (by omega), if_pos (by omega), rdE x.f3 i hil]
      exact if_pos (of_decide_eq_true ht)
    · rw [Bool.not_eq_true] at ht
      rw [ht, Bool.false_or]
      refine Ev.step (f := R0 x ((i + 1 : Nat) : Int)) (fun k => ?_) (ih (i + 1) (by omega))
      show runnelref17_node.l0 (k + 1) _ _ _ _ _ _ _ _ _ _ = _
      simp only [runnelref17_node.l0]
      rw [if_pos (by omega), if_pos (by omega), rdE x.f3 i hil, wrapi hil h3]
      exact if_neg (of_decide_eq_false ht)
theorem Rnode_chk (hw : NW x) : Ev (fun k => runnelref17_node.f k x.f0 x.f1 x.f2 x.f3 x.f4 x.f5 x.f6 x.f7 x.f8) (nchk x) := by
  have hf : Ev (fun k => runnelref17_node.j0 k false x.f0 x.f1 x.f2 x.f3 x.f4 x.f5 x.f6 x.f7 x.f8) (if x.f3.any elong = true then 3 else if (x.f3.any fun e => e.any tlong) = true then 2 else 0) := by
    refine Ev.step (f := R0 x 0) (fun k => ?_) (R0_ev x hw x.f3.length 0 (by omega))
    simp only [runnelref17_node.j0]; rfl
  have ht : Ev (fun k => runnelref17_node.j0 k true x.f0 x.f1 x.f2 x.f3 x.f4 x.f5 x.f6 x.f7 x.f8) 3 := by
    refine Ev.step (fun k => ?_) (Ev.now 3)
    simp only [runnelref17_node.j0]; rfl
  unfold nchk
  by_cases c1 : (x.f1.length : Int) > 8
  · rw [if_pos (by omega)]
    exact Ev.congr (fun k => by unfold runnelref17_node.f; rw [if_pos c1]) ht
  by_cases c2 : (x.f2.length : Int) > 16
  · rw [if_pos (by omega)]
    exact Ev.congr (fun k => by unfold runnelref17_node.f; rw [if_neg c1, if_pos c2]) ht
  by_cases c3 : (x.f3.length : Int) > 16
  · rw [if_pos (by omega)]
    exact Ev.congr (fun k => by unfold runnelref17_node.f; rw [if_neg c1, if_neg c2, if_pos c3]) ht
  by_cases c4 : (x.f4.length : Int) > 16
  · rw [if_pos (by omega)]
    exact Ev.congr (fun k => by unfold runnelref17_node.f; rw [if_neg c1, if_neg c2, if_neg c3, decide_eq_true c4]) ht
  · rw [if_neg (by omega)]
    exact Ev.congr (fun k => by unfold runnelref17_node.f; rw [if_neg c1, if_neg c2, if_neg c3, decide_eq_false c4]) hf
end
theorem Rchk_l0 (ns : List S44) (o : List Int) (r : Int) (hm : ns.length ≤ maxLen) (hw : ∀ x ∈ ns, NW x) (d : Nat) : ∀ i : Nat, i + d = ns.length → Ev (fun k => runnelref17_Check.l0 k (i : Int) ns o r) (nsum (ns.drop i)) := by
  induction d with
  | zero =>
    intro i hi
    rw [List.drop_of_length_le (by omega), nsum]
    refine Ev.step (fun k => ?_) (Ev.now 0)
    simp only [runnelref17_Check.l0]
    rw [if_neg (by omega)]
  | succ d ih =>
    intro i hi
    have hil : i < ns.length := by omega
    rw [List.drop_eq_getElem_cons hil, nsum]
    refine Ev.step (f := fun k => (runnelref17_node.f k ns[i].f0 ns[i].f1 ns[i].f2 ns[i].f3 ns[i].f4 ns[i].f5 ns[i].f6 ns[i].f7 ns[i].f8).bind fun t => if t = 0 then runnelref17_Check.l0 k ((i + 1 : Nat) : Int) ns o r else some t) (fun k => ?_) (Ev.bind (Rnode_chk _ (hw _ (List.getElem_mem hil))) ?_)
    · simp only [runnelref17_Check.l0]
      rw [if_pos (by omega), if_pos (by omega), rdN ns i hil, wrapi hil hm]
    · by_cases h : nchk ns[i] = 0
      · simp only [h, if_true]; exact ih (i + 1) (by omega)
      · simp only [h, if_false]; exact Ev.now _
theorem Rchk_ev (ns : List S44) (o : List Int) (r : Int) (hm : ns.length ≤ maxLen) (hw : ∀ x ∈ ns, NW x) : Ev (fun k => runnelref17_Check.f k ns o r) (pchk ns o) := by
  have hf : Ev (fun k => runnelref17_Check.j0 k false ns o r) (nsum ns) := by
    refine Ev.step (f := fun k => runnelref17_Check.l0 k 0 ns o r) (fun k => ?_) (Rchk_l0 ns o r hm hw ns.length 0 (by omega))
    simp only [runnelref17_Check.j0]; rfl
  have ht : Ev (fun k => runnelref17_Check.j0 k true ns o r) 3 := by
    refine Ev.step (fun k => ?_) (Ev.now 3)
    simp only [runnelref17_Check.j0]; rfl
  unfold pchk
  by_cases c1 : (ns.length : Int) > 64
  · rw [if_pos (by omega)]
    exact Ev.congr (fun k => by unfold runnelref17_Check.f; rw [if_pos c1]) ht
  · by_cases c2 : (o.length : Int) > 8
    · rw [if_pos (by omega)]
      exact Ev.congr (fun k => by unfold runnelref17_Check.f; rw [if_neg c1, decide_eq_true c2]) ht
    · rw [if_neg (by omega)]
      exact Ev.congr (fun k => by unfold runnelref17_Check.f; rw [if_neg c1, decide_eq_false c2]) hf
theorem encode_ev (ns : List S44) (o : List Int) (r : Int) (hm : ns.length ≤ maxLen) (hw : ∀ x ∈ ns, NW x) (hg : pchk ns o = 0 → pgood ns o r) : Ev (fun k => sheet_Encode.f k ns o r) (if pchk ns o = 0 then (pbytes ns o r, 0) else ([], pchk ns o)) := by
  refine Ev.bind (chk_ev ns o r hm hw) ?_
  by_cases h : pchk ns o = 0
  · have g := hg h
    have a0 := one_len _ g.r
    have a1 := ints_len _ (by have := g.ol; omega) g.o
    have h1 := g.ol
    have h2 := g.nsl
    simp only [h, if_true]
    have e : pbytes ns o r = (([80] ++ one r) ++ lst one o) ++ lst nbytes ns := by simp [pbytes]
    rw [e]
    exact Ev.bind (puti_ev [80] r g.r (by simp)) (Ev.bind (li_ev _ o (by omega) g.o (by rw [List.length_append, List.length_singleton]; omega) true) (Ev.bind (ln_ev _ ns (by omega) g.ns (by simp only [List.length_append, List.length_singleton]; omega) true) (Ev.now _)))
  · simp only [h, if_false]; exact Ev.now _
theorem Rone_ev (a : Int) (h : i64 a) : Ev (fun k => runnelref17_one.f k a) (one a) := ⟨12, fun k hk => by
  unfold runnelref17_one.f
  rw [Signed_f a h.1 h.2]
  simp only [Option.bind_some]
  rw [Bytes_f (zig_lt a h.1 h.2) hk]
  rfl⟩
theorem Rb_ev (n : Nat) (h : n ≤ 100) : Ev (fun k => runnelref01_Bytes.f k (IntKind.u64.wrap (n : Int))) (enc n) := ⟨12, fun k hk => by rw [u64_in _ (by omega) (by omega)]; exact Bytes_f (by omega) hk⟩
theorem Rt_ev (s : ByteArray) (h : s.size ≤ 4096) : Ev (fun k => runnelref01_Text.f k s) (txt s) := ⟨12, fun k hk => RText_f s hk (by have := cap_ge; omega)⟩
theorem Rli_l0 (l : List Int) (hm : l.length ≤ 100) (hg : ∀ x ∈ l, i64 x) (d : Nat) : ∀ (i : Nat) (acc : List Int), i + d = l.length → acc.length + 10 * d ≤ 900000000 → Ev (fun k => runnelref17_list.l0 k l acc (i : Int)) (acc ++ flat one (l.drop i)) := by
  induction d with
  | zero =>
    intro i acc hi _
    rw [List.drop_of_length_le (by omega), flat, List.append_nil]
    refine Ev.step (fun k => ?_) (Ev.now acc)
    simp only [runnelref17_list.l0]
    rw [if_neg (by omega)]
  | succ d ih =>
    intro i acc hi hb
    have hil : i < l.length := by omega
    have hx := hg _ (List.getElem_mem hil)
    have hlen := one_len _ hx
    rw [List.drop_eq_getElem_cons hil, flat, ← List.append_assoc]
    refine Ev.step (f := fun k => (runnelref17_one.f k l[i]).bind fun t => if acc.length + t.length < 140737488355328 then runnelref17_list.l0 k l (acc ++ t) ((i + 1 : Nat) : Int) else none) (fun k => ?_) (Ev.bind (Rone_ev _ hx) ?_)
    · simp only [runnelref17_list.l0]
      rw [if_pos (by omega), if_pos (by omega), rdI l i hil, wrapi (n := l.length) hil (by have := maxLen_big; omega)]
    · have hlt : acc.length + (one l[i]).length < 140737488355328 := by omega
      simp only [hlt, if_true]
      exact ih (i + 1) _ (by omega) (by rw [List.length_append]; omega)
theorem Rli_ev (l : List Int) (hm : l.length ≤ 100) (hg : ∀ x ∈ l, i64 x) : Ev (fun k => runnelref17_list.f k l) (lst one l) := by
  have h10 := enc_ten (n := l.length) (by omega)
  exact Ev.bind (Rb_ev l.length hm) (Rli_l0 l hm hg l.length 0 _ (by omega) (by generalize (enc l.length).length = E at h10 ⊢; omega))
section
variable (x : S44)
def B0 (acc : List Int) (i : Int) (k : Nat) : Option (List Int) := runnelref17_nodeBytes.l0 k acc i x.f0 x.f1 x.f2 x.f3 x.f4 x.f5 x.f6 x.f7 x.f8
def B1 (acc : List Int) (i j : Int) (k : Nat) : Option (List Int) := runnelref17_nodeBytes.l1 k acc i j x.f0 x.f1 x.f2 x.f3 x.f4 x.f5 x.f6 x.f7 x.f8
theorem app_ev {f : Nat → Option (List Int)} {acc t : List Int} {g : Nat → List Int → Option (List Int)} {r : List Int} (h : Ev f t) (hl : acc.length + t.length < 140737488355328) (hk : Ev (fun k => g k (acc ++ t)) r) : Ev (fun k => (f k).bind fun t => if acc.length + t.length < 140737488355328 then ((some (acc ++ t)).bind (g k)) else none) r := by
  refine Ev.bind h ?_
  simp only [Option.bind_some, hl, if_true]
  exact hk
theorem B1_ev (h : ngood x) (i : Nat) (hi : i < x.f3.length) (r : List Int) (d : Nat) : ∀ (j : Nat) (acc : List Int), j + d = x.f3[i].length → acc.length + 4126 * d ≤ 890000000 → Ev (B0 x (acc ++ flat tbytes (x.f3[i].drop j)) ((i + 1 : Nat) : Int)) r → Ev (B1 x acc (i : Int) (j : Int)) r := by
  have hx := h.exprs _ (List.getElem_mem hi)
  have h3 := h.exprsl
  induction d with
  | zero =>
    intro j acc hj _ hr
    rw [List.drop_of_length_le (by omega), flat, List.append_nil] at hr
    refine Ev.step (f := B0 x acc ((i + 1 : Nat) : Int)) (fun k => ?_) hr
    show runnelref17_nodeBytes.l1 (k + 1) _ _ _ _ _ _ _ _ _ _ _ _ = _
    simp only [runnelref17_nodeBytes.l1]
    rw [if_pos (by omega), if_pos (by omega), rdE x.f3 i hi, if_neg (by omega), wrapi (n := x.f3.length) hi (by have := maxLen_big; omega)]
    rfl
  | succ d ih =>
    intro j acc hj hb hr
    have hjl : j < x.f3[i].length := by omega
    have ht := hx.2 _ (List.getElem_mem hjl)
    have l0 := one_len _ ht.op
    have l1 := one_len _ ht.int
    have l2 := txt_len _ ht.str
    have h64 := hx.1
    rw [List.drop_eq_getElem_cons hjl, flat, ← List.append_assoc, tbytes, ← List.append_assoc, ← List.append_assoc] at hr
    refine Ev.step (f := fun k => (runnelref17_one.f k x.f3[i][j].f0).bind fun t => if acc.length + t.length < 140737488355328 then ((some (acc ++ t)).bind fun y => (runnelref17_one.f k x.f3[i][j].f1).bind fun t => if y.length + t.length < 140737488355328 then ((some (y ++ t)).bind fun y => (runnelref01_Text.f k x.f3[i][j].f2).bind fun t => if y.length + t.length < 140737488355328 then (some (y ++ t)).bind (fun z => B1 x z (i : Int) ((j + 1 : Nat) : Int) k) else none) else none) else none) (fun k => ?_) ?_
    · show runnelref17_nodeBytes.l1 (k + 1) _ _ _ _ _ _ _ _ _ _ _ _ = _
      simp only [runnelref17_nodeBytes.l1]
      rw [if_pos (by omega), if_pos (by omega), rdE x.f3 i hi, if_pos (by omega), if_pos (by omega), rdT _ j hjl, wrapi (n := x.f3[i].length) hjl (by have := maxLen_big; omega)]
      rfl
    · refine app_ev (Rone_ev _ ht.op) (by omega) (app_ev (Rone_ev _ ht.int) (by rw [List.length_append]; omega) (app_ev (Rt_ev _ ht.str) (by simp only [List.length_append]; omega) ?_))
      exact ih (j + 1) _ (by omega) (by simp only [List.length_append]; omega) hr
theorem B0_ev (h : ngood x) (d : Nat) : ∀ (i : Nat) (acc : List Int), i + d = x.f3.length → acc.length + 264074 * d ≤ 880000000 → Ev (B0 x acc (i : Int)) (((((((acc ++ flat ebytes (x.f3.drop i)) ++ lst one x.f4) ++ one x.f5) ++ one x.f6) ++ one x.f7) ++ one x.f8)) := by
  have h3 := h.exprsl
  have h4 := h.colsl
  have a4 := ints_len _ h.colsl h.cols
  have a5 := one_len _ h.key
  have a6 := one_len _ h.n
  have a7 := one_len _ h.size
  have a8 := one_len _ h.slide
  induction d with
  | zero =>
    intro i acc hi hb
    rw [List.drop_of_length_le (by omega), flat, List.append_nil]
    refine Ev.step (f := fun k => (runnelref17_list.f k x.f4).bind fun t => if acc.length + t.length < 140737488355328 then ((some (acc ++ t)).bind fun y => (runnelref17_one.f k x.f5).bind fun t => if y.length + t.length < 140737488355328 then ((some (y ++ t)).bind fun y => (runnelref17_one.f k x.f6).bind fun t => if y.length + t.length < 140737488355328 then ((some (y ++ t)).bind fun y => (runnelref17_one.f k x.f7).bind fun t => if y.length + t.length < 140737488355328 then ((some (y ++ t)).bind fun y => (runnelref17_one.f k x.f8).bind fun t => if y.length + t.length < 140737488355328 then ((some (y ++ t)).bind fun z => some z) else none) else none) else none) else none) else none) (fun k => ?_) ?_
    · show runnelref17_nodeBytes.l0 (k + 1) _ _ _ _ _ _ _ _ _ _ _ = _
      simp only [runnelref17_nodeBytes.l0]
      rw [if_neg (by omega)]
      rfl
    · refine app_ev (Rli_ev _ (by omega) h.cols) (by omega) (app_ev (Rone_ev _ h.key) (by simp only [List.length_append]; omega) (app_ev (Rone_ev _ h.n) (by simp only [List.length_append]; omega) (app_ev (Rone_ev _ h.size) (by simp only [List.length_append]; omega) (app_ev (Rone_ev _ h.slide) (by simp only [List.length_append]; omega) (Ev.now _)))))
  | succ d ih =>
    intro i acc hi hb
    have hil : i < x.f3.length := by omega
    have he := h.exprs _ (List.getElem_mem hil)
    have h64 := he.1
    have hbl := ebytes_len _ he
    have h10 := enc_ten (n := x.f3[i].length) (by omega)
    rw [List.drop_eq_getElem_cons hil, flat, ← List.append_assoc]
    refine Ev.step (f := fun k => (runnelref01_Bytes.f k (IntKind.u64.wrap (x.f3[i].length : Int))).bind fun t => if acc.length + t.length < 140737488355328 then ((some (acc ++ t)).bind fun z => B1 x z (i : Int) 0 k) else none) (fun k => ?_) ?_
    · show runnelref17_nodeBytes.l0 (k + 1) _ _ _ _ _ _ _ _ _ _ _ = _
      simp only [runnelref17_nodeBytes.l0]
      rw [if_pos (by omega), if_pos (by omega), rdE x.f3 i hil]
      rfl
    · refine app_ev (Rb_ev _ (by omega)) (by generalize (enc x.f3[i].length).length = E at h10 ⊢; omega) ?_
      have hE : (acc ++ enc x.f3[i].length).length ≤ acc.length + 10 := by rw [List.length_append]; omega
      refine B1_ev x h i hil _ x.f3[i].length 0 _ (by omega) (by omega) ?_
      rw [List.drop_zero, List.append_assoc acc]
      exact ih (i + 1) _ (by omega) (by show (acc ++ ebytes x.f3[i]).length + _ ≤ _; rw [List.length_append]; omega)
theorem Rnode_ev (h : ngood x) : Ev (fun k => runnelref17_nodeBytes.f k x.f0 x.f1 x.f2 x.f3 x.f4 x.f5 x.f6 x.f7 x.f8) (nbytes x) := by
  have a0 := one_len _ h.kind
  have a1 := ints_len _ (by have := h.insl; omega) h.ins
  have a2 := ints_len _ h.kindsl h.kinds
  have h1 := h.insl
  have h2 := h.kindsl
  have h3 := h.exprsl
  have h10 := enc_ten (n := x.f3.length) (by omega)
  have e : nbytes x = (((((((((one x.f0 ++ lst one x.f1) ++ lst one x.f2) ++ enc x.f3.length) ++ flat ebytes x.f3) ++ lst one x.f4) ++ one x.f5) ++ one x.f6) ++ one x.f7) ++ one x.f8) := by simp [nbytes, lst]
  rw [e]
  refine Ev.bind (Rone_ev _ h.kind) (app_ev (Rli_ev _ (by omega) h.ins) (by omega) (app_ev (Rli_ev _ (by omega) h.kinds) (by simp only [List.length_append]; omega) (app_ev (g := fun k z => B0 x z 0 k) (Rb_ev _ (by omega)) (by simp only [List.length_append]; generalize (enc x.f3.length).length = E at h10 ⊢; omega) ?_)))
  have hB := B0_ev x h x.f3.length 0 (((one x.f0 ++ lst one x.f1) ++ lst one x.f2) ++ enc x.f3.length) (by omega) (by simp only [List.length_append]; generalize (enc x.f3.length).length = E at h10 ⊢; omega)
  rw [List.drop_zero] at hB
  exact hB
end
theorem RB_l0 (ns : List S44) (o : List Int) (r : Int) (hm : ns.length ≤ 100) (hg : ∀ x ∈ ns, ngood x) (d : Nat) : ∀ (i : Nat) (acc : List Int), i + d = ns.length → acc.length + 4226000 * d ≤ 890000000 → Ev (fun k => runnelref17_Bytes.l0 k acc (i : Int) ns o r) (acc ++ flat nbytes (ns.drop i)) := by
  induction d with
  | zero =>
    intro i acc hi _
    rw [List.drop_of_length_le (by omega), flat, List.append_nil]
    refine Ev.step (fun k => ?_) (Ev.now acc)
    simp only [runnelref17_Bytes.l0]
    rw [if_neg (by omega)]
  | succ d ih =>
    intro i acc hi hb
    have hil : i < ns.length := by omega
    have hx := hg _ (List.getElem_mem hil)
    have hlen := nbytes_len _ hx
    rw [List.drop_eq_getElem_cons hil, flat, ← List.append_assoc]
    refine Ev.step (f := fun k => (runnelref17_nodeBytes.f k ns[i].f0 ns[i].f1 ns[i].f2 ns[i].f3 ns[i].f4 ns[i].f5 ns[i].f6 ns[i].f7 ns[i].f8).bind fun t => if acc.length + t.length < 140737488355328 then runnelref17_Bytes.l0 k (acc ++ t) ((i + 1 : Nat) : Int) ns o r else none) (fun k => ?_) (Ev.bind (Rnode_ev _ hx) ?_)
    · simp only [runnelref17_Bytes.l0]
      rw [if_pos (by omega), if_pos (by omega), rdN ns i hil, wrapi (n := ns.length) hil (by have := maxLen_big; omega)]
    · have hlt : acc.length + (nbytes ns[i]).length < 140737488355328 := by omega
      simp only [hlt, if_true]
      exact ih (i + 1) _ (by omega) (by rw [List.length_append]; omega)
theorem Rbytes_ev (ns : List S44) (o : List Int) (r : Int) (g : pgood ns o r) : Ev (fun k => runnelref17_Bytes.f k ns o r) (pbytes ns o r) := by
  have a0 := one_len _ g.r
  have a1 := ints_len _ (by have := g.ol; omega) g.o
  have h1 := g.ol
  have h2 := g.nsl
  have h10 := enc_ten (n := ns.length) (by omega)
  have e : pbytes ns o r = ((([80] ++ one r) ++ lst one o) ++ enc ns.length) ++ flat nbytes ns := by simp [pbytes, lst]
  rw [e]
  refine Ev.bind (g := fun _ => some [80]) (Ev.now [80]) (app_ev (Rone_ev r g.r) (by rw [List.length_singleton]; omega) (app_ev (Rli_ev o (by omega) g.o) (by simp only [List.length_append, List.length_singleton]; omega) ?_))
  refine Ev.bind (Rb_ev ns.length (by omega)) ?_
  have hlt : (([80] ++ one r) ++ lst one o).length + (enc ns.length).length < 140737488355328 := by simp only [List.length_append, List.length_singleton]; generalize (enc ns.length).length = E at h10 ⊢; omega
  simp only [hlt, if_true]
  exact RB_l0 ns o r (by omega) g.ns ns.length 0 _ (by omega) (by simp only [List.length_append, List.length_singleton]; generalize (enc ns.length).length = E at h10 ⊢; omega)
theorem str_back (s : ByteArray) : strOfNums (bytesOf s) = s := by
  have h := strOfNums_data (bytesOf s)
  have : (strOfNums (bytesOf s)).toList = s.toList := by rw [str_of, str_bytesOf]
  rw [toList_eq, toList_eq] at this
  cases hs : s with
  | mk d =>
    cases hb : strOfNums (bytesOf (ByteArray.mk d)) with
    | mk e =>
      rw [hs, hb] at this
      have : e = d := by cases e; cases d; simp at this; rw [this]
      rw [this]
theorem gi_ev (l p r : List Int) (a : Int) (hl : ∀ x ∈ l, 0 ≤ x ∧ x < 256) (hc : l.length + 10 ≤ capN) (he : l = p ++ (one a ++ r)) (h : i64 a) : Ev (fun k => sheet_reader_int.f k l (p.length : Int) false) (a, ((p.length + (one a).length : Nat) : Int), false) := by
  refine ⟨2 * l.length + 8, fun k hk => ?_⟩
  unfold sheet_reader_int.f
  have hg := get_enc p r (zig a) (zig_lt a h.1 h.2) (p.length : Int) rfl
  have hz : zag ((zig a : Nat) : Int) = a := zag_zig a
  dsimp only
  rw [getInt_f l hl _ hk hc, he, show one a = enc (zig a) from rfl, hg]
  simp only [Option.bind_some]
  rw [if_neg (by decide), if_pos trivial, hz]
theorem gn_ev (l p r : List Int) (n : Nat) (hl : ∀ x ∈ l, 0 ≤ x ∧ x < 256) (hc : l.length + 10 ≤ capN) (he : l = p ++ (enc n ++ r)) (h : n ≤ 100) : Ev (fun k => num_Get.f k l (p.length : Int)) ((n : Int), ((p.length + (enc n).length : Nat) : Int), 0) := by
  refine ⟨2 * l.length + 8, fun k hk => ?_⟩
  dsimp only
  rw [get_f l hl _ hk hc, he, get_enc p r n (by omega) (p.length : Int) rfl]
theorem gt_ev (l p r : List Int) (s : ByteArray) (hl : ∀ x ∈ l, 0 ≤ x ∧ x < 256) (hc : l.length + 10 ≤ capN) (he : l = p ++ (txt s ++ r)) (h : s.size ≤ 4096) : Ev (fun k => sheet_reader_text.f k l (p.length : Int) false) (s, ((p.length + (txt s).length : Nat) : Int), false) := by
  refine ⟨2 * l.length + 8, fun k hk => ?_⟩
  have hbl : (bytesOf s).length = s.size := by unfold bytesOf; simp
  have hg := get_enc p (bytesOf s ++ r) s.size (by omega) (p.length : Int) rfl
  have hll : l.length = p.length + ((enc s.size).length + (s.size + r.length)) := by rw [he, txt, List.length_append, List.length_append, List.length_append, hbl]; omega
  have hcut := cut_mid (p ++ enc s.size) (bytesOf s) r (((p.length + (enc s.size).length : Nat) : Int) + (s.size : Int)) ((p.length + (enc s.size).length : Nat) : Int) (by rw [List.length_append, hbl]; omega) (by rw [List.length_append])
  unfold sheet_reader_text.f
  dsimp only
  rw [GetText_f l hl _ 4096 hk hc (by decide), if_neg (by decide)]
  have e : l = p ++ (enc s.size ++ (bytesOf s ++ r)) := by rw [he, txt, List.append_assoc]
  rw [List.append_assoc, ← e] at hcut
  rw [← e] at hg
  rw [hg]
  simp only
  rw [if_pos trivial, if_neg (by omega), if_neg (by omega), hcut, str_back]
  simp only [Option.bind_some]
  rw [if_neg (by decide), if_pos trivial]
  congr 2
  rw [txt, List.length_append, hbl]
  congr 1
  omega
theorem gterm_ev (l p r : List Int) (t : S52) (hl : ∀ x ∈ l, 0 ≤ x ∧ x < 256) (hc : l.length + 10 ≤ capN) (he : l = p ++ (tbytes t ++ r)) (h : tgood t) : Ev (fun k => sheet_reader_term.f k l (p.length : Int) false) (t.f0, t.f1, t.f2, ((p.length + (tbytes t).length : Nat) : Int), false) := by
  have e1 : l = p ++ (one t.f0 ++ (one t.f1 ++ (txt t.f2 ++ r))) := by rw [he, tbytes]; simp
  have e2 : l = (p ++ one t.f0) ++ (one t.f1 ++ (txt t.f2 ++ r)) := by rw [e1]; simp
  have e3 : l = ((p ++ one t.f0) ++ one t.f1) ++ (txt t.f2 ++ r) := by rw [e1]; simp
  have h1 := gi_ev l p _ t.f0 hl hc e1 h.op
  have h2 := gi_ev l _ _ t.f1 hl hc e2 h.int
  have h3 := gt_ev l _ _ t.f2 hl hc e3 h.str
  rw [List.length_append] at h2 h3
  rw [List.length_append] at h3
  refine Ev.bind h1 (Ev.bind h2 (Ev.bind h3 ?_))
  rw [tbytes, List.length_append, List.length_append, ← Nat.add_assoc, ← Nat.add_assoc]
  exact Ev.now _
theorem mi_l0 (l : List Int) (hl : ∀ x ∈ l, 0 ≤ x ∧ x < 256) (hc : l.length + 10 ≤ capN) (n : Nat) (hn : n ≤ 100) (r : List Int) (xs : List Int) : ∀ (i : Nat) (acc : List Int) (p : List Int), (∀ x ∈ xs, i64 x) → l = p ++ (flat one xs ++ r) → i + xs.length = n → acc.length = i →
    Ev (fun k => sheet_many_int.l0 k acc (n : Int) (i : Int) l (p.length : Int) false) (acc ++ xs, ((p.length + (flat one xs).length : Nat) : Int), false) := by
  induction xs with
  | nil =>
    intro i acc p _ _ hi _
    simp only [List.length_nil] at hi
    rw [List.append_nil, flat, List.length_nil, Nat.add_zero]
    refine Ev.step (fun k => ?_) (Ev.now _)
    simp only [sheet_many_int.l0]
    rw [if_neg (by omega)]
  | cons x t ih =>
    intro i acc p hg he hi ha
    rw [List.length_cons] at hi
    have hx := hg x (by simp)
    have e1 : l = p ++ (one x ++ (flat one t ++ r)) := by rw [he, flat, List.append_assoc]
    have h1 := gi_ev l p _ x hl hc e1 hx
    have hlt : acc.length < 17592186044416 := by omega
    have h2 := ih (i + 1) (acc ++ [x]) (p ++ one x) (fun y hy => hg y (by simp [hy])) (by rw [e1, List.append_assoc]) (by omega) (by simp [ha])
    rw [List.length_append] at h2
    have e2 : (acc ++ x :: t, ((p.length + (flat one (x :: t)).length : Nat) : Int), false) = ((acc ++ [x]) ++ t, ((p.length + (one x).length + (flat one t).length : Nat) : Int), false) := by
      rw [flat, List.length_append, Nat.add_assoc]; simp
    rw [e2]
    refine Ev.step (f := fun k => (sheet_reader_int.f k l (p.length : Int) false).bind fun b => if acc.length < 17592186044416 then sheet_many_int.l0 k (acc ++ [b.1]) (n : Int) ((i + 1 : Nat) : Int) l b.2.1 b.2.2 else none) (fun k => ?_) (Ev.bind h1 ?_)
    · simp only [sheet_many_int.l0]
      rw [if_pos (by omega), if_neg (by decide), u64_in _ (by omega) (by omega), show ((i : Int) + 1) = ((i + 1 : Nat) : Int) by omega]
    · simp only [hlt, if_true]
      exact h2
theorem mi_ev (l : List Int) (hl : ∀ x ∈ l, 0 ≤ x ∧ x < 256) (hc : l.length + 10 ≤ capN) (p r : List Int) (xs : List Int) (hg : ∀ x ∈ xs, i64 x) (he : l = p ++ (lst one xs ++ r)) (m : Nat) (hm : m ≤ 100) (hx : xs.length ≤ m) (z : Bool) :
    Ev (fun k => sheet_many_int.f k l (p.length : Int) false (m : Int) z) (xs, ((p.length + (lst one xs).length : Nat) : Int), false) := by
  have e1 : l = p ++ (enc xs.length ++ (flat one xs ++ r)) := by rw [he, lst, List.append_assoc]
  have h1 := gn_ev l p _ xs.length hl hc e1 (by omega)
  have h2 := mi_l0 l hl hc xs.length (by omega) r xs 0 [] (p ++ enc xs.length) hg (by rw [e1, List.append_assoc]) (by omega) rfl
  rw [List.length_append, List.nil_append, Nat.add_assoc] at h2
  refine Ev.bind h1 ?_
  simp only
  have hd : decide ((xs.length : Int) > IntKind.u64.wrap (m : Int)) = false := by rw [u64_in _ (by omega) (by omega)]; exact decide_eq_false (by omega)
  rw [lst, List.length_append]
  refine Ev.congr (f := fun k => sheet_many_int.j0 k (xs.length : Int) ((p.length + (enc xs.length).length : Nat) : Int) false l (p.length : Int) false) (fun k => by rw [if_neg (by decide), if_pos trivial, hd]) ?_
  refine Ev.step (f := fun k => sheet_many_int.l0 k [] (xs.length : Int) 0 l ((p.length + (enc xs.length).length : Nat) : Int) false) (fun k => ?_) h2
  simp only [sheet_many_int.j0]; rfl
theorem mt_l0 (l : List Int) (hl : ∀ x ∈ l, 0 ≤ x ∧ x < 256) (hc : l.length + 10 ≤ capN) (n : Nat) (hn : n ≤ 100) (r : List Int) (xs : List S52) : ∀ (i : Nat) (acc : List S52) (p : List Int), (∀ x ∈ xs, tgood x) → l = p ++ (flat tbytes xs ++ r) → i + xs.length = n → acc.length = i →
    Ev (fun k => api_Term_61.l0 k acc (n : Int) (i : Int) l (p.length : Int) false) (acc ++ xs, ((p.length + (flat tbytes xs).length : Nat) : Int), false) := by
  induction xs with
  | nil =>
    intro i acc p _ _ hi _
    simp only [List.length_nil] at hi
    rw [List.append_nil, flat, List.length_nil, Nat.add_zero]
    refine Ev.step (fun k => ?_) (Ev.now _)
    simp only [api_Term_61.l0]
    rw [if_neg (by omega)]
  | cons x t ih =>
    intro i acc p hg he hi ha
    rw [List.length_cons] at hi
    have hx := hg x (by simp)
    have e1 : l = p ++ (tbytes x ++ (flat tbytes t ++ r)) := by rw [he, flat, List.append_assoc]
    have h1 := gterm_ev l p _ x hl hc e1 hx
    have hlt : acc.length < 4398046511104 := by omega
    have h2 := ih (i + 1) (acc ++ [x]) (p ++ tbytes x) (fun y hy => hg y (by simp [hy])) (by rw [e1, List.append_assoc]) (by omega) (by simp [ha])
    rw [List.length_append] at h2
    have e2 : (acc ++ x :: t, ((p.length + (flat tbytes (x :: t)).length : Nat) : Int), false) = ((acc ++ [x]) ++ t, ((p.length + (tbytes x).length + (flat tbytes t).length : Nat) : Int), false) := by
      rw [flat, List.length_append, Nat.add_assoc]; simp
    rw [e2]
    refine Ev.step (f := fun k => (sheet_reader_term.f k l (p.length : Int) false).bind fun b => if acc.length < 4398046511104 then api_Term_61.l0 k (acc ++ [(⟨b.1, b.2.1, b.2.2.1⟩ : S52)]) (n : Int) ((i + 1 : Nat) : Int) l b.2.2.2.1 b.2.2.2.2 else none) (fun k => ?_) (Ev.bind h1 ?_)
    · simp only [api_Term_61.l0]
      rw [if_pos (by omega), if_neg (by decide), u64_in _ (by omega) (by omega), show ((i : Int) + 1) = ((i + 1 : Nat) : Int) by omega]
    · simp only [hlt, if_true]
      exact h2
theorem mt_ev (l : List Int) (hl : ∀ x ∈ l, 0 ≤ x ∧ x < 256) (hc : l.length + 10 ≤ capN) (p r : List Int) (xs : List S52) (hg : ∀ x ∈ xs, tgood x) (he : l = p ++ (lst tbytes xs ++ r)) (m : Nat) (hm : m ≤ 100) (hx : xs.length ≤ m) (z : Bool) :
    Ev (fun k => api_Term_61.f k l (p.length : Int) false (m : Int) z) (xs, ((p.length + (lst tbytes xs).length : Nat) : Int), false) := by
  have e1 : l = p ++ (enc xs.length ++ (flat tbytes xs ++ r)) := by rw [he, lst, List.append_assoc]
  have h1 := gn_ev l p _ xs.length hl hc e1 (by omega)
  have h2 := mt_l0 l hl hc xs.length (by omega) r xs 0 [] (p ++ enc xs.length) hg (by rw [e1, List.append_assoc]) (by omega) rfl
  rw [List.length_append, List.nil_append, Nat.add_assoc] at h2
  refine Ev.bind h1 ?_
  simp only
  have hd : decide ((xs.length : Int) > IntKind.u64.wrap (m : Int)) = false := by rw [u64_in _ (by omega) (by omega)]; exact decide_eq_false (by omega)
  rw [lst, List.length_append]
  refine Ev.congr (f := fun k => api_Term_61.j0 k (xs.length : Int) ((p.length + (enc xs.length).length : Nat) : Int) false l (p.length : Int) false) (fun k => by rw [if_neg (by decide), if_pos trivial, hd]) ?_
  refine Ev.step (f := fun k => api_Term_61.l0 k [] (xs.length : Int) 0 l ((p.length + (enc xs.length).length : Nat) : Int) false) (fun k => ?_) h2
  simp only [api_Term_61.j0]; rfl
theorem gexpr_ev (l p r : List Int) (e : List S52) (hl : ∀ x ∈ l, 0 ≤ x ∧ x < 256) (hc : l.length + 10 ≤ capN) (he : l = p ++ (ebytes e ++ r)) (h : egood e) : Ev (fun k => sheet_reader_node_1.f k l (p.length : Int) false) (e, ((p.length + (ebytes e).length : Nat) : Int), false) :=
  Ev.bind (mt_ev l hl hc p r e h.2 he 64 (by omega) h.1 true) (Ev.now _)
theorem me_l0 (l : List Int) (hl : ∀ x ∈ l, 0 ≤ x ∧ x < 256) (hc : l.length + 10 ≤ capN) (n : Nat) (hn : n ≤ 100) (r : List Int) (xs : List (List S52)) : ∀ (i : Nat) (acc : List (List S52)) (p : List Int), (∀ x ∈ xs, egood x) → l = p ++ (flat ebytes xs ++ r) → i + xs.length = n → acc.length = i →
    Ev (fun k => api_Term_59.l0 k acc (n : Int) (i : Int) l (p.length : Int) false) (acc ++ xs, ((p.length + (flat ebytes xs).length : Nat) : Int), false) := by
  induction xs with
  | nil =>
    intro i acc p _ _ hi _
    simp only [List.length_nil] at hi
    rw [List.append_nil, flat, List.length_nil, Nat.add_zero]
    refine Ev.step (fun k => ?_) (Ev.now _)
    simp only [api_Term_59.l0]
    rw [if_neg (by omega)]
  | cons x t ih =>
    intro i acc p hg he hi ha
    rw [List.length_cons] at hi
    have hx := hg x (by simp)
    have e1 : l = p ++ (ebytes x ++ (flat ebytes t ++ r)) := by rw [he, flat, List.append_assoc]
    have h1 := gexpr_ev l p _ x hl hc e1 hx
    have hlt : acc.length < 5864062014805 := by omega
    have h2 := ih (i + 1) (acc ++ [x]) (p ++ ebytes x) (fun y hy => hg y (by simp [hy])) (by rw [e1, List.append_assoc]) (by omega) (by simp [ha])
    rw [List.length_append] at h2
    have e2 : (acc ++ x :: t, ((p.length + (flat ebytes (x :: t)).length : Nat) : Int), false) = ((acc ++ [x]) ++ t, ((p.length + (ebytes x).length + (flat ebytes t).length : Nat) : Int), false) := by
      rw [flat, List.length_append, Nat.add_assoc]; simp
    rw [e2]
    refine Ev.step (f := fun k => (sheet_reader_node_1.f k l (p.length : Int) false).bind fun b => if acc.length < 5864062014805 then api_Term_59.l0 k (acc ++ [b.1]) (n : Int) ((i + 1 : Nat) : Int) l b.2.1 b.2.2 else none) (fun k => ?_) (Ev.bind h1 ?_)
    · simp only [api_Term_59.l0]
      rw [if_pos (by omega), if_neg (by decide), u64_in _ (by omega) (by omega), show ((i : Int) + 1) = ((i + 1 : Nat) : Int) by omega]
    · simp only [hlt, if_true]
      exact h2
theorem me_ev (l : List Int) (hl : ∀ x ∈ l, 0 ≤ x ∧ x < 256) (hc : l.length + 10 ≤ capN) (p r : List Int) (xs : List (List S52)) (hg : ∀ x ∈ xs, egood x) (he : l = p ++ (lst ebytes xs ++ r)) (m : Nat) (hm : m ≤ 100) (hx : xs.length ≤ m) (z : Bool) :
    Ev (fun k => api_Term_59.f k l (p.length : Int) false (m : Int) z) (xs, ((p.length + (lst ebytes xs).length : Nat) : Int), false) := by
  have e1 : l = p ++ (enc xs.length ++ (flat ebytes xs ++ r)) := by rw [he, lst, List.append_assoc]
  have h1 := gn_ev l p _ xs.length hl hc e1 (by omega)
  have h2 := me_l0 l hl hc xs.length (by omega) r xs 0 [] (p ++ enc xs.length) hg (by rw [e1, List.append_assoc]) (by omega) rfl
  rw [List.length_append, List.nil_append, Nat.add_assoc] at h2
  refine Ev.bind h1 ?_
  simp only
  have hd : decide ((xs.length : Int) > IntKind.u64.wrap (m : Int)) = false := by rw [u64_in _ (by omega) (by omega)]; exact decide_eq_false (by omega)
  rw [lst, List.length_append]
  refine Ev.congr (f := fun k => api_Term_59.j0 k (xs.length : Int) ((p.length + (enc xs.length).length : Nat) : Int) false l (p.length : Int) false) (fun k => by rw [if_neg (by decide), if_pos trivial, hd]) ?_
  refine Ev.step (f := fun k => api_Term_59.l0 k [] (xs.length : Int) 0 l ((p.length + (enc xs.length).length : Nat) : Int) false) (fun k => ?_) h2
  simp only [api_Term_59.j0]; rfl
theorem gnode_ev (l p r : List Int) (x : S44) (hl : ∀ x ∈ l, 0 ≤ x ∧ x < 256) (hc : l.length + 10 ≤ capN) (he : l = p ++ (nbytes x ++ r)) (h : ngood x) : Ev (fun k => sheet_reader_node.f k l (p.length : Int) false) (x.f0, x.f1, x.f2, x.f3, x.f4, x.f5, x.f6, x.f7, x.f8, ((p.length + (nbytes x).length : Nat) : Int), false) := by
  have e0 : l = p ++ (one x.f0 ++ (lst one x.f1 ++ (lst one x.f2 ++ (lst ebytes x.f3 ++ (lst one x.f4 ++ (one x.f5 ++ (one x.f6 ++ (one x.f7 ++ (one x.f8 ++ r))))))))) := by rw [he, nbytes]; simp
  have h0 := gi_ev l p _ x.f0 hl hc e0 h.kind
  have e1 : l = (p ++ one x.f0) ++ (lst one x.f1 ++ (lst one x.f2 ++ (lst ebytes x.f3 ++ (lst one x.f4 ++ (one x.f5 ++ (one x.f6 ++ (one x.f7 ++ (one x.f8 ++ r)))))))) := by rw [e0]; simp
  have h1 := mi_ev l hl hc _ _ x.f1 h.ins e1 8 (by omega) h.insl true
  have e2 : l = ((p ++ one x.f0) ++ lst one x.f1) ++ (lst one x.f2 ++ (lst ebytes x.f3 ++ (lst one x.f4 ++ (one x.f5 ++ (one x.f6 ++ (one x.f7 ++ (one x.f8 ++ r))))))) := by rw [e0]; simp
  have h2 := mi_ev l hl hc _ _ x.f2 h.kinds e2 16 (by omega) h.kindsl true
  have e3 : l = (((p ++ one x.f0) ++ lst one x.f1) ++ lst one x.f2) ++ (lst ebytes x.f3 ++ (lst one x.f4 ++ (one x.f5 ++ (one x.f6 ++ (one x.f7 ++ (one x.f8 ++ r)))))) := by rw [e0]; simp
  have h3 := me_ev l hl hc _ _ x.f3 h.exprs e3 16 (by omega) h.exprsl true
  have e4 : l = ((((p ++ one x.f0) ++ lst one x.f1) ++ lst one x.f2) ++ lst ebytes x.f3) ++ (lst one x.f4 ++ (one x.f5 ++ (one x.f6 ++ (one x.f7 ++ (one x.f8 ++ r))))) := by rw [e0]; simp
  have h4 := mi_ev l hl hc _ _ x.f4 h.cols e4 16 (by omega) h.colsl true
  have e5 : l = (((((p ++ one x.f0) ++ lst one x.f1) ++ lst one x.f2) ++ lst ebytes x.f3) ++ lst one x.f4) ++ (one x.f5 ++ (one x.f6 ++ (one x.f7 ++ (one x.f8 ++ r)))) := by rw [e0]; simp
  have h5 := gi_ev l _ _ x.f5 hl hc e5 h.key
  have e6 : l = ((((((p ++ one x.f0) ++ lst one x.f1) ++ lst one x.f2) ++ lst ebytes x.f3) ++ lst one x.f4) ++ one x.f5) ++ (one x.f6 ++ (one x.f7 ++ (one x.f8 ++ r))) := by rw [e0]; simp
  have h6 := gi_ev l _ _ x.f6 hl hc e6 h.n
  have e7 : l = (((((((p ++ one x.f0) ++ lst one x.f1) ++ lst one x.f2) ++ lst ebytes x.f3) ++ lst one x.f4) ++ one x.f5) ++ one x.f6) ++ (one x.f7 ++ (one x.f8 ++ r)) := by rw [e0]; simp
  have h7 := gi_ev l _ _ x.f7 hl hc e7 h.size
  have e8 : l = ((((((((p ++ one x.f0) ++ lst one x.f1) ++ lst one x.f2) ++ lst ebytes x.f3) ++ lst one x.f4) ++ one x.f5) ++ one x.f6) ++ one x.f7) ++ (one x.f8 ++ r) := by rw [e0]; simp
  have h8 := gi_ev l _ _ x.f8 hl hc e8 h.slide
  have en : p.length + (nbytes x).length = p.length + (one x.f0).length + (lst one x.f1).length + (lst one x.f2).length + (lst ebytes x.f3).length + (lst one x.f4).length + (one x.f5).length + (one x.f6).length + (one x.f7).length + (one x.f8).length := by rw [nbytes]; simp only [List.length_append]; omega
  rw [en]
  simp only [List.length_append] at h1 h2 h3 h4 h5 h6 h7 h8
  exact Ev.bind h0 (Ev.bind h1 (Ev.bind h2 (Ev.bind h3 (Ev.bind h4 (Ev.bind h5 (Ev.bind h6 (Ev.bind h7 (Ev.bind h8 (Ev.now _)))))))))
theorem mn_l0 (l : List Int) (hl : ∀ x ∈ l, 0 ≤ x ∧ x < 256) (hc : l.length + 10 ≤ capN) (n : Nat) (hn : n ≤ 100) (r : List Int) (xs : List S44) : ∀ (i : Nat) (acc : List S44) (p : List Int), (∀ x ∈ xs, ngood x) → l = p ++ (flat nbytes xs ++ r) → i + xs.length = n → acc.length = i →
    Ev (fun k => api_Node_37.l0 k acc (n : Int) (i : Int) l (p.length : Int) false) (acc ++ xs, ((p.length + (flat nbytes xs).length : Nat) : Int), false) := by
  induction xs with
  | nil =>
    intro i acc p _ _ hi _
    simp only [List.length_nil] at hi
    rw [List.append_nil, flat, List.length_nil, Nat.add_zero]
    refine Ev.step (fun k => ?_) (Ev.now _)
    simp only [api_Node_37.l0]
    rw [if_neg (by omega)]
  | cons x t ih =>
    intro i acc p hg he hi ha
    rw [List.length_cons] at hi
    have hx := hg x (by simp)
    have e1 : l = p ++ (nbytes x ++ (flat nbytes t ++ r)) := by rw [he, flat, List.append_assoc]
    have h1 := gnode_ev l p _ x hl hc e1 hx
    have hlt : acc.length < 1034834473200 := by omega
    have h2 := ih (i + 1) (acc ++ [x]) (p ++ nbytes x) (fun y hy => hg y (by simp [hy])) (by rw [e1, List.append_assoc]) (by omega) (by simp [ha])
    rw [List.length_append] at h2
    have e2 : (acc ++ x :: t, ((p.length + (flat nbytes (x :: t)).length : Nat) : Int), false) = ((acc ++ [x]) ++ t, ((p.length + (nbytes x).length + (flat nbytes t).length : Nat) : Int), false) := by
      rw [flat, List.length_append, Nat.add_assoc]; simp
    rw [e2]
    refine Ev.step (f := fun k => (sheet_reader_node.f k l (p.length : Int) false).bind fun b => if acc.length < 1034834473200 then api_Node_37.l0 k (acc ++ [(⟨b.1, b.2.1, b.2.2.1, b.2.2.2.1, b.2.2.2.2.1, b.2.2.2.2.2.1, b.2.2.2.2.2.2.1, b.2.2.2.2.2.2.2.1, b.2.2.2.2.2.2.2.2.1⟩ : S44)]) (n : Int) ((i + 1 : Nat) : Int) l b.2.2.2.2.2.2.2.2.2.1 b.2.2.2.2.2.2.2.2.2.2 else none) (fun k => ?_) (Ev.bind h1 ?_)
    · simp only [api_Node_37.l0]
      rw [if_pos (by omega), if_neg (by decide), u64_in _ (by omega) (by omega), show ((i : Int) + 1) = ((i + 1 : Nat) : Int) by omega]
    · simp only [hlt, if_true]
      exact h2
theorem mn_ev (l : List Int) (hl : ∀ x ∈ l, 0 ≤ x ∧ x < 256) (hc : l.length + 10 ≤ capN) (p r : List Int) (xs : List S44) (hg : ∀ x ∈ xs, ngood x) (he : l = p ++ (lst nbytes xs ++ r)) (m : Nat) (hm : m ≤ 100) (hx : xs.length ≤ m) (z : Bool) :
    Ev (fun k => api_Node_37.f k l (p.length : Int) false (m : Int) z) (xs, ((p.length + (lst nbytes xs).length : Nat) : Int), false) := by
  have e1 : l = p ++ (enc xs.length ++ (flat nbytes xs ++ r)) := by rw [he, lst, List.append_assoc]
  have h1 := gn_ev l p _ xs.length hl hc e1 (by omega)
  have h2 := mn_l0 l hl hc xs.length (by omega) r xs 0 [] (p ++ enc xs.length) hg (by rw [e1, List.append_assoc]) (by omega) rfl
  rw [List.length_append, List.nil_append, Nat.add_assoc] at h2
  refine Ev.bind h1 ?_
  simp only
  have hd : decide ((xs.length : Int) > IntKind.u64.wrap (m : Int)) = false := by rw [u64_in _ (by omega) (by omega)]; exact decide_eq_false (by omega)
  rw [lst, List.length_append]
  refine Ev.congr (f := fun k => api_Node_37.j0 k (xs.length : Int) ((p.length + (enc xs.length).length : Nat) : Int) false l (p.length : Int) false) (fun k => by rw [if_neg (by decide), if_pos trivial, hd]) ?_
  refine Ev.step (f := fun k => api_Node_37.l0 k [] (xs.length : Int) 0 l ((p.length + (enc xs.length).length : Nat) : Int) false) (fun k => ?_) h2
  simp only [api_Node_37.j0]; rfl
theorem tbytes_byte (t : S52) : ∀ y ∈ tbytes t, 0 ≤ y ∧ y < 256 := by
  intro y hy
  rw [tbytes, txt, List.mem_append, List.mem_append, List.mem_append] at hy
  rcases hy with hy | hy | hy | hy
  · exact one_byte _ y hy
  · exact one_byte _ y hy
  · exact enc_byte _ y hy
  · exact bytesOf_byte _ y hy
theorem nbytes_byte (x : S44) : ∀ y ∈ nbytes x, 0 ≤ y ∧ y < 256 := by
  intro y hy
  rw [nbytes] at hy
  simp only [List.mem_append] at hy
  rcases hy with hy | hy | hy | hy | hy | hy | hy | hy | hy
  · exact one_byte _ y hy
  · exact lst_byte one _ (fun a _ => one_byte a) y hy
  · exact lst_byte one _ (fun a _ => one_byte a) y hy
  · exact lst_byte ebytes _ (fun a _ => lst_byte tbytes a (fun b _ => tbytes_byte b)) y hy
  · exact lst_byte one _ (fun a _ => one_byte a) y hy
  · exact one_byte _ y hy
  · exact one_byte _ y hy
  · exact one_byte _ y hy
  · exact one_byte _ y hy
theorem pbytes_byte (ns : List S44) (o : List Int) (r : Int) : ∀ y ∈ pbytes ns o r, 0 ≤ y ∧ y < 256 := by
  intro y hy
  rw [pbytes, List.mem_cons, List.mem_append, List.mem_append] at hy
  rcases hy with rfl | hy | hy | hy
  · omega
  · exact one_byte _ y hy
  · exact lst_byte one _ (fun a _ => one_byte a) y hy
  · exact lst_byte nbytes _ (fun a _ => nbytes_byte a) y hy
theorem decode_told (ns : List S44) (o : List Int) (r : Int) (g : pgood ns o r) : Ev (fun k => sheet_Decode.f k (pbytes ns o r)) (ns, o, r, 0) := by
  have hl := pbytes_byte ns o r
  have hlen := pbytes_len ns o r g
  have hcg := cap_ge
  have hc : (pbytes ns o r).length + 10 ≤ capN := by omega
  have e0 : pbytes ns o r = [80] ++ (one r ++ (lst one o ++ lst nbytes ns)) := rfl
  have h0 := gi_ev _ [80] _ r hl hc e0 g.r
  have e1 : pbytes ns o r = ([80] ++ one r) ++ (lst one o ++ lst nbytes ns) := by rw [e0]; simp
  have h1 := mi_ev _ hl hc _ _ o g.o e1 8 (by omega) g.ol true
  have e2 : pbytes ns o r = (([80] ++ one r) ++ lst one o) ++ (lst nbytes ns ++ []) := by rw [e0]; simp
  have h2 := mn_ev _ hl hc _ _ ns g.ns e2 64 (by omega) g.nsl true
  have hn : (pbytes ns o r).length = [80].length + (one r).length + (lst one o).length + (lst nbytes ns).length := by rw [e2]; simp only [List.length_append, List.length_nil]; omega
  have h80 : rd (pbytes ns o r) 0 = 80 := rfl
  have hne : ¬ ((pbytes ns o r).length : Int) = 0 := by rw [hn, List.length_singleton]; omega
  refine Ev.congr (f := fun k => sheet_Decode.j0 k (pbytes ns o r) false) (fun k => by unfold sheet_Decode.f; rw [if_neg hne, if_pos (by omega), h80]; rfl) ?_
  refine Ev.step (f := fun k => (sheet_reader_int.f k (pbytes ns o r) 1 false).bind fun b => (sheet_many_int.f k (pbytes ns o r) b.2.1 b.2.2 8 true).bind fun c => (api_Node_37.f k (pbytes ns o r) c.2.1 c.2.2 64 true).bind fun d => if d.2.2 = true then some (([] : List S44), ([] : List Int), 0, 6) else if d.2.1 = ((pbytes ns o r).length : Int) then some (d.1, c.1, b.1, 0) else some ([], [], 0, 6)) (fun k => by simp only [sheet_Decode.j0]; rfl) ?_
  simp only [List.length_append] at h1 h2
  refine Ev.bind h0 (Ev.bind h1 (Ev.bind h2 ?_))
  refine Ev.congr (f := fun _ => some (ns, o, r, 0)) (fun k => ?_) (Ev.now _)
  rw [if_neg (show ¬ (false = true) by decide), if_pos (by rw [hn]; rfl)]
end Go.Proofs.Ytbdpnecnnokkkaa.BSheetEncodes
