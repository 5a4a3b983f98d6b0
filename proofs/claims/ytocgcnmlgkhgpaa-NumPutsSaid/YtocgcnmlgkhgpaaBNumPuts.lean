/- NumPuts: what the printed functions of the numbers' layer answer, for each input: by the plain mathematics of NumPure. -/
import Derived.Test.YtocgcnmlgkhgpaaONumPutsx2
import Derived.Test.YtocgcnmlgkhgpaaNumPure
namespace Go.Proofs.Ytocgcnmlgkhgpaa.BNumPuts
open Go.RowKit Go.Proofs.Ytocgcnmlgkhgpaa.PNumPuts Go.Proofs.Ytocgcnmlgkhgpaa.NumPure Go.Proofs.YtocgcnmlgkhgpaaW.PrintWords Go.Proofs.YtocgcnmlgkhgpaaW.PrintLast Go.Proofs.YtocgcnmlgkhgpaaW.PrintMore
set_option linter.unusedVariables false
attribute [local irreducible] IntKind.wrap Go.bits shr shl str maxLen
theorem size_l0 (d : Nat) : ∀ (k n : Nat) (c : Int), (hi n).length = d → d < k → 0 ≤ c → c + d ≤ 100 → num_Size.l0 k n c = some (c + d) := by
  induction d with
  | zero =>
    intro k n c hd hk _ _
    obtain ⟨k, rfl⟩ : ∃ m, k = m + 1 := ⟨k - 1, by omega⟩
    have h0 : n = 0 := by
      rcases Nat.eq_zero_or_pos n with h | h
      · exact h
      · rw [hi_pos h] at hd; simp at hd
    subst h0
    simp only [num_Size.l0]
    rw [if_neg (by omega)]
    simp
  | succ d ih =>
    intro k n c hd hk h0 h1
    obtain ⟨k, rfl⟩ : ∃ m, k = m + 1 := ⟨k - 1, by omega⟩
    rcases Nat.eq_zero_or_pos n with h | h
    · subst h; rw [hi_zero] at hd; simp at hd
    · rw [hi_pos h] at hd
      simp only [List.length_append, List.length_singleton] at hd
      simp only [num_Size.l0]
      rw [if_pos (by omega), show ((n : Int) / 128) = ((n / 128 : Nat) : Int) by omega]
      rw [wrap_in _ (by omega) (by omega), ih k _ _ (by omega) (by omega) (by omega) (by omega)]
      congr 1
      omega
theorem size_f {k n : Nat} (hn : n < 18446744073709551616) (hk : 12 ≤ k) : num_Size.f k n = some ((enc n).length : Int) := by
  have h := hi_ten hn
  unfold num_Size.f
  rw [show ((n : Int) / 128) = ((n / 128 : Nat) : Int) by omega, size_l0 _ k _ 1 rfl (by omega) (by omega) (by omega), enc_length]
  congr 1
  omega
theorem shr128 (n e : Nat) (he : e ≤ 9) : shr .u64 (n : Int) (7 * (e : Int)) = ((n / 128 ^ e : Nat) : Int) := by
  have h1 : (7 * (e : Int)).toNat = 7 * e := by omega
  have h2 : min (7 * e) IntKind.u64.bits = 7 * e := Nat.min_eq_left (by simp only [IntKind.bits]; omega)
  have h3 : (128 : Nat) ^ e = 2 ^ (7 * e) := by rw [Nat.pow_mul]
  have h4 : shr .u64 (n : Int) (7 * (e : Int)) = (n : Int) / 2 ^ min (7 * (e : Int)).toNat IntKind.u64.bits := by with_unfolding_all rfl
  rw [h4, h1, h2, h3, Int.natCast_ediv, Int.natCast_pow]
  rfl
theorem put_l0 (n m : Nat) (e : List Int) (hm : m ≤ 9) (h1 : ∀ j, j < m → e.drop j = (((n / 128 ^ (m - j) % 128 : Nat) : Int) + 128) :: e.drop (j + 1)) (h2 : e.drop m = [((n % 128 : Nat) : Int)])
    (h3 : e.drop (m + 1) = []) (d : Nat) : ∀ (k j : Nat) (acc : List Int), j + d = m + 1 → d < k → acc.length + d ≤ capN →
    num_put.l0 k acc n ((m + 1 : Nat) : Int) ((m + 1 : Nat) : Int) j = some (acc ++ e.drop j) := by
  induction d with
  | zero =>
    intro k j acc hj hk _
    obtain ⟨k, rfl⟩ : ∃ m, k = m + 1 := ⟨k - 1, by omega⟩
    simp only [num_put.l0]
    rw [if_neg (by omega), show j = m + 1 by omega, h3, List.append_nil]
  | succ d ih =>
    intro k j acc hj hk ha
    obtain ⟨k, rfl⟩ : ∃ m, k = m + 1 := ⟨k - 1, by omega⟩
    have hd9 : d ≤ 9 := by omega
    have hc : acc.length < 140737488355328 := cap_lt (Nat.le_trans (Nat.le_add_right _ _) ha)
    have hi0 : ∀ x : Int, (acc ++ [x]).length + d ≤ capN := fun x => by rw [List.length_append, List.length_singleton]; omega
    clear ha
    have e1 : wrap64 (((m + 1 : Nat) : Int) - 1) = (m : Int) := by rw [wrap_in _ (by omega) (by omega)]; omega
    have e2 : wrap64 ((m : Int) - (j : Int)) = (d : Int) := by rw [wrap_in _ (by omega) (by omega)]; omega
    have e3 : wrap64 (7 * (d : Int)) = 7 * (d : Int) := wrap_in _ (by omega) (by omega)
    have e4 : wrap64 ((j : Int) + 1) = ((j + 1 : Nat) : Int) := by rw [wrap_in _ (by omega) (by omega)]; omega
    have e5 : bits .and .u8 (((n / 128 ^ d : Nat) : Int) % 256) 127 = ((n / 128 ^ d % 128 : Nat) : Int) := by
      generalize n / 128 ^ d = q
      rw [u8_and127 _ (by omega) (by omega)]; omega
    have e6 : bits .or .u8 ((n / 128 ^ d % 128 : Nat) : Int) 128 = ((n / 128 ^ d % 128 : Nat) : Int) + 128 := by
      generalize n / 128 ^ d = q
      rw [u8_or_128 _ (by omega) (by omega)]
    have hlt : (j : Int) < ((m + 1 : Nat) : Int) := by omega
    simp only [num_put.l0]
    rw [if_pos hlt, e1, e2, e3, if_pos (by omega), shr128 n d hd9, e4, e5, e6, if_pos hc, if_pos hc]
    by_cases hd : d = 0
    · subst hd
      obtain rfl : j = m := by omega
      rw [if_neg (Int.lt_irrefl _), ih k (j + 1) _ (by omega) (by omega) (hi0 _), List.append_assoc, h3, h2]
      simp
    · have hjm : j < m := by omega
      rw [if_pos (by omega), ih k (j + 1) _ (by omega) (by omega) (hi0 _), List.append_assoc, h1 j hjm, show m - j = d by omega]
      rfl
theorem put_f {k n : Nat} (l : List Int) (hn : n < 18446744073709551616) (hk : 12 ≤ k) (hl : l.length + 10 ≤ capN) : num_put.f k l n = some (l ++ enc n) := by
  have h10 := hi_ten hn
  unfold num_put.f
  rw [size_f hn hk, enc_length]
  simp only [Option.bind_some]
  have h := put_l0 n (hi (n / 128)).length (enc n) h10 (fun j hj => enc_drop hj) (enc_last n) (List.drop_of_length_le (by rw [enc_length]; exact Nat.le_refl _)) _ k 0 l (Nat.zero_add _) (by omega) (by omega)
  exact h
theorem fresh_f (l : List Int) (hl : l.length + 10 ≤ capN) : num_fresh.f l = some l := by
  unfold num_fresh.f
  simp only [Option.bind_some]
  rw [if_pos (cap_lt (by simp; omega))]
  rfl
theorem Put_f {k n : Nat} (l : List Int) (hn : n < 18446744073709551616) (hk : 12 ≤ k) (hl : l.length + 10 ≤ capN) : num_Put.f k l n = some (l ++ enc n) := by
  unfold num_Put.f
  rw [fresh_f l hl]
  simp only [Option.bind_some]
  rw [put_f l hn hk hl]
  rfl
theorem Bytes_l0 (n : Nat) : ∀ (k : Nat) (acc : List Int), (hi n).length < k → n < 18446744073709551616 → acc.length + (hi n).length ≤ capN → runnelref01_Bytes.l0 k n acc = some (hi n ++ acc) := by
  induction n using Nat.strongRecOn with
  | ind n ih =>
    intro k acc hk hn ha
    obtain ⟨k, rfl⟩ : ∃ m, k = m + 1 := ⟨k - 1, by omega⟩
    simp only [runnelref01_Bytes.l0]
    rcases Nat.eq_zero_or_pos n with h | h
    · subst h
      rw [if_neg (by omega), hi_zero]
      rfl
    · rw [if_pos (by omega)]
      simp only [Option.bind_some]
      rw [hi_pos h] at hk ha
      simp only [List.length_append, List.length_singleton] at hk ha
      rw [if_pos (cap_lt (by simp; omega))]
      have e1 : IntKind.u64.wrap (Int.tmod (n : Int) 128 + 128) = ((n % 128 : Nat) : Int) + 128 := by
        rw [Int.tmod_eq_emod_of_nonneg (by omega), u64_in _ (by omega) (by omega)]; omega
      have e2 : IntKind.u64.wrap (Int.tdiv (n : Int) 128) = ((n / 128 : Nat) : Int) := by
        rw [Int.tdiv_eq_ediv_of_nonneg (by omega), u64_in _ (by omega) (by omega)]; omega
      rw [e1, e2, ih (n / 128) (by omega) k _ (by omega) (by omega) (by simp; omega)]
      rw [hi_pos h, show (((n % 128 : Nat) : Int) + 128) % 256 = ((n % 128 : Nat) : Int) + 128 by omega]
      simp
theorem Bytes_f {k n : Nat} (hn : n < 18446744073709551616) (hk : 12 ≤ k) : runnelref01_Bytes.f k n = some (enc n) := by
  have h := hi_ten hn
  have hc := cap_ge
  unfold runnelref01_Bytes.f
  have e1 : Int.tmod (n : Int) 128 % 256 = ((n % 128 : Nat) : Int) := by rw [Int.tmod_eq_emod_of_nonneg (by omega)]; omega
  have e2 : IntKind.u64.wrap (Int.tdiv (n : Int) 128) = ((n / 128 : Nat) : Int) := by rw [Int.tdiv_eq_ediv_of_nonneg (by omega), u64_in _ (by omega) (by omega)]; omega
  rw [e1, e2, Bytes_l0 _ k _ (by omega) (by omega) (by simp; omega), enc]
theorem live_40 : runnellaw01_live.f 40 = some true := by decide +kernel
theorem live_f {k : Nat} (hk : 40 ≤ k) : runnellaw01_live.f k = some true := at_rounds runnellaw01_live.mono hk live_40
end Go.Proofs.Ytocgcnmlgkhgpaa.BNumPuts
