/- WireDecodes: what the printed functions answer, for each input, by plain mathematics. -/
import Derived.Test.YtpplklickfioiaaOWireDecodesx
import Derived.Test.YtpplklickfioiaaRowPure
import Derived.Test.YtpplklickfioiaaNumPure
namespace Go.Proofs.Ytpplklickfioiaa.BWireDecodes
open Go.RowKit Go.Proofs.Ytpplklickfioiaa.PWireDecodes Go.Proofs.Ytpplklickfioiaa.RowPure Go.Proofs.Ytpplklickfioiaa.NumPure Go.Proofs.YtpplklickfioiaaW.PrintWords Go.Proofs.YtpplklickfioiaaW.PrintLast Go.Proofs.YtpplklickfioiaaW.PrintMore
set_option linter.unusedVariables false
set_option linter.unusedSimpArgs false
attribute [local irreducible] IntKind.wrap Go.bits shr shl maxLen str
theorem size_l0 (d : Nat) : ∀ (k n : Nat) (c : Int), (hi n).length = d → d < k → 0 ≤ c → c + d ≤ 100 → num_Size.l0 k n c = some (c + d) := by
  induction d with
  | zero =>
    intro k n c hd hk _ _
    obtain ⟨k, rfl⟩ : ∃ m, k = m + 1 := ⟨k - 1, by omega⟩
    have h0 : n = 0 := by
      rcases Nat.eq_zero_or_pos n with h | h
      · exact h
      · rw [hi_pos h] at hd; simp at hd
    subst h0
    simp only [num_Size.l0]
    rw [if_neg (by omega)]
    simp
  | succ d ih =>
    intro k n c hd hk h0 h1
    obtain ⟨k, rfl⟩ : ∃ m, k = m + 1 := ⟨k - 1, by omega⟩
    rcases Nat.eq_zero_or_pos n with h | h
    · subst h; rw [hi_zero] at hd; simp at hd
    · rw [hi_pos h] at hd
      simp only [List.length_append, List.length_singleton] at hd
      simp only [num_Size.l0]
      rw [if_pos (by omega), show ((n : Int) / 128) = ((n / 128 : Nat) : Int) by omega]
      rw [wrap_in _ (by omega) (by omega), ih k _ _ (by omega) (by omega) (by omega) (by omega)]
      congr 1
      omega
theorem size_f {k n : Nat} (hn : n < 18446744073709551616) (hk : 12 ≤ k) : num_Size.f k n = some ((enc n).length : Int) := by
  have h := hi_ten hn
  unfold num_Size.f
  rw [show ((n : Int) / 128) = ((n / 128 : Nat) : Int) by omega, size_l0 _ k _ 1 rfl (by omega) (by omega) (by omega), enc_length]
  congr 1
  omega
theorem shr128 (n e : Nat) (he : e ≤ 9) : shr .u64 (n : Int) (7 * (e : Int)) = ((n / 128 ^ e : Nat) : Int) := by
  have h1 : (7 * (e : Int)).toNat = 7 * e := by omega
  have h2 : min (7 * e) IntKind.u64.bits = 7 * e := Nat.min_eq_left (by simp only [IntKind.bits]; omega)
  have h3 : (128 : Nat) ^ e = 2 ^ (7 * e) := by rw [Nat.pow_mul]
  have h4 : shr .u64 (n : Int) (7 * (e : Int)) = (n : Int) / 2 ^ min (7 * (e : Int)).toNat IntKind.u64.bits := by with_unfolding_all rfl
  rw [h4, h1, h2, h3, Int.natCast_ediv, Int.natCast_pow]
  rfl
theorem put_l0 (n m : Nat) (e : List Int) (hm : m ≤ 9) (h1 : ∀ j, j < m → e.drop j = (((n / 128 ^ (m - j) % 128 : Nat) : Int) + 128) :: e.drop (j + 1)) (h2 : e.drop m = [((n % 128 : Nat) : Int)])
    (h3 : e.drop (m + 1) = []) (d : Nat) : ∀ (k j : Nat) (acc : List Int), j + d = m + 1 → d < k → acc.length + d ≤ capN →
    num_put.l0 k acc n ((m + 1 : Nat) : Int) ((m + 1 : Nat) : Int) j = some (acc ++ e.drop j) := by
  induction d with
  | zero =>
    intro k j acc hj hk _
    obtain ⟨k, rfl⟩ : ∃ m, k = m + 1 := ⟨k - 1, by omega⟩
    simp only [num_put.l0]
    rw [if_neg (by omega), show j = m + 1 by omega, h3, List.append_nil]
  | succ d ih =>
    intro k j acc hj hk ha
    obtain ⟨k, rfl⟩ : ∃ m, k = m + 1 := ⟨k - 1, by omega⟩
    have hd9 : d ≤ 9 := by omega
    have hc : acc.length < 140737488355328 := cap_lt (Nat.le_trans (Nat.le_add_right _ _) ha)
    have hi0 : ∀ x : Int, (acc ++ [x]).length + d ≤ capN := fun x => by rw [List.length_append, List.length_singleton]; omega
    clear ha
    have e1 : wrap64 (((m + 1 : Nat) : Int) - 1) = (m : Int) := by rw [wrap_in _ (by omega) (by omega)]; omega
    have e2 : wrap64 ((m : Int) - (j : Int)) = (d : Int) := by rw [wrap_in _ (by omega) (by omega)]; omega
    have e3 : wrap64 (7 * (d : Int)) = 7 * (d : Int) := wrap_in _ (by omega) (by omega)
    have e4 : wrap64 ((j : Int) + 1) = ((j + 1 : Nat) : Int) := by rw [wrap_in _ (by omega) (by omega)]; omega
    have e5 : bits .and .u8 (((n / 128 ^ d : Nat) : Int) % 256) 127 = ((n / 128 ^ d % 128 : Nat) : Int) := by
      generalize n / 128 ^ d = q
      rw [u8_and127 _ (by omega) (by omega)]; omega
    have e6 : bits .or .u8 ((n / 128 ^ d % 128 : Nat) : Int) 128 = ((n / 128 ^ d % 128 : Nat) : Int) + 128 := by
      generalize n / 128 ^ d = q
      rw [u8_or_128 _ (by omega) (by omega)]
    have hlt : (j : Int) < ((m + 1 : Nat) : Int) := by omega
    simp only [num_put.l0]
    rw [if_pos hlt, e1, e2, e3, if_pos (by omega), shr128 n d hd9, e4, e5, e6, if_pos hc, if_pos hc]
    by_cases hd : d = 0
    · subst hd
      obtain rfl : j = m := by omega
      rw [if_neg (Int.lt_irrefl _), ih k (j + 1) _ (by omega) (by omega) (hi0 _), List.append_assoc, h3, h2]
      simp
    · have hjm : j < m := by omega
      rw [if_pos (by omega), ih k (j + 1) _ (by omega) (by omega) (hi0 _), List.append_assoc, h1 j hjm, show m - j = d by omega]
      rfl
theorem put_f {k n : Nat} (l : List Int) (hn : n < 18446744073709551616) (hk : 12 ≤ k) (hl : l.length + 10 ≤ capN) : num_put.f k l n = some (l ++ enc n) := by
  have h10 := hi_ten hn
  unfold num_put.f
  rw [size_f hn hk, enc_length]
  simp only [Option.bind_some]
  have h := put_l0 n (hi (n / 128)).length (enc n) h10 (fun j hj => enc_drop hj) (enc_last n) (List.drop_of_length_le (by rw [enc_length]; exact Nat.le_refl _)) _ k 0 l (Nat.zero_add _) (by omega) (by omega)
  exact h
theorem fresh_f (l : List Int) (hl : l.length + 10 ≤ capN) : num_fresh.f l = some l := by
  unfold num_fresh.f
  simp only [Option.bind_some]
  rw [if_pos (cap_lt (by simp; omega))]
  rfl
theorem Put_f {k n : Nat} (l : List Int) (hn : n < 18446744073709551616) (hk : 12 ≤ k) (hl : l.length + 10 ≤ capN) : num_Put.f k l n = some (l ++ enc n) := by
  unfold num_Put.f
  rw [fresh_f l hl]
  simp only [Option.bind_some]
  rw [put_f l hn hk hl]
  rfl
theorem Bytes_l0 (n : Nat) : ∀ (k : Nat) (acc : List Int), (hi n).length < k → n < 18446744073709551616 → acc.length + (hi n).length ≤ capN → runnelref01_Bytes.l0 k n acc = some (hi n ++ acc) := by
  induction n using Nat.strongRecOn with
  | ind n ih =>
    intro k acc hk hn ha
    obtain ⟨k, rfl⟩ : ∃ m, k = m + 1 := ⟨k - 1, by omega⟩
    simp only [runnelref01_Bytes.l0]
    rcases Nat.eq_zero_or_pos n with h | h
    · subst h
      rw [if_neg (by omega), hi_zero]
      rfl
    · rw [if_pos (by omega)]
      simp only [Option.bind_some]
      rw [hi_pos h] at hk ha
      simp only [List.length_append, List.length_singleton] at hk ha
      rw [if_pos (cap_lt (by simp; omega))]
      have e1 : IntKind.u64.wrap (Int.tmod (n : Int) 128 + 128) = ((n % 128 : Nat) : Int) + 128 := by
        rw [Int.tmod_eq_emod_of_nonneg (by omega), u64_in _ (by omega) (by omega)]; omega
      have e2 : IntKind.u64.wrap (Int.tdiv (n : Int) 128) = ((n / 128 : Nat) : Int) := by
        rw [Int.tdiv_eq_ediv_of_nonneg (by omega), u64_in _ (by omega) (by omega)]; omega
      rw [e1, e2, ih (n / 128) (by omega) k _ (by omega) (by omega) (by simp; omega)]
      rw [hi_pos h, show (((n % 128 : Nat) : Int) + 128) % 256 = ((n % 128 : Nat) : Int) + 128 by omega]
      simp
theorem Bytes_f {k n : Nat} (hn : n < 18446744073709551616) (hk : 12 ≤ k) : runnelref01_Bytes.f k n = some (enc n) := by
  have h := hi_ten hn
  have hc := cap_ge
  unfold runnelref01_Bytes.f
  have e1 : Int.tmod (n : Int) 128 % 256 = ((n % 128 : Nat) : Int) := by rw [Int.tmod_eq_emod_of_nonneg (by omega)]; omega
  have e2 : IntKind.u64.wrap (Int.tdiv (n : Int) 128) = ((n / 128 : Nat) : Int) := by rw [Int.tdiv_eq_ediv_of_nonneg (by omega), u64_in _ (by omega) (by omega)]; omega
  rw [e1, e2, Bytes_l0 _ k _ (by omega) (by omega) (by simp; omega), enc]
theorem Get_l0 (l : List Int) (hl : ∀ x ∈ l, 0 ≤ x ∧ x < 256) (at0 : Int) (d : Nat) : ∀ (k i : Nat) (n : Int), 2 * d < k → (l.length : Int) < i + d → i ≤ l.length → l.length + 10 ≤ capN → 0 ≤ n → n < 18446744073709551616 →
    num_Get.l0 k l at0 n i = some (Get l i n at0 d) := by
  induction d with
  | zero => intro k i n hk hd hi _ _ _; omega
  | succ d ih =>
    intro k i n hk hd hi hc hn0 hn1
    obtain ⟨k, rfl⟩ : ∃ m, k = m + 1 := ⟨k - 1, by omega⟩
    obtain ⟨k, rfl⟩ : ∃ m, k = m + 1 := ⟨k - 1, by omega⟩
    simp only [num_Get.l0, num_Get.j2, Get]
    by_cases h : (i : Int) < (l.length : Int)
    · rw [if_pos h, if_pos h]
      have h0 : (0 : Int) ≤ (i : Int) := by omega
      have hb := hl (l.getD i 0) (by rw [List.getD_eq_getElem?_getD, List.getElem?_eq_getElem (by omega)]; exact List.getElem_mem _)
      have hcap : (i : Int) + 1 ≤ 9223372036854775807 := by have := cap_lt (Nat.le_trans (Nat.le_add_right _ _) hc); omega
      have e0 : rd l (i : Int) = l.getD i 0 := rfl
      have e1 : (l.getD (i : Int).toNat 0) = l.getD i 0 := rfl
      have e2 : wrap64 ((i : Int) + 1) = ((i + 1 : Nat) : Int) := by rw [wrap_in _ (by omega) (by omega)]; omega
      have e3 : ((i : Int) + 1) = ((i + 1 : Nat) : Int) := by omega
      rw [e0, e1, if_pos h0, if_pos h0, if_pos h]
      generalize l.getD i 0 = b at hb ⊢
      have e4 : bits .and .u8 b 127 = b % 128 := u8_and127 b hb.1 hb.2
      by_cases g : 144115188075855872 ≤ n
      · have g1 : decide (n / 144115188075855872 > 0) = true := decide_eq_true (by omega)
        rw [g1, if_pos (Or.inr g)]
        simp only [if_true]
        split
        · split <;> rfl
        · rfl
      · have g1 : decide (n / 144115188075855872 > 0) = false := decide_eq_false (by omega)
        rw [g1]
        simp only [if_true, Bool.false_eq_true, if_false]
        have e5 : bits .or .u64 (IntKind.u64.wrap (n * 128)) (IntKind.u64.wrap (b % 128)) = n * 128 + b % 128 := u64_or_low n (b % 128) hn0 (by omega) (by omega) (by omega)
        rw [e4, e5, e2, e3]
        have rest : (if b < 128 then some (n * 128 + b % 128, ((i + 1 : Nat) : Int), (0 : Int)) else num_Get.l0 k l at0 (n * 128 + b % 128) ((i + 1 : Nat) : Int)) =
            some (if b < 128 then (n * 128 + b % 128, ((i + 1 : Nat) : Int), (0 : Int)) else Get l ((i + 1 : Nat) : Int) (n * 128 + b % 128) at0 d) := by
          by_cases hb1 : b < 128
          · rw [if_pos hb1, if_pos hb1]
          · rw [if_neg hb1, if_neg hb1, ih k (i + 1) _ (by omega) (by omega) (by omega) hc (by omega) (by omega)]
        by_cases ha : (i : Int) = at0
        · rw [if_pos ha]
          by_cases hb2 : b = 128
          · rw [if_pos hb2, if_pos (Or.inl ⟨ha, hb2⟩)]
          · rw [if_neg hb2, if_neg (show ¬ (((i : Int) = at0 ∧ b = 128) ∨ 144115188075855872 ≤ n) from fun o => o.elim (fun o => hb2 o.2) g)]
            exact rest
        · rw [if_neg ha, if_neg (show ¬ (((i : Int) = at0 ∧ b = 128) ∨ 144115188075855872 ≤ n) from fun o => o.elim (fun o => ha o.1) g)]
          exact rest
    · rw [if_neg h, if_neg h]
theorem get_f {k : Nat} (l : List Int) (hl : ∀ x ∈ l, 0 ≤ x ∧ x < 256) (at0 : Int) (hk : 2 * l.length + 8 ≤ k) (hc : l.length + 10 ≤ capN) : num_Get.f k l at0 = some (NumPure.get l at0) := by
  obtain ⟨k, rfl⟩ : ∃ m, k = m + 1 := ⟨k - 1, by omega⟩
  unfold num_Get.f NumPure.get
  simp only [num_Get.j0]
  by_cases h0 : at0 < 0
  · rw [if_pos h0, if_pos (Or.inl h0)]
    rfl
  · rw [if_neg h0]
    by_cases h1 : (l.length : Int) < at0
    · rw [decide_eq_true (show at0 > (l.length : Int) from h1), if_pos (Or.inr h1)]
      rfl
    · rw [decide_eq_false (show ¬ at0 > (l.length : Int) from h1), if_neg (show ¬ (false = true) by decide), if_neg (show ¬ (at0 < 0 ∨ (l.length : Int) < at0) from fun o => o.elim h0 h1)]
      obtain ⟨a, rfl⟩ := Int.eq_ofNat_of_zero_le (by omega : 0 ≤ at0)
      exact Get_l0 l hl _ _ k a 0 (by omega) (by omega) (by omega) hc (by omega) (by omega)
theorem take_mid (p f r : List Int) (n m : Int) (hn : n.toNat = p.length + f.length) (hm : m.toNat = p.length) : (((p ++ (f ++ r)).take n.toNat).drop m.toNat) = f := by
  rw [hn, hm, ← List.append_assoc, show p.length + f.length = (p ++ f).length by simp, List.take_left, List.drop_left]
theorem len3 (p f r : List Int) : ((p ++ (f ++ r)).length : Int) = p.length + (f.length + r.length) := by simp
theorem same_f (p f r e : List Int) (hcap : (p ++ (f ++ r)).length + 10 ≤ capN) (hlen : e.length = f.length) (hf : ∀ x ∈ f, 0 ≤ x ∧ x < 256) (he : ∀ x ∈ e, 0 ≤ x ∧ x < 256) :
    runnelref01_same.f (p ++ (f ++ r)) (p.length : Int) e = some (decide (f = e)) := by
  have hc := cap_lt (Nat.le_trans (Nat.le_add_right _ _) hcap)
  have hl := len3 p f r
  have e1 : wrap64 (((p ++ (f ++ r)).length : Int) - (p.length : Int)) = ((p ++ (f ++ r)).length : Int) - (p.length : Int) := wrap_in _ (by omega) (by omega)
  have e2 : wrap64 ((p.length : Int) + (e.length : Int)) = (p.length : Int) + (e.length : Int) := wrap_in _ (by omega) (by omega)
  unfold runnelref01_same.f
  rw [e1, e2, if_pos (by omega), if_pos (by omega), if_pos (by omega), if_pos (by omega)]
  rw [take_mid p f r _ _ (by omega) (by omega), str_of, str_of]
  by_cases h : f = e
  · subst h; simp
  · rw [decide_eq_false h]
    congr 1
    rw [beq_eq_false_iff_ne]
    exact fun h' => h (str_inj hf he h')
theorem ar_mid {P F R L : Nat} (h : (L : Int) = P + (F + (R + 1))) (hL : L < 140737488355328) : ((P + F : Nat) : Int) < (L : Int) ∧ (0 : Int) ≤ ((P + F : Nat) : Int) ∧
    wrap64 (((P + F : Nat) : Int) + 1) = ((P + F : Nat) : Int) + 1 ∧ wrap64 (((P + F : Nat) : Int) + 1 - (P : Int)) = (F : Int) + 1 ∧ wrap64 (((P + F : Nat) : Int) + 1) = ((P + (F + 1) : Nat) : Int) := by
  refine ⟨by omega, by omega, wrap_in _ (by omega) (by omega), ?_, ?_⟩
  · rw [wrap_in _ (by omega) (by omega)]; omega
  · rw [wrap_in _ (by omega) (by omega)]; omega
theorem ar_same {P L E : Nat} (hP : P ≤ L) (hL : L < 140737488355328) (hE : E ≤ 10) : wrap64 ((L : Int) - (P : Int)) = (L : Int) - (P : Int) ∧ wrap64 ((P : Int) + (E : Int)) = (P : Int) + (E : Int) ∧
    ((E : Int) ≤ (L : Int) - (P : Int) → (0 : Int) ≤ (P : Int) ∧ (P : Int) ≤ (P : Int) + (E : Int) ∧ (P : Int) + (E : Int) ≤ (L : Int)) :=
  ⟨wrap_in _ (by omega) (by omega), wrap_in _ (by omega) (by omega), fun h => ⟨by omega, by omega, by omega⟩⟩
theorem same_some (l e : List Int) (P : Nat) (hP : P ≤ l.length) (hcap : l.length < 140737488355328) (he : e.length ≤ 10) : ∃ c, runnelref01_same.f l (P : Int) e = some c := by
  obtain ⟨e1, e2, h3⟩ := ar_same hP hcap he
  unfold runnelref01_same.f
  rw [e1, e2]
  by_cases hle : (e.length : Int) ≤ (l.length : Int) - (P : Int)
  · obtain ⟨a1, a2, a3⟩ := h3 hle
    rw [if_pos hle, if_pos a1, if_pos a2, if_pos a3]
    exact ⟨_, rfl⟩
  · rw [if_neg hle]
    exact ⟨_, rfl⟩
theorem cast_succ {a b : Nat} (h : a = b + 1) : (a : Int) = (b : Int) + 1 := by omega
theorem cast_ne {a b : Nat} (h : ¬ a = b + 1) : ¬ (a : Int) = (b : Int) + 1 := by omega
theorem rd_mid (p f r : List Int) (b : Int) : rd (p ++ (f ++ b :: r)) ((p.length + f.length : Nat) : Int) = b := by
  show (p ++ (f ++ b :: r)).getD (p.length + f.length) 0 = b
  rw [List.getD_eq_getElem?_getD, List.getElem?_append_right (by omega), List.getElem?_append_right (by omega)]
  simp
/-- What the reference answers at its last byte, whatever came ahead. -/
theorem Ref_last (p f r : List Int) (b : Int) (n m : Int) (k : Nat) (hk : 14 ≤ k) (hcap : (p ++ (f ++ b :: r)).length + 10 ≤ capN) (hf : ∀ x ∈ f, 0 ≤ x ∧ x < 256) (hb0 : 0 ≤ b) (hb : b < 128) (hlt : ((p.length + f.length : Nat) : Int) < wrap64 ((p.length : Int) + 10))
    (hm : m = IntKind.u64.wrap (IntKind.u64.wrap (n * 128) + IntKind.u64.wrap (Int.tmod b 128))) :
    runnelref01_Get.l0 k (p ++ (f ++ b :: r)) (p.length : Int) n ((p.length + f.length : Nat) : Int) = some (if f ++ [b] = enc m.toNat then (m, ((p.length + f.length : Nat) : Int) + 1, 0) else (0, 0, 6)) := by
  obtain ⟨k, rfl⟩ : ∃ m, k = m + 1 := ⟨k - 1, by omega⟩
  obtain ⟨k, rfl⟩ : ∃ m, k = m + 1 := ⟨k - 1, by omega⟩
  have hl : ((p ++ (f ++ b :: r)).length : Int) = p.length + (f.length + (r.length + 1)) := by simp
  have hc : (p ++ (f ++ b :: r)).length < 140737488355328 := cap_lt (Nat.le_trans (Nat.le_add_right _ _) hcap)
  have hP : p.length ≤ (p ++ (f ++ b :: r)).length := by simp
  obtain ⟨a1, a2, e1, e2, _⟩ := ar_mid hl hc
  have hmr := u64_range (IntKind.u64.wrap (n * 128) + IntKind.u64.wrap (Int.tmod b 128))
  rw [← hm] at hmr
  obtain ⟨mm, rfl⟩ := Int.eq_ofNat_of_zero_le hmr.1
  have hmm : mm < 18446744073709551616 := by have := hmr.2; clear hl hc hcap hP hmr a1 a2 e1 e2 hlt hm; omega
  have h10 := enc_ten hmm
  simp only [runnelref01_Get.l0, runnelref01_Get.j2]
  rw [if_pos a1, decide_eq_true hlt, if_pos rfl, if_pos a2, if_pos a1, rd_mid, if_neg (show ¬ b ≥ 128 from Int.not_le.2 hb), ← hm, Bytes_f hmm (Nat.le_trans (by decide : 12 ≤ 12) (Nat.le_of_succ_le_succ (Nat.le_of_succ_le_succ hk)))]
  simp only [Option.bind_some, Int.toNat_natCast]
  rw [e1, e2]
  by_cases hlen : (enc mm).length = f.length + 1
  · have h1 := same_f p (f ++ [b]) r (enc mm) (by simpa using hcap) (by simpa using hlen) (fun x hx => by
      rcases List.mem_append.1 hx with hx | hx
      · exact hf x hx
      · rw [List.mem_singleton] at hx; rw [hx]; exact ⟨hb0, Int.lt_trans hb (by decide)⟩) (enc_byte mm)
    rw [List.append_assoc] at h1
    rw [show f ++ b :: r = f ++ ([b] ++ r) from rfl, h1]
    simp only [Option.bind_some]
    by_cases h : f ++ [b] = enc mm
    · rw [decide_eq_true h, if_pos rfl, if_pos (cast_succ hlen), if_pos h]
    · rw [decide_eq_false h, if_neg (show ¬ (false = true) by decide), if_neg h]
  · rw [if_neg (show ¬ f ++ [b] = enc mm from fun h => hlen (by rw [← h]; simp))]
    obtain ⟨c, hc2⟩ := same_some (p ++ (f ++ b :: r)) (enc mm) p.length hP hc h10
    rw [hc2]
    simp only [Option.bind_some]
    cases c with
    | true => rw [if_pos rfl, if_neg (cast_ne hlen)]
    | false => rw [if_neg (show ¬ (false = true) by decide)]
theorem Ref_step (p f r : List Int) (b : Int) (n : Int) (k : Nat) (hcap : (p ++ (f ++ b :: r)).length + 10 ≤ capN) (hb : 128 ≤ b) (hlt : ((p.length + f.length : Nat) : Int) < wrap64 ((p.length : Int) + 10)) :
    runnelref01_Get.l0 (k + 1 + 1) (p ++ (f ++ b :: r)) (p.length : Int) n ((p.length + f.length : Nat) : Int) = runnelref01_Get.l0 k (p ++ ((f ++ [b]) ++ r)) (p.length : Int) (IntKind.u64.wrap (IntKind.u64.wrap (n * 128) + IntKind.u64.wrap (Int.tmod b 128))) ((p.length + (f ++ [b]).length : Nat) : Int) := by
  have hc := cap_lt (Nat.le_trans (Nat.le_add_right _ _) hcap)
  have hl := len3 p f (b :: r)
  simp only [List.length_cons] at hl
  conv => lhs; simp only [runnelref01_Get.l0, runnelref01_Get.j2]
  have hrd : rd (p ++ (f ++ b :: r)) ((p.length + f.length : Nat) : Int) = b := by
    show (p ++ (f ++ b :: r)).getD (p.length + f.length) 0 = b
    rw [List.getD_eq_getElem?_getD, List.getElem?_append_right (by omega), List.getElem?_append_right (by omega)]
    simp
  have e1 : wrap64 (((p.length + f.length : Nat) : Int) + 1) = ((p.length + (f ++ [b]).length : Nat) : Int) := by rw [wrap_in _ (by omega) (by omega)]; simp; omega
  rw [if_pos (by omega), decide_eq_true hlt, if_pos rfl, if_pos (by omega), if_pos (by omega), hrd, if_pos (show b ≥ 128 from hb), e1, List.append_assoc]
  rfl
theorem Ref_end (p f r : List Int) (n : Int) (k : Nat) (hcap : (p ++ (f ++ r)).length + 10 ≤ capN) (hlt : r = [] ∨ ¬ ((p.length + f.length : Nat) : Int) < wrap64 ((p.length : Int) + 10)) :
    runnelref01_Get.l0 (k + 1 + 1) (p ++ (f ++ r)) (p.length : Int) n ((p.length + f.length : Nat) : Int) = some (0, 0, 6) := by
  simp only [runnelref01_Get.l0, runnelref01_Get.j2]
  by_cases h : ((p.length + f.length : Nat) : Int) < ((p ++ (f ++ r)).length : Int)
  · rw [if_pos h]
    rcases hlt with hr | hr
    · subst hr
      exact absurd h (by simp)
    · rw [decide_eq_false hr, if_neg (show ¬ (false = true) by decide)]
  · rw [if_neg h, if_neg (show ¬ (false = true) by decide)]
/-- Whatever the reference reads: a fault, or a number's own bytes. -/
theorem Ref_any (p r : List Int) : ∀ (f : List Int) (n : Int) (k : Nat), 2 * r.length + 14 ≤ k → (p ++ (f ++ r)).length + 10 ≤ capN → (∀ x ∈ f, 0 ≤ x ∧ x < 256) → (∀ x ∈ r, 0 ≤ x ∧ x < 256) →
    runnelref01_Get.l0 k (p ++ (f ++ r)) (p.length : Int) n ((p.length + f.length : Nat) : Int) = some (0, 0, 6) ∨
    ∃ (m : Nat) (t : List Int), m < 18446744073709551616 ∧ enc m = f ++ t ∧ t ≠ [] := by
  induction r with
  | nil =>
    intro f n k hk hcap hf _
    obtain ⟨k, rfl⟩ : ∃ m, k = m + 1 + 1 := ⟨k - 2, by omega⟩
    exact .inl (Ref_end p f [] n k hcap (.inl rfl))
  | cons b r ih =>
    intro f n k hk hcap hf hr
    obtain ⟨k, rfl⟩ : ∃ m, k = m + 1 + 1 := ⟨k - 2, by omega⟩
    have hb := hr b (by simp)
    by_cases hlt : ((p.length + f.length : Nat) : Int) < wrap64 ((p.length : Int) + 10)
    · by_cases h : b < 128
      · have h1 := Ref_last p f r b n _ (k + 1 + 1) (by omega) hcap hf hb.1 h hlt rfl
        rw [h1]
        have hm := u64_range (IntKind.u64.wrap (n * 128) + IntKind.u64.wrap (Int.tmod b 128))
        generalize IntKind.u64.wrap (IntKind.u64.wrap (n * 128) + IntKind.u64.wrap (Int.tmod b 128)) = m at hm
        by_cases he : f ++ [b] = enc m.toNat
        · exact .inr ⟨m.toNat, [b], by omega, he.symm, by simp⟩
        · rw [if_neg he]
          exact .inl rfl
      · rw [Ref_step p f r b n k hcap (by omega) hlt]
        have h1 := ih (f ++ [b]) (IntKind.u64.wrap (IntKind.u64.wrap (n * 128) + IntKind.u64.wrap (Int.tmod b 128))) k (by simp at hk; omega) (by simpa using hcap) (fun x hx => by
          rcases List.mem_append.1 hx with hx | hx
          · exact hf x hx
          · rw [List.mem_singleton] at hx; omega) (fun x hx => hr x (by simp [hx]))
        rcases h1 with h1 | ⟨m, t, hm, he, ht⟩
        · exact .inl h1
        · exact .inr ⟨m, b :: t, hm, by rw [he]; simp, by simp⟩
    · exact .inl (Ref_end p f (b :: r) n k hcap (.inr hlt))
/-- Whatever the reference reads behind groups that tell what they should: as the document says. -/
theorem Ref_l0 (p r : List Int) : ∀ (f : List Int) (k d : Nat), 2 * r.length + 14 ≤ k → r.length < d → (p ++ (f ++ r)).length + 10 ≤ capN → (∀ x ∈ f, 128 ≤ x ∧ x < 256) → (∀ x t, f = x :: t → x ≠ 128) → (∀ x ∈ r, 0 ≤ x ∧ x < 256) → valF 0 f < 18446744073709551616 →
    runnelref01_Get.l0 k (p ++ (f ++ r)) (p.length : Int) (valF 0 f) ((p.length + f.length : Nat) : Int) = some (Get (p ++ (f ++ r)) ((p.length + f.length : Nat) : Int) (valF 0 f) (p.length : Int) d) := by
  induction r with
  | nil =>
    intro f k d hk hd hcap hf hh _ _
    obtain ⟨k, rfl⟩ : ∃ m, k = m + 1 + 1 := ⟨k - 2, by omega⟩
    obtain ⟨d, rfl⟩ : ∃ m, d = m + 1 := ⟨d - 1, by omega⟩
    rw [Ref_end p f [] _ k hcap (.inl rfl), Get, if_neg (by simp)]
  | cons b r ih =>
    intro f k d hk hd hcap hf hh hr hv
    obtain ⟨k, rfl⟩ : ∃ m, k = m + 1 + 1 := ⟨k - 2, by omega⟩
    obtain ⟨d, rfl⟩ : ∃ m, d = m + 1 := ⟨d - 1, by omega⟩
    have hb := hr b (by simp)
    have hc := cap_lt (Nat.le_trans (Nat.le_add_right _ _) hcap)
    have hl := len3 p f (b :: r)
    simp only [List.length_cons] at hl
    have hf' : ∀ x ∈ f, 0 ≤ x ∧ x < 256 := fun x hx => by have := hf x hx; omega
    have hg : (p ++ (f ++ b :: r)).getD ((p.length + f.length : Nat) : Int).toNat 0 = b := by
      show (p ++ (f ++ b :: r)).getD (p.length + f.length) 0 = b
      rw [List.getD_eq_getElem?_getD, List.getElem?_append_right (by omega), List.getElem?_append_right (by omega)]
      simp
    rw [Get, if_pos (by omega), hg]
    have hv0 := valF_nonneg 0 (Int.le_refl 0) f
    by_cases hbad : (((p.length + f.length : Nat) : Int) = (p.length : Int) ∧ b = 128) ∨ 144115188075855872 ≤ valF 0 f
    · rw [if_pos hbad]
      rcases hbad with ⟨h1, h2⟩ | h1
      · have hf0 : f = [] := List.eq_nil_of_length_eq_zero (by omega)
        subst hf0
        subst h2
        have hlt : ((p.length + ([] : List Int).length : Nat) : Int) < wrap64 ((p.length : Int) + 10) := by rw [wrap_in _ (by omega) (by omega)]; simp; omega
        rw [Ref_step p [] r 128 _ k hcap (by omega) hlt]
        rcases Ref_any p r ([] ++ [128]) (IntKind.u64.wrap (IntKind.u64.wrap (valF 0 [] * 128) + IntKind.u64.wrap (Int.tmod 128 128))) k (by simp at hk; omega) (by simpa using hcap) (by simp) (fun x hx => hr x (by simp [hx])) with h3 | ⟨m, t, hm, he, ht⟩
        · exact h3
        · exfalso
          rw [List.nil_append] at he
          rcases hh2 : hi (m / 128) with _ | ⟨y, s⟩
          · rw [enc, hh2] at he
            simp at he
            omega
          · rw [enc, hh2] at he
            simp only [List.cons_append, List.cons.injEq] at he
            exact hi_head _ y s hh2 he.1
      · rcases Ref_any p (b :: r) f (valF 0 f) (k + 1 + 1) hk hcap hf' hr with h3 | ⟨m, t, hm, he, ht⟩
        · exact h3
        · exfalso
          have h4 := val_enc m
          rw [he, valF_append] at h4
          cases t with
          | nil => exact ht rfl
          | cons x t =>
            have h5 := valF_ge (valF 0 f * 128 + x % 128) (by omega) t
            have h6 : valF (valF 0 f) (x :: t) = valF (valF 0 f * 128 + x % 128) t := rfl
            rw [h6] at h4
            omega
    · rw [if_neg hbad]
      have h57 : valF 0 f < 144115188075855872 := by
        rcases Int.lt_or_le (valF 0 f) 144115188075855872 with h | h
        · exact h
        · exact absurd (Or.inr h) hbad
      have hten : f.length < 10 := by
        rcases Nat.lt_or_ge f.length 10 with h | h
        · exact h
        · have h2 := val_low f hf hh 9 (by omega)
          rw [show (128 : Int) ^ 9 = 9223372036854775808 by decide] at h2
          omega
      have hlt : ((p.length + f.length : Nat) : Int) < wrap64 ((p.length : Int) + 10) := by rw [wrap_in _ (by omega) (by omega)]; omega
      have em : IntKind.u64.wrap (IntKind.u64.wrap (valF 0 f * 128) + IntKind.u64.wrap (Int.tmod b 128)) = valF 0 (f ++ [b]) := by
        rw [Int.tmod_eq_emod_of_nonneg (by omega), u64_in (valF 0 f * 128) (by omega) (by omega), u64_in (b % 128) (by omega) (by omega), u64_in _ (by omega) (by omega), valF_snoc]
      have ev : valF 0 f * 128 + b % 128 = valF 0 (f ++ [b]) := (valF_snoc _ _ _).symm
      by_cases h : b < 128
      · rw [if_pos h, Ref_last p f r b _ _ (k + 1 + 1) (by omega) hcap hf' hb.1 h hlt rfl, em, ev, canon_enc f hf hh b hb.1 h, if_pos rfl]
      · rw [if_neg h, Ref_step p f r b _ k hcap (by omega) hlt, em, ev]
        have h1 := ih (f ++ [b]) k d (by simp at hk; omega) (by simp at hd; omega) (by simpa using hcap) (fun x hx => by
          rcases List.mem_append.1 hx with hx | hx
          · exact hf x hx
          · rw [List.mem_singleton] at hx; omega) (fun x t e => by
          rcases f with _ | ⟨y, s⟩
          · simp only [List.nil_append, List.cons.injEq] at e
            rw [← e.1]
            intro hb2
            exact hbad (.inl ⟨by simp, hb2⟩)
          · simp only [List.cons_append, List.cons.injEq] at e
            rw [← e.1]
            exact hh y s rfl) (fun x hx => hr x (by simp [hx])) (by rw [valF_snoc]; omega)
        rw [h1, show (p ++ ((f ++ [b]) ++ r)) = p ++ (f ++ b :: r) by simp, show ((p.length + (f ++ [b]).length : Nat) : Int) = ((p.length + f.length : Nat) : Int) + 1 by simp; omega]
theorem Rget_f {k : Nat} (l : List Int) (hl : ∀ x ∈ l, 0 ≤ x ∧ x < 256) (at0 : Int) (hk : 2 * l.length + 16 ≤ k) (hc : l.length + 10 ≤ capN) : runnelref01_Get.f k l at0 = some (NumPure.get l at0) := by
  obtain ⟨k, rfl⟩ : ∃ m, k = m + 1 := ⟨k - 1, by omega⟩
  unfold runnelref01_Get.f NumPure.get
  simp only [runnelref01_Get.j0]
  by_cases h0 : at0 < 0
  · rw [if_pos h0, if_pos (Or.inl h0)]
    rfl
  · rw [if_neg h0]
    by_cases h1 : (l.length : Int) < at0
    · rw [decide_eq_true (show at0 > (l.length : Int) from h1), if_pos (Or.inr h1)]
      rfl
    · rw [decide_eq_false (show ¬ at0 > (l.length : Int) from h1), if_neg (show ¬ (false = true) by decide), if_neg (show ¬ (at0 < 0 ∨ (l.length : Int) < at0) from fun o => o.elim h0 h1)]
      obtain ⟨a, rfl⟩ := Int.eq_ofNat_of_zero_le (by omega : 0 ≤ at0)
      have hp : (l.take a).length = a := by rw [List.length_take]; omega
      have e : l.take a ++ ([] ++ l.drop a) = l := by simp
      have h2 := Ref_l0 (l.take a) (l.drop a) [] k (l.length + 1 - a) (by rw [List.length_drop]; omega) (by rw [List.length_drop]; omega) (by rw [e]; exact hc) (by simp) (by simp) (fun x hx => hl x (List.mem_of_mem_drop hx)) (by rw [valF_nil]; omega)
      rw [e, hp] at h2
      exact h2
theorem get_range (l : List Int) (hl : ∀ x ∈ l, 0 ≤ x ∧ x < 256) (at0 : Int) (d : Nat) : ∀ (i n : Int), 0 ≤ n → 0 ≤ i → 0 ≤ (Get l i n at0 d).1 ∧ (Get l i n at0 d).1 < 18446744073709551616 := by
  induction d with
  | zero => intro i n _ _; exact ⟨Int.le_refl _, (by decide : (0 : Int) < 18446744073709551616)⟩
  | succ d ih =>
    intro i n hn hi
    rw [Get]
    split
    · rename_i h
      have hb : 0 ≤ l.getD i.toNat 0 ∧ l.getD i.toNat 0 < 256 := hl _ (by rw [List.getD_eq_getElem?_getD, List.getElem?_eq_getElem (by omega)]; exact List.getElem_mem _)
      generalize l.getD i.toNat 0 = b at hb ⊢
      split
      · exact ⟨Int.le_refl _, (by decide : (0 : Int) < 18446744073709551616)⟩
      · rename_i h2
        split
        · show 0 ≤ n * 128 + b % 128 ∧ n * 128 + b % 128 < 18446744073709551616
          have h3 : ¬ 144115188075855872 ≤ n := fun h3 => h2 (Or.inr h3)
          omega
        · exact ih _ _ (by omega) (by omega)
    · exact ⟨Int.le_refl _, (by decide : (0 : Int) < 18446744073709551616)⟩
theorem got_range (l : List Int) (hl : ∀ x ∈ l, 0 ≤ x ∧ x < 256) (at0 : Int) : 0 ≤ (NumPure.get l at0).1 ∧ (NumPure.get l at0).1 < 18446744073709551616 := by
  unfold NumPure.get
  split
  · exact ⟨Int.le_refl _, (by decide : (0 : Int) < 18446744073709551616)⟩
  · rename_i h
    exact get_range l hl at0 _ _ _ (Int.le_refl _) (by omega)
/-- P1.2: the way back. -/
def zag (x : Int) : Int := if x % 2 = 1 then -(x / 2) - 1 else x / 2
theorem xor_zero (a : Int) (h : -9223372036854775808 ≤ a) (h' : a ≤ 9223372036854775807) : bits .xor .i64 a 0 = a := by
  have e : bits .xor .i64 a 0 = IntKind.i64.wrap ((BitVec.ofInt 64 a ^^^ BitVec.ofInt 64 0).toNat : Int) := by with_unfolding_all rfl
  rw [e, show BitVec.ofInt 64 0 = 0#64 from rfl, BitVec.xor_zero, BitVec.toNat_ofInt, IntKind.wrap_i64]
  omega
theorem xor_ones (a : Int) (h : -9223372036854775808 ≤ a) (h' : a ≤ 9223372036854775807) : bits .xor .i64 a (-1) = -a - 1 := by
  have e : bits .xor .i64 a (-1) = IntKind.i64.wrap ((BitVec.ofInt 64 a ^^^ BitVec.ofInt 64 (-1)).toNat : Int) := by with_unfolding_all rfl
  rw [e, show BitVec.ofInt 64 (-1) = BitVec.allOnes 64 by decide, BitVec.xor_allOnes, BitVec.toNat_not, BitVec.toNat_ofInt, IntKind.wrap_i64]
  omega
theorem zag_f (x : Int) (h0 : 0 ≤ x) (h1 : x < 18446744073709551616) : num_zag.f x = some (zag x) := by
  unfold num_zag.f zag
  have e1 : bits .and .u64 x 1 = x % 2 := by
    rw [u64_and x 1 h0 h1 (by decide) (by decide), show ((1 : Int).toNat) = 1 from rfl, nat_mask1]; omega
  rw [e1, wrap_in (x / 2) (by omega) (by omega), wrap_in (x % 2) (by omega) (by omega), wrap_in (-(x % 2)) (by omega) (by omega)]
  by_cases h : x % 2 = 1
  · rw [if_pos h, h, xor_ones _ (by omega) (by omega)]
  · rw [if_neg h, show x % 2 = 0 by omega]
    exact congrArg some (xor_zero _ (by omega) (by omega))
theorem getInt_f {k : Nat} (l : List Int) (hl : ∀ x ∈ l, 0 ≤ x ∧ x < 256) (at0 : Int) (hk : 2 * l.length + 8 ≤ k) (hc : l.length + 10 ≤ capN) : num_GetInt.f k l at0 = some (zag (NumPure.get l at0).1, (NumPure.get l at0).2.1, (NumPure.get l at0).2.2) := by
  have h := got_range l hl at0
  unfold num_GetInt.f
  rw [get_f l hl at0 hk hc]
  simp only [Option.bind_some]
  rw [zag_f _ h.1 h.2]
  rfl
theorem RgetInt_f {k : Nat} (l : List Int) (hl : ∀ x ∈ l, 0 ≤ x ∧ x < 256) (at0 : Int) (hk : 2 * l.length + 16 ≤ k) (hc : l.length + 10 ≤ capN) : runnelref01_GetInt.f k l at0 = some (zag (NumPure.get l at0).1, (NumPure.get l at0).2.1, (NumPure.get l at0).2.2) := by
  obtain ⟨h0, h1⟩ := got_range l hl at0
  unfold runnelref01_GetInt.f
  rw [Rget_f l hl at0 hk hc]
  simp only [Option.bind_some]
  generalize NumPure.get l at0 = g at h0 h1 ⊢
  obtain ⟨x, n, e⟩ := g
  simp only at h0 h1 ⊢
  unfold zag
  rw [Int.tmod_eq_emod_of_nonneg h0, Int.tdiv_eq_ediv_of_nonneg h0, u64_in (x / 2) (by omega) (by omega), wrap_in (x / 2) (by omega) (by omega)]
  by_cases h : x % 2 = 1
  · rw [if_pos h, if_pos h, wrap_in (-(x / 2)) (by omega) (by omega), wrap_in (-(x / 2) - 1) (by omega) (by omega)]
  · rw [if_neg h, if_neg h]
theorem getD_mid (p f r : List Int) (b : Int) : (p ++ (f ++ b :: r)).getD ((p.length + f.length : Nat) : Int).toNat 0 = b := by
  rw [Int.toNat_natCast, List.getD_eq_getElem?_getD, List.getElem?_append_right (by omega), List.getElem?_append_right (by omega)]
  simp
/-- What a number's reading tells: a fault, or the number whose bytes these are. -/
theorem Get_ok (p r : List Int) : ∀ (f : List Int) (d : Nat), r.length < d → (∀ x ∈ f, 128 ≤ x ∧ x < 256) → (∀ x t, f = x :: t → x ≠ 128) → (∀ x ∈ r, 0 ≤ x ∧ x < 256) →
    Get (p ++ (f ++ r)) ((p.length + f.length : Nat) : Int) (valF 0 f) (p.length : Int) d = (0, 0, 6) ∨
    ∃ (m : Nat) (t : List Int) (r' : List Int), m < 18446744073709551616 ∧ f ++ r = enc m ++ r' ∧ Get (p ++ (f ++ r)) ((p.length + f.length : Nat) : Int) (valF 0 f) (p.length : Int) d = ((m : Int), ((p.length + (enc m).length : Nat) : Int), 0) := by
  induction r with
  | nil =>
    intro f d hd hf hh _
    obtain ⟨d, rfl⟩ : ∃ m, d = m + 1 := ⟨d - 1, by omega⟩
    left
    rw [Get, if_neg (by simp)]
  | cons b r ih =>
    intro f d hd hf hh hr
    obtain ⟨d, rfl⟩ : ∃ m, d = m + 1 := ⟨d - 1, by omega⟩
    have hb := hr b (by simp)
    rw [Get, if_pos (by simp; omega), getD_mid]
    have hv0 := valF_nonneg 0 (Int.le_refl 0) f
    by_cases hbad : (((p.length + f.length : Nat) : Int) = (p.length : Int) ∧ b = 128) ∨ 144115188075855872 ≤ valF 0 f
    · rw [if_pos hbad]; exact .inl rfl
    · rw [if_neg hbad]
      have h57 : valF 0 f < 144115188075855872 := by
        rcases Int.lt_or_le (valF 0 f) 144115188075855872 with h | h
        · exact h
        · exact absurd (Or.inr h) hbad
      by_cases h : b < 128
      · rw [if_pos h]
        right
        have hce := canon_enc f hf hh b hb.1 h
        rw [valF_snoc] at hce
        refine ⟨(valF 0 f * 128 + b % 128).toNat, [], r, by omega, by rw [hce]; simp, ?_⟩
        rw [hce]
        simp only [List.length_append, List.length_singleton, Prod.mk.injEq, and_true]
        exact ⟨by omega, by omega⟩
      · rw [if_neg h, show valF 0 f * 128 + b % 128 = valF 0 (f ++ [b]) from (valF_snoc _ _ _).symm]
        have h1 := ih (f ++ [b]) d (by simp at hd; omega) (fun x hx => by
          rcases List.mem_append.1 hx with hx | hx
          · exact hf x hx
          · rw [List.mem_singleton] at hx; omega) (fun x t e => by
          rcases f with _ | ⟨y, s⟩
          · simp only [List.nil_append, List.cons.injEq] at e
            rw [← e.1]
            intro hb2
            exact hbad (.inl ⟨by simp, hb2⟩)
          · simp only [List.cons_append, List.cons.injEq] at e
            rw [← e.1]
            exact hh y s rfl) (fun x hx => hr x (by simp [hx]))
        rw [show (p ++ ((f ++ [b]) ++ r)) = p ++ (f ++ b :: r) by simp, show ((p.length + (f ++ [b]).length : Nat) : Int) = ((p.length + f.length : Nat) : Int) + 1 by simp; omega] at h1
        rcases h1 with h1 | ⟨m, t, r', h2, h3, h4⟩
        · exact .inl h1
        · exact .inr ⟨m, t, r', h2, by rw [← h3]; simp, h4⟩
/-- P1.4: whatever is got: a fault tells noughts; else these bytes are the number's own. -/
theorem get_ok (l : List Int) (hl : ∀ x ∈ l, 0 ≤ x ∧ x < 256) (at0 : Int) : (NumPure.get l at0 = (0, 0, 9) ∧ (at0 < 0 ∨ (l.length : Int) < at0)) ∨ (NumPure.get l at0 = (0, 0, 6) ∧ 0 ≤ at0 ∧ at0 ≤ l.length) ∨
    ∃ (m : Nat) (p r : List Int), m < 18446744073709551616 ∧ l = p ++ (enc m ++ r) ∧ at0 = p.length ∧ NumPure.get l at0 = ((m : Int), ((p.length + (enc m).length : Nat) : Int), 0) := by
  unfold NumPure.get
  by_cases h : at0 < 0 ∨ (l.length : Int) < at0
  · rw [if_pos h]; exact .inl ⟨rfl, h⟩
  · rw [if_neg h]
    have h0 : 0 ≤ at0 := by omega
    obtain ⟨a, rfl⟩ := Int.eq_ofNat_of_zero_le h0
    have hp : (l.take a).length = a := by rw [List.length_take]; omega
    have e : l.take a ++ ([] ++ l.drop a) = l := by simp
    have h2 := Get_ok (l.take a) (l.drop a) [] (l.length + 1 - a) (by rw [List.length_drop]; omega) (by simp) (by simp) (fun x hx => hl x (List.mem_of_mem_drop hx))
    rw [e, hp] at h2
    rcases h2 with h2 | ⟨m, t, r', h3, h4, h5⟩
    · exact .inr (.inl ⟨h2, h0, by omega⟩)
    · refine .inr (.inr ⟨m, l.take a, r', h3, ?_, by rw [hp], ?_⟩)
      · rw [← h4, e]
      · rw [hp]; exact h5
/-- P1.2: a number with a sign as one without. -/
def zig (a : Int) : Nat := if 0 ≤ a then (2 * a).toNat else (-2 * a - 1).toNat
theorem zig_lt (a : Int) (h : -9223372036854775808 ≤ a) (h' : a ≤ 9223372036854775807) : zig a < 18446744073709551616 := by unfold zig; split <;> omega
theorem uxor_zero (a : Int) (h : 0 ≤ a) (h' : a < 18446744073709551616) : bits .xor .u64 a 0 = a := by
  rw [u64_xor a 0 h h' (by decide) (by decide), show ((0 : Int).toNat) = 0 from rfl, Nat.xor_zero]; omega
theorem uxor_ones (a : Int) (h : 0 ≤ a) (h' : a < 18446744073709551616) : bits .xor .u64 a 18446744073709551615 = 18446744073709551615 - a := by
  have e : bits .xor .u64 a 18446744073709551615 = IntKind.u64.wrap ((BitVec.ofInt 64 a ^^^ BitVec.ofInt 64 18446744073709551615).toNat : Int) := by with_unfolding_all rfl
  rw [e, show BitVec.ofInt 64 18446744073709551615 = BitVec.allOnes 64 by decide, BitVec.xor_allOnes, BitVec.toNat_not, BitVec.toNat_ofInt, u64_mod]
  omega
theorem zig_f (a : Int) (h : -9223372036854775808 ≤ a) (h' : a ≤ 9223372036854775807) : num_zig.f a = some ((zig a : Nat) : Int) := by
  unfold num_zig.f zig
  by_cases h0 : 0 ≤ a
  · rw [if_pos h0, show a / 9223372036854775808 = 0 by omega, u64_in a h0 (by omega), u64_in (a * 2) (by omega) (by omega), u64_in 0 (by decide) (by decide), uxor_zero _ (by omega) (by omega)]
    congr 1
    omega
  · rw [if_neg h0, show a / 9223372036854775808 = -1 by omega]
    rw [show IntKind.u64.wrap a = a + 18446744073709551616 by rw [u64_mod]; omega, show IntKind.u64.wrap ((a + 18446744073709551616) * 2) = 2 * a + 18446744073709551616 by rw [u64_mod]; omega, show IntKind.u64.wrap (-1) = 18446744073709551615 by rw [u64_mod]; omega]
    rw [uxor_ones _ (by omega) (by omega)]
    congr 1
    omega
theorem PutInt_f {k : Nat} (l : List Int) (a : Int) (h : -9223372036854775808 ≤ a) (h' : a ≤ 9223372036854775807) (hk : 12 ≤ k) (hl : l.length + 10 ≤ capN) : num_PutInt.f k l a = some (l ++ enc (zig a)) := by
  unfold num_PutInt.f
  rw [fresh_f l hl, zig_f a h h']
  simp only [Option.bind_some]
  rw [put_f l (zig_lt a h h') hk hl]
  rfl
theorem bytesOf_byte (s : ByteArray) : ∀ x ∈ bytesOf s, 0 ≤ x ∧ x < 256 := by
  intro x hx
  unfold bytesOf at hx
  obtain ⟨u, _, rfl⟩ := List.mem_map.1 hx
  have := u.toNat_lt
  omega
theorem str_bytesOf (s : ByteArray) : str (bytesOf s) = s.toList := by
  have e : ∀ l : List UInt8, str (l.map fun b => (b.toNat : Int)) = l := by
    intro l
    have e0 : ∀ m : List Int, str m = m.map fun n => UInt8.ofNat n.toNat := fun m => by with_unfolding_all rfl
    rw [e0]
    induction l with
    | nil => rfl
    | cons u l ih => rw [List.map_cons, List.map_cons, ih, Int.toNat_natCast, UInt8.ofNat_toNat]
  unfold bytesOf
  rw [e, toList_eq]
/-- P1.3: a text's bytes. -/
def txt (s : ByteArray) : List Int := enc s.size ++ bytesOf s
theorem PutText_f {k : Nat} (l : List Int) (s : ByteArray) (hk : 12 ≤ k) (hl : l.length + 10 + s.size ≤ capN) : num_PutText.f k l s = some (l ++ txt s) := by
  have h1 := cap_lt hl
  have hn : s.size < 18446744073709551616 := by omega
  have h10 := enc_ten hn
  unfold num_PutText.f
  rw [fresh_f l (by omega)]
  simp only [Option.bind_some]
  rw [u64_in _ (by omega) (by omega), put_f l hn hk (by omega)]
  simp only [Option.bind_some]
  rw [if_pos (by rw [List.length_append]; generalize (enc s.size).length = E at h10 ⊢; omega), txt, List.append_assoc]
theorem GetText_f {k : Nat} (l : List Int) (hl : ∀ x ∈ l, 0 ≤ x ∧ x < 256) (at0 most : Int) (hk : 2 * l.length + 8 ≤ k) (hc : l.length + 10 ≤ capN) (hm : most ≤ 9223372036854775807) :
    num_GetText.f k l at0 most = some (if most < 0 then ((⟨#[]⟩ : ByteArray), 0, 1) else if (NumPure.get l at0).2.2 = 0 then
      (if most < (NumPure.get l at0).1 then ((⟨#[]⟩ : ByteArray), 0, 2) else if (l.length : Int) - (NumPure.get l at0).2.1 < (NumPure.get l at0).1 then ((⟨#[]⟩ : ByteArray), 0, 6)
       else (strOfNums ((l.take ((NumPure.get l at0).2.1 + (NumPure.get l at0).1).toNat).drop (NumPure.get l at0).2.1.toNat), (NumPure.get l at0).2.1 + (NumPure.get l at0).1, 0))
      else ((⟨#[]⟩ : ByteArray), 0, (NumPure.get l at0).2.2)) := by
  have hcc := cap_lt (Nat.le_trans (Nat.le_add_right _ _) hc)
  unfold num_GetText.f
  by_cases h0 : most < 0
  · rw [if_pos h0, if_pos h0]
  · rw [if_neg h0, if_neg h0, get_f l hl at0 hk hc]
    simp only [Option.bind_some]
    have ho := get_ok l hl at0
    have hin : (NumPure.get l at0).2.2 = 0 → 0 ≤ (NumPure.get l at0).1 ∧ (NumPure.get l at0).1 < 18446744073709551616 ∧ 0 ≤ (NumPure.get l at0).2.1 ∧ (NumPure.get l at0).2.1 ≤ (l.length : Int) := by
      intro he
      rcases ho with ⟨ho, _⟩ | ⟨ho, _⟩ | ⟨m, p, r, h1, h2, h3, ho⟩
      · rw [ho] at he; cases he
      · rw [ho] at he; cases he
      · rw [ho, h2]
        simp only [List.length_append]
        generalize (enc m).length = E
        exact ⟨by omega, by omega, by omega, by omega⟩
    generalize NumPure.get l at0 = g at hin ⊢
    obtain ⟨n, b, e⟩ := g
    simp only at hin ⊢
    by_cases he : e = 0
    · obtain ⟨h1, h2, h3, h4⟩ := hin he
      rw [if_pos he, if_pos he, u64_in most (by omega) (by omega)]
      by_cases h5 : most < n
      · rw [if_pos (show n > most from h5), if_pos h5]
      · rw [if_neg (show ¬ n > most from h5), if_neg h5, wrap_in ((l.length : Int) - b) (by omega) (by omega), u64_in ((l.length : Int) - b) (by omega) (by omega)]
        by_cases h6 : (l.length : Int) - b < n
        · rw [if_pos (show n > (l.length : Int) - b from h6), if_pos h6]
        · rw [if_neg (show ¬ n > (l.length : Int) - b from h6), if_neg h6, wrap_in n (by omega) (by omega), wrap_in (b + n) (by omega) (by omega), if_pos h3, if_pos (by omega), if_pos (by omega)]
    · rw [if_neg he, if_neg he]
theorem RGetText_f {k : Nat} (l : List Int) (hl : ∀ x ∈ l, 0 ≤ x ∧ x < 256) (at0 most : Int) (hk : 2 * l.length + 16 ≤ k) (hc : l.length + 10 ≤ capN) (hm : most ≤ 9223372036854775807) :
    runnelref01_GetText.f k l at0 most = some (if most < 0 then ((⟨#[]⟩ : ByteArray), 0, 1) else if (NumPure.get l at0).2.2 = 0 then
      (if most < (NumPure.get l at0).1 then ((⟨#[]⟩ : ByteArray), 0, 2) else if (l.length : Int) - (NumPure.get l at0).2.1 < (NumPure.get l at0).1 then ((⟨#[]⟩ : ByteArray), 0, 6)
       else (strOfNums ((l.take ((NumPure.get l at0).2.1 + (NumPure.get l at0).1).toNat).drop (NumPure.get l at0).2.1.toNat), (NumPure.get l at0).2.1 + (NumPure.get l at0).1, 0))
      else ((⟨#[]⟩ : ByteArray), 0, (NumPure.get l at0).2.2)) := by
  have hcc := cap_lt (Nat.le_trans (Nat.le_add_right _ _) hc)
  unfold runnelref01_GetText.f
  by_cases h0 : most < 0
  · rw [if_pos h0, if_pos h0]
  · rw [if_neg h0, if_neg h0, Rget_f l hl at0 hk hc]
    simp only [Option.bind_some]
    have ho := get_ok l hl at0
    have hin : (NumPure.get l at0).2.2 = 0 → 0 ≤ (NumPure.get l at0).1 ∧ (NumPure.get l at0).1 < 18446744073709551616 ∧ 0 ≤ (NumPure.get l at0).2.1 ∧ (NumPure.get l at0).2.1 ≤ (l.length : Int) := by
      intro he
      rcases ho with ⟨ho, _⟩ | ⟨ho, _⟩ | ⟨m, p, r, h1, h2, h3, ho⟩
      · rw [ho] at he; cases he
      · rw [ho] at he; cases he
      · rw [ho, h2]
        simp only [List.length_append]
        generalize (enc m).length = E
        exact ⟨by omega, by omega, by omega, by omega⟩
    generalize NumPure.get l at0 = g at hin ⊢
    obtain ⟨n, b, e⟩ := g
    simp only at hin ⊢
    by_cases he : e = 0
    · obtain ⟨h1, h2, h3, h4⟩ := hin he
      rw [if_pos he, if_pos he, u64_in most (by omega) (by omega)]
      by_cases h5 : most < n
      · rw [if_pos (show n > most from h5), if_pos h5]
      · rw [if_neg (show ¬ n > most from h5), if_neg h5, wrap_in ((l.length : Int) - b) (by omega) (by omega), u64_in ((l.length : Int) - b) (by omega) (by omega)]
        by_cases h6 : (l.length : Int) - b < n
        · rw [if_pos (show n > (l.length : Int) - b from h6), if_pos h6]
        · rw [if_neg (show ¬ n > (l.length : Int) - b from h6), if_neg h6, wrap_in n (by omega) (by omega), wrap_in (b + n) (by omega) (by omega), if_pos h3, if_pos (by omega), if_pos (by omega)]
    · rw [if_neg he, if_neg he]
/-- A value in the plain words. -/
def toV (x : S103) : V := ⟨x.f0, x.f1, x.f2.toList⟩
def vs (l : List S103) : List V := l.map toV
theorem vs_drop (l : List S103) (i : Nat) (h : i < l.length) : vs (l.drop i) = toV (rd_T103 l (i : Int)) :: vs (l.drop (i + 1)) := by
  rw [List.drop_eq_getElem_cons h]
  show toV l[i] :: vs (l.drop (i + 1)) = _
  rw [show rd_T103 l (i : Int) = l[i] by unfold rd_T103; rw [Int.toNat_natCast, List.getD_eq_getElem?_getD, List.getElem?_eq_getElem h]; rfl]
theorem vs_nil (l : List S103) (i : Nat) (h : l.length ≤ i) : vs (l.drop i) = [] := by rw [List.drop_of_length_le h]; rfl
theorem wrapi {i n : Nat} (h : i < n) (hn : n ≤ maxLen) : wrap64 ((i : Int) + 1) = ((i + 1 : Nat) : Int) := by
  have : maxLen = 9223372036854775807 := by with_unfolding_all rfl
  have e : wrap64 ((i : Int) + 1) = ((i : Int) + 1 + 9223372036854775808) % 18446744073709551616 - 9223372036854775808 := by with_unfolding_all rfl
  rw [e]; omega
theorem RCmp_f {k : Nat} (a b : S103) (hk : 1 ≤ k) : runnelref03_Cmp.f k a.f0 a.f1 a.f2 b.f0 b.f1 b.f2 = some (vcmp (toV a) (toV b)) := by
  obtain ⟨k, rfl⟩ : ∃ n, k = n + 1 := ⟨k - 1, by omega⟩
  unfold runnelref03_Cmp.f vcmp toV
  simp only [runnelref03_Cmp.j0]
  rw [cmpS_eq]
  unfold cmpI
  by_cases h1 : a.f0 = b.f0
  · by_cases h2 : a.f0 = 0
    · have h3 : ¬ (a.f0 = 1) := by omega
      simp only [h1] at h2 h3 ⊢
      by_cases h4 : a.f1 < b.f1
      · simp [h2, h4]
      · by_cases h5 : b.f1 < a.f1
        · simp [h2, h4, h5]
        · simp [h2, h4, h5]
    · by_cases h3 : a.f0 = 1
      · simp only [h1] at h2 h3 ⊢
        by_cases h4 : Op.bytesLess a.f2.toList b.f2.toList = true
        · simp [h3, h4]
        · by_cases h5 : Op.bytesLess b.f2.toList a.f2.toList = true
          · simp [h3, h4, h5]
          · simp [h3, h4, h5]
      · simp only [h1] at h2 h3 ⊢
        simp [h2, h3]
  · by_cases h4 : a.f0 < b.f0
    · simp [h1, h4]
    · by_cases h5 : b.f0 < a.f0
      · simp [h1, h4, h5]
      · omega
theorem ROrder_l0 (l m : List S103) (hm : l.length ≤ maxLen) (d : Nat) : ∀ (k i : Nat), i + d = l.length → i ≤ m.length → 2 * d + 2 < k →
    runnelref03_Order.l0 k l m (i : Int) = some (ord (vs (l.drop i)) (vs (m.drop i))) := by
  induction d with
  | zero =>
    intro k i hi him hk
    obtain ⟨k, rfl⟩ : ∃ n, k = n + 1 + 1 := ⟨k - 2, by omega⟩
    simp only [runnelref03_Order.l0, runnelref03_Order.j1]
    rw [if_neg (by omega), if_neg (show ¬ (false = true) by decide), vs_nil l i (by omega)]
    by_cases h : l.length < m.length
    · rw [if_pos (by omega), vs_drop m i (by omega)]; rfl
    · rw [if_neg (by omega), if_neg (by omega), vs_nil m i (by omega)]; rfl
  | succ d ih =>
    intro k i hi him hk
    obtain ⟨k, rfl⟩ : ∃ n, k = n + 1 + 1 := ⟨k - 2, by omega⟩
    simp only [runnelref03_Order.l0, runnelref03_Order.j1]
    rw [if_pos (by omega), vs_drop l i (by omega)]
    by_cases h : i < m.length
    · rw [decide_eq_true (by omega), if_pos rfl, if_pos (by omega), if_pos (by omega), if_pos (by omega), RCmp_f _ _ (by omega), vs_drop m i h]
      simp only [Option.bind_some]
      rw [wrapi (n := l.length) (by omega) hm, ih k (i + 1) (by omega) (by omega) (by omega)]
      show _ = some (if vcmp _ _ = 0 then ord _ _ else vcmp _ _)
      split <;> rfl
    · rw [decide_eq_false (by omega), if_neg (show ¬ (false = true) by decide), if_neg (by omega), if_pos (by omega), vs_nil m i (by omega)]; rfl
theorem ROrder_f {k : Nat} (l m : List S103) (hm : l.length ≤ maxLen) (hk : 2 * l.length + 2 < k) : runnelref03_Order.f k l m = some (ord (vs l) (vs m)) := by
  unfold runnelref03_Order.f
  exact ROrder_l0 l m hm l.length k 0 (by omega) (by omega) hk
theorem rd_at (l : List S103) (i : Nat) (h : i < l.length) : rd_T103 l (i : Int) = l[i] := by unfold rd_T103; rw [Int.toNat_natCast, List.getD_eq_getElem?_getD, List.getElem?_eq_getElem h]; rfl
/-- P3.2: what is wrong with values. -/
def chkL : List S103 → Int
  | [] => 0
  | x :: l => if x.f0 = 1 then (if (x.f2.size : Int) > 4096 then 2 else chkL l) else if x.f0 = 0 then chkL l else 8
def chk (l : List S103) : Int := if (l.length : Int) > 16 then 3 else chkL l
theorem Check_l0 (l : List S103) (hm : l.length ≤ maxLen) (d : Nat) : ∀ (k i : Nat), i + d = l.length → d < k → row_Check.l0 k l (l.length : Int) (i : Int) = some (chkL (l.drop i)) := by
  induction d with
  | zero =>
    intro k i hi hk
    obtain ⟨k, rfl⟩ : ∃ n, k = n + 1 := ⟨k - 1, by omega⟩
    simp only [row_Check.l0]
    rw [if_neg (by omega), List.drop_of_length_le (by omega)]; rfl
  | succ d ih =>
    intro k i hi hk
    obtain ⟨k, rfl⟩ : ∃ n, k = n + 1 := ⟨k - 1, by omega⟩
    have hi' : i < l.length := by omega
    simp only [row_Check.l0]
    rw [if_pos (by omega), if_pos (by omega), if_pos (by omega), rd_at l i hi', wrapi (n := l.length) hi' hm, ih k (i + 1) (by omega) (by omega), List.drop_eq_getElem_cons hi', chkL]
    split
    · split <;> rfl
    · split <;> rfl
theorem Check_f {k : Nat} (l : List S103) (hm : l.length ≤ maxLen) (hk : l.length < k) : row_Check.f k l = some (chk l) := by
  unfold row_Check.f chk
  have h := Check_l0 l hm l.length k 0 (by omega) hk
  rw [show ((0 : Nat) : Int) = 0 from rfl] at h
  rw [h]
  split <;> rfl
/-- A value from a place on: nothing, or the value and the place behind. -/
def val1 (l : List Int) (at0 : Int) : Option (S103 × Int) :=
  if (l.length : Int) ≤ at0 then none
  else if rd l at0 = 0 then (if (NumPure.get l (at0 + 1)).2.2 = 0 then some (⟨0, zag (NumPure.get l (at0 + 1)).1, (⟨#[]⟩ : ByteArray)⟩, (NumPure.get l (at0 + 1)).2.1) else none)
  else if rd l at0 = 1 then (if (NumPure.get l (at0 + 1)).2.2 = 0 then (if 4096 < (NumPure.get l (at0 + 1)).1 then none else if (l.length : Int) - (NumPure.get l (at0 + 1)).2.1 < (NumPure.get l (at0 + 1)).1 then none
    else some (⟨1, 0, strOfNums ((l.take ((NumPure.get l (at0 + 1)).2.1 + (NumPure.get l (at0 + 1)).1).toNat).drop (NumPure.get l (at0 + 1)).2.1.toNat)⟩, (NumPure.get l (at0 + 1)).2.1 + (NumPure.get l (at0 + 1)).1)) else none)
  else none
/-- So many values from a place on. -/
def valN (l : List Int) : Nat → Int → Option (List S103 × Int)
  | 0, at0 => some ([], at0)
  | d + 1, at0 => (val1 l at0).bind fun v => (valN l d v.2).map fun r => (v.1 :: r.1, r.2)
/-- P3.3: Get. -/
def rget (l : List Int) (at0 : Int) : List S103 × Int × Int :=
  if (NumPure.get l at0).2.2 = 0 then (if 16 < (NumPure.get l at0).1 then ([], 0, 6) else (match valN l (NumPure.get l at0).1.toNat (NumPure.get l at0).2.1 with | none => ([], 0, 6) | some r => (r.1, r.2, 0))) else ([], 0, (NumPure.get l at0).2.2)
theorem get_next (l : List Int) (hl : ∀ x ∈ l, 0 ≤ x ∧ x < 256) (at0 : Int) : 0 ≤ (NumPure.get l at0).2.1 ∧ (NumPure.get l at0).2.1 ≤ (l.length : Int) ∧ 0 ≤ (NumPure.get l at0).1 ∧ (NumPure.get l at0).1 < 18446744073709551616 := by
  rcases get_ok l hl at0 with ⟨ho, _⟩ | ⟨ho, _⟩ | ⟨m, p, r, h1, h2, h3, ho⟩
  · rw [ho]; exact ⟨Int.le_refl _, by show (0 : Int) ≤ _; omega, Int.le_refl _, by decide⟩
  · rw [ho]; exact ⟨Int.le_refl _, by show (0 : Int) ≤ _; omega, Int.le_refl _, by decide⟩
  · have hL : l.length = p.length + ((enc m).length + r.length) := by rw [h2]; simp
    rw [ho]
    generalize (enc m).length = E at hL
    exact ⟨by show (0 : Int) ≤ ((p.length + E : Nat) : Int); omega, by show ((p.length + E : Nat) : Int) ≤ _; omega, by show (0 : Int) ≤ (m : Int); omega, by show (m : Int) < _; omega⟩
theorem val1_next (l : List Int) (hl : ∀ x ∈ l, 0 ≤ x ∧ x < 256) (at0 : Int) (v : S103) (n : Int) (h : val1 l at0 = some (v, n)) : 0 ≤ n ∧ n ≤ (l.length : Int) := by
  have hn := get_next l hl (at0 + 1)
  unfold val1 at h
  generalize NumPure.get l (at0 + 1) = g at h hn
  split at h
  · cases h
  · split at h
    · split at h
      · simp only [Option.some.injEq, Prod.mk.injEq] at h; omega
      · cases h
    · split at h
      · split at h
        · split at h
          · cases h
          · split at h
            · cases h
            · simp only [Option.some.injEq, Prod.mk.injEq] at h; omega
        · cases h
      · cases h
theorem rd_byte (l : List Int) (hl : ∀ x ∈ l, 0 ≤ x ∧ x < 256) (i : Int) : 0 ≤ rd l i ∧ rd l i < 256 := by
  unfold rd
  rw [List.getD_eq_getElem?_getD]
  by_cases h : i.toNat < l.length
  · rw [List.getElem?_eq_getElem h]; exact hl _ (List.getElem_mem _)
  · rw [List.getElem?_eq_none (by omega)]; exact ⟨Int.le_refl _, by decide⟩
theorem value_f {k : Nat} (l : List Int) (hl : ∀ x ∈ l, 0 ≤ x ∧ x < 256) (at0 : Int) (h0 : 0 ≤ at0) (hk : 2 * l.length + 8 ≤ k) (hc : l.length + 10 ≤ capN) :
    ∃ v n e, row_value.f k l at0 = some (v.f0, v.f1, v.f2, n, e) ∧ ((e = 0 ∧ val1 l at0 = some (v, n)) ∨ (e ≠ 0 ∧ val1 l at0 = none)) := by
  have hcc := cap_lt (Nat.le_trans (Nat.le_add_right _ _) hc)
  have hr := rd_byte l hl at0
  unfold row_value.f val1
  by_cases h1 : (l.length : Int) ≤ at0
  · rw [if_pos (show at0 ≥ (l.length : Int) from h1), if_pos h1]
    exact ⟨⟨0, 0, (⟨#[]⟩ : ByteArray)⟩, 0, 6, rfl, .inr ⟨by decide, rfl⟩⟩
  · rw [if_neg (show ¬ at0 ≥ (l.length : Int) from h1), if_neg h1, if_pos h0, if_pos (by omega), wrap_in (at0 + 1) (by omega) (by omega), wrap_in (rd l at0) (by omega) (by omega)]
    by_cases h2 : rd l at0 = 0
    · rw [if_pos h2, if_pos h2, getInt_f l hl (at0 + 1) hk hc]
      simp only [Option.bind_some]
      refine ⟨⟨rd l at0, _, _⟩, _, _, rfl, ?_⟩
      by_cases h3 : (NumPure.get l (at0 + 1)).2.2 = 0
      · rw [if_pos h3, h2]; exact .inl ⟨h3, rfl⟩
      · rw [if_neg h3]; exact .inr ⟨h3, rfl⟩
    · rw [if_neg h2, if_neg h2]
      by_cases h3 : rd l at0 = 1
      · rw [if_pos h3, if_pos h3, GetText_f l hl (at0 + 1) 4096 hk hc (by decide)]
        simp only [Option.bind_some]
        refine ⟨⟨rd l at0, 0, _⟩, _, _, rfl, ?_⟩
        rw [if_neg (show ¬ (4096 : Int) < 0 by decide)]
        generalize NumPure.get l (at0 + 1) = g
        by_cases h4 : g.2.2 = 0
        · rw [if_pos h4, if_pos h4]
          by_cases h5 : 4096 < g.1
          · rw [if_pos h5, if_pos h5]; exact .inr ⟨by decide, rfl⟩
          · rw [if_neg h5, if_neg h5]
            by_cases h6 : (l.length : Int) - g.2.1 < g.1
            · rw [if_pos h6, if_pos h6]; exact .inr ⟨by decide, rfl⟩
            · rw [if_neg h6, if_neg h6, h3]; exact .inl ⟨rfl, rfl⟩
        · rw [if_neg h4, if_neg h4]; exact .inr ⟨h4, rfl⟩
      · rw [if_neg h3, if_neg h3]
        exact ⟨⟨rd l at0, 0, (⟨#[]⟩ : ByteArray)⟩, 0, 6, rfl, .inr ⟨by decide, rfl⟩⟩
theorem Get_l0r (l : List Int) (hl : ∀ x ∈ l, 0 ≤ x ∧ x < 256) (hc : l.length + 10 ≤ capN) (n : Nat) (hn : n ≤ 16) (d : Nat) : ∀ (k i : Nat) (acc : List S103) (at0 : Int), 0 ≤ at0 → i + d = n → acc.length = i → 2 * l.length + 8 + d < k →
    row_Get.l0 k l acc at0 (n : Int) (i : Int) = some (match valN l d at0 with | none => ([], 0, 6) | some r => (acc ++ r.1, r.2, 0)) := by
  induction d with
  | zero =>
    intro k i acc at0 h0 hi ha hk
    obtain ⟨k, rfl⟩ : ∃ m, k = m + 1 := ⟨k - 1, by omega⟩
    simp only [row_Get.l0]
    rw [if_neg (by omega), valN]
    simp
  | succ d ih =>
    intro k i acc at0 h0 hi ha hk
    obtain ⟨k, rfl⟩ : ∃ m, k = m + 1 := ⟨k - 1, by omega⟩
    obtain ⟨v, m, e, hv, hcase⟩ := value_f (k := k) l hl at0 h0 (by omega) hc
    simp only [row_Get.l0]
    rw [if_pos (by omega), hv, valN]
    simp only [Option.bind_some]
    rcases hcase with ⟨he, h1⟩ | ⟨he, h1⟩
    · have hm := val1_next l hl at0 v m h1
      rw [if_pos he, if_pos (by omega), u64_in ((i : Int) + 1) (by omega) (by omega), show ((i : Int) + 1) = ((i + 1 : Nat) : Int) by omega, ih k (i + 1) _ m hm.1 (by omega) (by simp [ha]) (by omega), h1]
      simp only [Option.bind_some]
      cases valN l d m with
      | none => rfl
      | some r => simp
    · rw [if_neg he, h1]; rfl
theorem rget_f {k : Nat} (l : List Int) (hl : ∀ x ∈ l, 0 ≤ x ∧ x < 256) (at0 : Int) (hk : 2 * l.length + 30 ≤ k) (hc : l.length + 10 ≤ capN) : row_Get.f k l at0 = some (rget l at0) := by
  have hn := get_next l hl at0
  unfold row_Get.f rget
  rw [get_f l hl at0 (by omega) hc]
  simp only [Option.bind_some]
  generalize NumPure.get l at0 = g at hn ⊢
  obtain ⟨n, nx, e⟩ := g
  simp only at hn ⊢
  by_cases he : e = 0
  · rw [if_pos he, if_pos he]
    by_cases h16 : 16 < n
    · rw [if_pos (show n > 16 from h16), if_pos h16]
    · rw [if_neg (show ¬ n > 16 from h16), if_neg h16]
      obtain ⟨m, rfl⟩ := Int.eq_ofNat_of_zero_le hn.2.2.1
      have h1 := Get_l0r l hl hc m (by omega) m k 0 [] nx hn.1 (by omega) rfl (by omega)
      rw [show ((0 : Nat) : Int) = 0 from rfl] at h1
      rw [h1, Int.toNat_natCast]
      cases valN l m nx <;> rfl
  · rw [if_neg he, if_neg he]
theorem RGet_l0r (l : List Int) (hl : ∀ x ∈ l, 0 ≤ x ∧ x < 256) (hc : l.length + 10 ≤ capN) (n : Nat) (hn : n ≤ 16) (d : Nat) : ∀ (k i : Nat) (acc : List S103) (at0 : Int), 0 ≤ at0 → i + d = n → acc.length = i → 2 * l.length + 18 + 2 * d < k →
    runnelref03_Get.l0 k l (n : Int) at0 acc (i : Int) = some (match valN l d at0 with | none => ([], 0, 6) | some r => (acc ++ r.1, r.2, 0)) := by
  have hcc := cap_lt (Nat.le_trans (Nat.le_add_right _ _) hc)
  induction d with
  | zero =>
    intro k i acc at0 h0 hi ha hk
    obtain ⟨k, rfl⟩ : ∃ m, k = m + 1 := ⟨k - 1, by omega⟩
    simp only [runnelref03_Get.l0]
    rw [if_neg (by rw [wrap_in _ (by omega) (by omega)]; omega), valN]
    simp
  | succ d ih =>
    intro k i acc at0 h0 hi ha hk
    obtain ⟨k, rfl⟩ : ∃ m, k = m + 1 + 1 := ⟨k - 2, by omega⟩
    have hr := rd_byte l hl at0
    have hwi : wrap64 ((i : Int) + 1) = ((i + 1 : Nat) : Int) := by rw [wrap_in _ (by omega) (by omega)]; omega
    have hstep : ∀ (v : S103) (m : Int), val1 l at0 = some (v, m) → (if acc.length < 4398046511104 then runnelref03_Get.l0 k l (n : Int) m (acc ++ [v]) ((i + 1 : Nat) : Int) else none) =
        some (match valN l (d + 1) at0 with | none => ([], 0, 6) | some r => (acc ++ r.1, r.2, 0)) := by
      intro v m h1
      have hm := val1_next l hl at0 v m h1
      rw [if_pos (by omega), ih k (i + 1) _ m hm.1 (by omega) (by simp [ha]) (by omega), valN, h1]
      simp only [Option.bind_some]
      cases valN l d m with
      | none => rfl
      | some r => simp
    have hnone : val1 l at0 = none → valN l (d + 1) at0 = none := by intro h1; rw [valN, h1]; rfl
    simp only [runnelref03_Get.l0, runnelref03_Get.j1]
    rw [if_pos (by rw [wrap_in _ (by omega) (by omega)]; omega)]
    by_cases h1 : (l.length : Int) ≤ at0
    · have hv : val1 l at0 = none := by unfold val1; rw [if_pos h1]
      rw [if_pos (show at0 ≥ (l.length : Int) from h1), hnone hv]
      rfl
    · rw [if_neg (show ¬ at0 ≥ (l.length : Int) from h1), if_pos h0, if_pos (by omega)]
      by_cases h2 : rd l at0 > 1
      · have hv : val1 l at0 = none := by unfold val1; rw [if_neg h1, if_neg (by omega), if_neg (by omega)]
        rw [decide_eq_true h2, if_pos rfl, hnone hv]
      · rw [decide_eq_false h2, if_neg (show ¬ (false = true) by decide), if_pos h0, if_pos (by omega), wrap_in (at0 + 1) (by omega) (by omega), wrap_in (rd l at0) (by omega) (by omega), hwi]
        by_cases h3 : rd l at0 = 0
        · rw [if_pos h3, RgetInt_f l hl (at0 + 1) (by omega) hc]
          simp only [Option.bind_some]
          by_cases h4 : (NumPure.get l (at0 + 1)).2.2 = 0
          · rw [if_pos h4]
            exact hstep _ _ (by unfold val1; rw [if_neg h1, if_pos h3, if_pos h4, h3])
          · rw [if_neg h4, hnone (by unfold val1; rw [if_neg h1, if_pos h3, if_neg h4])]
        · have h31 : rd l at0 = 1 := by omega
          rw [if_neg h3, RGetText_f l hl (at0 + 1) 4096 (by omega) hc (by decide)]
          simp only [Option.bind_some]
          rw [if_neg (show ¬ (4096 : Int) < 0 by decide)]
          by_cases h4 : (NumPure.get l (at0 + 1)).2.2 = 0
          · rw [if_pos h4]
            by_cases h5 : 4096 < (NumPure.get l (at0 + 1)).1
            · rw [if_pos h5, hnone (by unfold val1; rw [if_neg h1, if_neg h3, if_pos h31, if_pos h4, if_pos h5])]
              rfl
            · rw [if_neg h5]
              by_cases h6 : (l.length : Int) - (NumPure.get l (at0 + 1)).2.1 < (NumPure.get l (at0 + 1)).1
              · rw [if_pos h6, hnone (by unfold val1; rw [if_neg h1, if_neg h3, if_pos h31, if_pos h4, if_neg h5, if_pos h6])]
                rfl
              · rw [if_neg h6]
                simp only [if_true]
                exact hstep _ _ (by unfold val1; rw [if_neg h1, if_neg h3, if_pos h31, if_pos h4, if_neg h5, if_neg h6, h31])
          · rw [if_neg h4, if_neg h4, hnone (by unfold val1; rw [if_neg h1, if_neg h3, if_pos h31, if_neg h4])]
theorem Rrget_f {k : Nat} (l : List Int) (hl : ∀ x ∈ l, 0 ≤ x ∧ x < 256) (at0 : Int) (hk : 2 * l.length + 60 ≤ k) (hc : l.length + 10 ≤ capN) : runnelref03_Get.f k l at0 = some (rget l at0) := by
  have hn := get_next l hl at0
  unfold runnelref03_Get.f rget
  rw [Rget_f l hl at0 (by omega) hc]
  simp only [Option.bind_some]
  generalize NumPure.get l at0 = g at hn ⊢
  obtain ⟨n, nx, e⟩ := g
  simp only at hn ⊢
  by_cases he : e = 0
  · rw [if_pos he, if_pos he]
    by_cases h16 : 16 < n
    · rw [if_pos (show n > 16 from h16), if_pos h16]
    · rw [if_neg (show ¬ n > 16 from h16), if_neg h16]
      obtain ⟨m, rfl⟩ := Int.eq_ofNat_of_zero_le hn.2.2.1
      have h1 := RGet_l0r l hl hc m (by omega) m k 0 [] nx hn.1 (by omega) rfl (by omega)
      rw [show ((0 : Nat) : Int) = 0 from rfl] at h1
      rw [h1, Int.toNat_natCast]
      cases valN l m nx <;> rfl
  · rw [if_neg he, if_neg he]
/-- A value that may be told. -/
def good (x : S103) : Prop := (x.f0 = 0 ∨ x.f0 = 1) ∧ (x.f0 = 1 → x.f2.size ≤ 4096) ∧ -9223372036854775808 ≤ x.f1 ∧ x.f1 ≤ 9223372036854775807
/-- P3.3: a value's bytes, values' bytes, a row's bytes. -/
def item (x : S103) : List Int := x.f0 :: (if x.f0 = 0 then enc (zig x.f1) else txt x.f2)
def items : List S103 → List Int
  | [] => []
  | x :: l => item x ++ items l
def rbytes (l : List S103) : List Int := enc l.length ++ items l
theorem txt_length (s : ByteArray) (h : s.size ≤ 4096) : (txt s).length ≤ 4106 := by
  have h10 := enc_ten (n := s.size) (by omega)
  rw [txt, List.length_append, bytesOf_length]; omega
theorem item_length (x : S103) (h : good x) : (item x).length ≤ 4107 := by
  obtain ⟨h1, h2, h3, h4⟩ := h
  unfold item
  rw [List.length_cons]
  split
  · have := enc_ten (zig_lt x.f1 h3 h4); omega
  · have := txt_length x.f2 (h2 (by omega)); omega
theorem items_length (l : List S103) (h : ∀ x ∈ l, good x) : (items l).length ≤ 4107 * l.length := by
  induction l with
  | nil => simp [items]
  | cons x l ih =>
    have h1 := item_length x (h x (by simp))
    have h2 := ih (fun y hy => h y (by simp [hy]))
    rw [items, List.length_append, List.length_cons]
    omega
theorem chkL_good (l : List S103) (h : chkL l = 0) (hw : ∀ x ∈ l, (Lit.int .i64 x.f1).wf = true) : ∀ x ∈ l, good x := by
  induction l with
  | nil => intro x hx; cases hx
  | cons y l ih =>
    rw [chkL] at h
    intro x hx
    have hy := wf_i64 (hw y (by simp))
    by_cases h1 : y.f0 = 1
    · rw [if_pos h1] at h
      split at h
      · exact absurd h (by decide)
      · rename_i h2
        rcases List.mem_cons.1 hx with rfl | hx
        · exact ⟨.inr h1, fun _ => by omega, hy.1, hy.2⟩
        · exact ih h (fun z hz => hw z (by simp [hz])) x hx
    · rw [if_neg h1] at h
      split at h
      · rename_i h0
        rcases List.mem_cons.1 hx with rfl | hx
        · exact ⟨.inl h0, fun e => by omega, hy.1, hy.2⟩
        · exact ih h (fun z hz => hw z (by simp [hz])) x hx
      · exact absurd h (by decide)
theorem chk_good (l : List S103) (h : chk l = 0) (hw : ∀ x ∈ l, (Lit.int .i64 x.f1).wf = true) : l.length ≤ 16 ∧ ∀ x ∈ l, good x := by
  unfold chk at h
  split at h
  · exact absurd h (by decide)
  · exact ⟨by omega, chkL_good l h hw⟩
theorem Put_l0 (l : List S103) (hm : l.length ≤ 16) (hg : ∀ x ∈ l, good x) (d : Nat) : ∀ (k i : Nat) (acc : List Int), i + d = l.length → d + 12 < k → acc.length + 5000 * d + 10 ≤ capN →
    row_Put.l0 k acc l (l.length : Int) (i : Int) = some (acc ++ items (l.drop i), 0) := by
  induction d with
  | zero =>
    intro k i acc hi hk _
    obtain ⟨k, rfl⟩ : ∃ n, k = n + 1 := ⟨k - 1, by omega⟩
    simp only [row_Put.l0]
    rw [if_neg (by omega), List.drop_of_length_le (by omega), items, List.append_nil]
  | succ d ih =>
    intro k i acc hi hk hc
    obtain ⟨k, rfl⟩ : ∃ n, k = n + 1 := ⟨k - 1, by omega⟩
    have hi' : i < l.length := by omega
    have hx := hg l[i] (List.getElem_mem _)
    have hil := item_length l[i] hx
    have hwi : wrap64 ((i : Int) + 1) = ((i + 1 : Nat) : Int) := by rw [wrap_in _ (by omega) (by omega)]; omega
    simp only [row_Put.l0]
    rw [if_pos (by omega), if_pos (by omega), if_pos (by omega), if_pos (cap_lt (by omega)), rd_at l i hi', hwi, List.drop_eq_getElem_cons hi', items]
    simp only [Option.bind_some]
    generalize l[i] = x at hx hil ⊢
    obtain ⟨h1, h2, h3, h4⟩ := hx
    have h256 : x.f0 % 256 = x.f0 := by omega
    rw [h256]
    by_cases h0 : x.f0 = 0
    · have he : acc ++ [x.f0] ++ enc (zig x.f1) = acc ++ item x := by unfold item; rw [if_pos h0]; simp
      rw [if_pos h0, PutInt_f _ x.f1 h3 h4 (by omega) (by simp; omega), he]
      simp only [Option.bind_some]
      rw [ih k (i + 1) _ (by omega) (by omega) (by rw [List.length_append]; omega)]
      simp
    · have h5 := h2 (by omega)
      have he : acc ++ [x.f0] ++ txt x.f2 = acc ++ item x := by unfold item; rw [if_neg h0]; simp
      rw [if_neg h0, PutText_f _ x.f2 (by omega) (by simp; omega), he]
      simp only [Option.bind_some]
      rw [ih k (i + 1) _ (by omega) (by omega) (by rw [List.length_append]; omega)]
      simp
theorem rput_f {k : Nat} (b : List Int) (l : List S103) (hm : l.length ≤ maxLen) (hw : ∀ x ∈ l, (Lit.int .i64 x.f1).wf = true) (hk : l.length + 60 < k) (hb : b.length ≤ 900000000) : row_Put.f k b l = some (if chk l = 0 then (b ++ rbytes l, 0) else ([], chk l)) := by
  have hcg := cap_ge
  unfold row_Put.f
  rw [Check_f l hm (by omega)]
  simp only [Option.bind_some]
  by_cases h : chk l = 0
  · obtain ⟨h16, hg⟩ := chk_good l h hw
    have h10 := enc_ten (n := l.length) (by omega)
    rw [if_pos h, if_pos h, u64_in _ (by omega) (by omega), Put_f b (by omega) (by omega) (by omega)]
    simp only [Option.bind_some]
    have h1 := Put_l0 l h16 hg l.length k 0 (b ++ enc l.length) (by omega) (by omega) (by rw [List.length_append]; generalize (enc l.length).length = E at h10 ⊢; omega)
    rw [show ((0 : Nat) : Int) = 0 from rfl] at h1
    rw [h1, rbytes, List.drop_zero, List.append_assoc]
  · rw [if_neg h, if_neg h]
/-- A value without what plays no part. -/
def plain (x : S103) : S103 := if x.f0 = 0 then ⟨0, x.f1, (⟨#[]⟩ : ByteArray)⟩ else ⟨1, 0, x.f2⟩
theorem str_back (s : ByteArray) : strOfNums (bytesOf s) = s := by
  have h : (strOfNums (bytesOf s)).data.toList = s.data.toList := by
    have := str_bytesOf s
    rw [← str_of, toList_eq, toList_eq] at this
    exact this
  have h2 : (strOfNums (bytesOf s)).data = s.data := Array.toList_inj.1 h
  exact ByteArray.ext h2
theorem rbytes_length (l : List S103) (h16 : l.length ≤ 16) (hg : ∀ x ∈ l, good x) : (rbytes l).length ≤ 70000 := by
  have h1 := items_length l hg
  have h10 := enc_ten (n := l.length) (by omega)
  rw [rbytes, List.length_append]
  omega
theorem rdt_at (l : List S36) (i : Nat) (h : i < l.length) : rd_T36 l (i : Int) = l[i] := by unfold rd_T36; rw [Int.toNat_natCast, List.getD_eq_getElem?_getD, List.getElem?_eq_getElem h]; rfl
/-- A time whose numbers are numbers. -/
def tok (t : S36) : Prop := (-9223372036854775808 ≤ t.f0 ∧ t.f0 ≤ 9223372036854775807) ∧ -9223372036854775808 ≤ t.f1 ∧ t.f1 ≤ 9223372036854775807
/-- A number's bytes, a time's, times', a frontier's. -/
def one (a : Int) : List Int := enc (zig a)
def titem (t : S36) : List Int := one t.f0 ++ one t.f1
def titems : List S36 → List Int
  | [] => []
  | t :: l => titem t ++ titems l
def tfront (l : List S36) : List Int := enc l.length ++ titems l
theorem one_length (a : Int) (h : -9223372036854775808 ≤ a) (h' : a ≤ 9223372036854775807) : (one a).length ≤ 10 := enc_ten (zig_lt a h h')
theorem titem_length (t : S36) (h : tok t) : (titem t).length ≤ 20 := by
  have h1 := one_length t.f0 h.1.1 h.1.2
  have h2 := one_length t.f1 h.2.1 h.2.2
  rw [titem, List.length_append]; omega
theorem titems_length (l : List S36) (h : ∀ t ∈ l, tok t) : (titems l).length ≤ 20 * l.length := by
  induction l with
  | nil => simp [titems]
  | cons t l ih =>
    have h1 := titem_length t (h t (by simp))
    have h2 := ih (fun y hy => h y (by simp [hy]))
    rw [titems, List.length_append, List.length_cons]; omega
theorem tfront_length (l : List S36) (hn : l.length ≤ 100000) (h : ∀ t ∈ l, tok t) : (tfront l).length ≤ 10 + 20 * l.length := by
  have h1 := titems_length l h
  have h2 := enc_ten (n := l.length) (by omega)
  rw [tfront, List.length_append]; omega
theorem putTime_f {k : Nat} (b : List Int) (t : S36) (h : tok t) (hk : 12 ≤ k) (hb : b.length + 20 ≤ capN) : wire_putTime.f k b t.f0 t.f1 = some (b ++ titem t) := by
  have h1 := one_length t.f0 h.1.1 h.1.2
  unfold wire_putTime.f
  rw [PutInt_f b t.f0 h.1.1 h.1.2 hk (by omega)]
  simp only [Option.bind_some]
  rw [show b ++ enc (zig t.f0) = b ++ one t.f0 from rfl, PutInt_f (b ++ one t.f0) t.f1 h.2.1 h.2.2 hk (by rw [List.length_append]; omega), titem, ← List.append_assoc]
  rfl
theorem PutFront_l0 (l : List S36) (hm : l.length ≤ 100000) (hg : ∀ t ∈ l, tok t) (d : Nat) : ∀ (k i : Nat) (acc : List Int), i + d = l.length → d + 12 < k → acc.length + 20 * d + 20 ≤ capN →
    wire_PutFront.l0 k acc l (l.length : Int) (i : Int) = some (acc ++ titems (l.drop i)) := by
  induction d with
  | zero =>
    intro k i acc hi hk _
    obtain ⟨k, rfl⟩ : ∃ n, k = n + 1 := ⟨k - 1, by omega⟩
    simp only [wire_PutFront.l0]
    rw [if_neg (by omega), List.drop_of_length_le (by omega), titems, List.append_nil]
  | succ d ih =>
    intro k i acc hi hk hc
    obtain ⟨k, rfl⟩ : ∃ n, k = n + 1 := ⟨k - 1, by omega⟩
    have hi' : i < l.length := by omega
    have hx := hg l[i] (List.getElem_mem _)
    have hil := titem_length l[i] hx
    have hwi : wrap64 ((i : Int) + 1) = ((i + 1 : Nat) : Int) := by rw [wrap_in _ (by omega) (by omega)]; omega
    simp only [wire_PutFront.l0]
    rw [if_pos (by omega), if_pos (by omega), if_pos (by omega), rdt_at l i hi', hwi, List.drop_eq_getElem_cons hi', titems, putTime_f acc _ hx (by omega) (by omega)]
    simp only [Option.bind_some]
    rw [ih k (i + 1) _ (by omega) (by omega) (by rw [List.length_append]; omega), List.append_assoc]
theorem PutFront_f {k : Nat} (b : List Int) (l : List S36) (hm : l.length ≤ 100000) (hg : ∀ t ∈ l, tok t) (hk : l.length + 20 < k) (hb : b.length ≤ 900000000) : wire_PutFront.f k b l = some (b ++ tfront l) := by
  have hcg := cap_ge
  have h10 := enc_ten (n := l.length) (by omega)
  unfold wire_PutFront.f
  rw [u64_in _ (by omega) (by omega), Put_f b (by omega) (by omega) (by omega)]
  simp only [Option.bind_some]
  have h1 := PutFront_l0 l hm hg l.length k 0 (b ++ enc l.length) (by omega) (by omega) (by rw [List.length_append]; generalize (enc l.length).length = E at h10 ⊢; omega)
  rw [show ((0 : Nat) : Int) = 0 from rfl] at h1
  rw [h1, List.drop_zero, tfront, List.append_assoc]
/-- A reader's number: the number, the place behind, the fault. -/
def rint (l : List Int) (at0 e : Int) : Int × Int × Int := if e = 0 then (if (NumPure.get l at0).2.2 = 0 then (zag (NumPure.get l at0).1, (NumPure.get l at0).2.1, 0) else (0, at0, 6)) else (0, at0, e)
theorem rint_f {k : Nat} (l : List Int) (hl : ∀ x ∈ l, 0 ≤ x ∧ x < 256) (at0 e : Int) (hk : 2 * l.length + 8 ≤ k) (hc : l.length + 10 ≤ capN) : wire_reader_int.f k l at0 e = some (rint l at0 e) := by
  unfold wire_reader_int.f
  rw [getInt_f l hl at0 hk hc]
  simp only [Option.bind_some, wire_keep_int.f, rint]
  by_cases he : e = 0
  · subst he
    rw [if_pos rfl, if_pos rfl]
    by_cases h2 : (NumPure.get l at0).2.2 = 0
    · rw [if_pos h2, if_pos h2]; rfl
    · rw [if_neg h2, if_neg h2]; rfl
  · rw [if_neg he, if_neg he]; rfl
/-- So many numbers from a place on, and the place behind. -/
def nums (l : List Int) : Nat → Int → Option (List Int × Int)
  | 0, a => some ([], a)
  | d + 1, a => if (NumPure.get l a).2.2 = 0 then (nums l d (NumPure.get l a).2.1).map fun r => (zag (NumPure.get l a).1 :: r.1, r.2) else none
theorem nums_len (l : List Int) (d : Nat) : ∀ (a : Int) (r : List Int × Int), nums l d a = some r → r.1.length = d := by
  induction d with
  | zero => intro a r h; rw [nums] at h; cases h; rfl
  | succ d ih =>
    intro a r h
    rw [nums] at h
    split at h
    · rw [Option.map_eq_some_iff] at h
      obtain ⟨q, hq, rfl⟩ := h
      simp [ih _ q hq]
    · cases h
theorem nums_l0 (l : List Int) (hl : ∀ x ∈ l, 0 ≤ x ∧ x < 256) (hc : l.length + 10 ≤ capN) (m : Nat) (hm : m ≤ 100) (d : Nat) : ∀ (k i : Nat) (acc : List Int) (at0 : Int), i + d = m → acc.length = i → 2 * l.length + 16 + d < k →
    runnelref26_numbers.l0 k l at0 (m : Int) acc (i : Int) = some (match nums l d at0 with | none => ([], 0, false) | some r => (acc ++ r.1, r.2, true)) := by
  induction d with
  | zero =>
    intro k i acc at0 hi ha hk
    obtain ⟨k, rfl⟩ : ∃ n, k = n + 1 := ⟨k - 1, by omega⟩
    simp only [runnelref26_numbers.l0]
    rw [if_neg (by omega), nums]
    simp
  | succ d ih =>
    intro k i acc at0 hi ha hk
    obtain ⟨k, rfl⟩ : ∃ n, k = n + 1 := ⟨k - 1, by omega⟩
    simp only [runnelref26_numbers.l0]
    rw [if_pos (by omega), RgetInt_f l hl at0 (by omega) hc]
    simp only [Option.bind_some]
    rw [nums]
    by_cases he : (NumPure.get l at0).2.2 = 0
    · rw [if_pos he, if_pos he, if_pos (by omega), wrap_in _ (by omega) (by omega), show ((i : Int) + 1) = ((i + 1 : Nat) : Int) by omega, ih k (i + 1) _ _ (by omega) (by simp [ha]) (by omega)]
      cases nums l d (NumPure.get l at0).2.1 <;> simp
    · rw [if_neg he, if_neg he]
theorem nums_f {k : Nat} (l : List Int) (hl : ∀ x ∈ l, 0 ≤ x ∧ x < 256) (hc : l.length + 10 ≤ capN) (m : Nat) (hm : m ≤ 100) (at0 : Int) (hk : 2 * l.length + 120 ≤ k) :
    runnelref26_numbers.f k l at0 (m : Int) = some (match nums l m at0 with | none => ([], 0, false) | some r => (r.1, r.2, true)) := by
  unfold runnelref26_numbers.f
  have h := nums_l0 l hl hc m hm m k 0 [] at0 (by omega) rfl (by omega)
  rw [show ((0 : Nat) : Int) = 0 from rfl] at h
  rw [h]
  rfl
/-- A reader's time. -/
def rtime (l : List Int) (at0 e : Int) : Int × Int × Int × Int := ((rint l at0 e).1, (rint l (rint l at0 e).2.1 (rint l at0 e).2.2).1, (rint l (rint l at0 e).2.1 (rint l at0 e).2.2).2.1, (rint l (rint l at0 e).2.1 (rint l at0 e).2.2).2.2)
theorem rtime_f {k : Nat} (l : List Int) (hl : ∀ x ∈ l, 0 ≤ x ∧ x < 256) (at0 e : Int) (hk : 2 * l.length + 8 ≤ k) (hc : l.length + 10 ≤ capN) : wire_reader_time.f k l at0 e = some (rtime l at0 e) := by
  unfold wire_reader_time.f
  rw [rint_f l hl at0 e hk hc]
  simp only [Option.bind_some]
  rw [rint_f l hl _ _ hk hc]
  rfl
theorem rint_bad (l : List Int) (at0 e : Int) (he : e ≠ 0) : rint l at0 e = (0, at0, e) := by unfold rint; rw [if_neg he]
theorem rint_one (l : List Int) (at0 : Int) : (∃ a n, nums l 1 at0 = some ([a], n) ∧ rint l at0 0 = (a, n, 0)) ∨ (nums l 1 at0 = none ∧ rint l at0 0 = (0, at0, 6)) := by
  unfold rint
  rw [if_pos rfl, nums]
  by_cases he : (NumPure.get l at0).2.2 = 0
  · rw [if_pos he, if_pos he]
    exact .inl ⟨_, _, rfl, rfl⟩
  · rw [if_neg he, if_neg he]
    exact .inr ⟨rfl, rfl⟩
theorem nums_add (l : List Int) (a b : Nat) : ∀ at0 : Int, nums l (a + b) at0 = (nums l a at0).bind fun r => (nums l b r.2).map fun q => (r.1 ++ q.1, q.2) := by
  induction a with
  | zero => intro at0; rw [Nat.zero_add, nums]; simp
  | succ a ih =>
    intro at0
    rw [show a + 1 + b = (a + b) + 1 by omega, nums, nums]
    by_cases he : (NumPure.get l at0).2.2 = 0
    · rw [if_pos he, if_pos he, ih]
      cases nums l a (NumPure.get l at0).2.1 with
      | none => rfl
      | some r =>
        simp only [Option.bind_some, Option.map_some]
        cases nums l b r.2 <;> simp
    · rw [if_neg he, if_neg he]; rfl
theorem rtime_two (l : List Int) (at0 : Int) : (∃ a b n, nums l 2 at0 = some ([a, b], n) ∧ rtime l at0 0 = (a, b, n, 0)) ∨ (nums l 2 at0 = none ∧ (rtime l at0 0).2.2.2 = 6) := by
  rw [show (2 : Nat) = 1 + 1 from rfl, nums_add]
  unfold rtime
  rcases rint_one l at0 with ⟨a, n, h1, h2⟩ | ⟨h1, h2⟩
  · rw [h1, h2]
    simp only [Option.bind_some]
    rcases rint_one l n with ⟨b, m, h3, h4⟩ | ⟨h3, h4⟩
    · rw [h3, h4]; exact .inl ⟨a, b, m, rfl, rfl⟩
    · rw [h3, h4]; exact .inr ⟨rfl, rfl⟩
  · rw [h1, h2]
    simp only
    rw [rint_bad l at0 6 (by decide)]
    exact .inr ⟨rfl, rfl⟩
theorem rtime_bad (l : List Int) (at0 e : Int) (he : e ≠ 0) : rtime l at0 e = (0, 0, at0, e) := by
  unfold rtime
  rw [rint_bad l at0 e he]
  simp only
  rw [rint_bad l at0 e he]
/-- Numbers two by two. -/
def pairs : List Int → List S36
  | a :: b :: t => ⟨a, b⟩ :: pairs t
  | _ => []
/-- P26.2: a frontier from a place on. -/
def gfront (l : List Int) (at0 : Int) : List S36 × Int × Int := if (NumPure.get l at0).2.2 = 0 then (if 16 < (NumPure.get l at0).1 then ([], 0, 6) else (match nums l (2 * (NumPure.get l at0).1.toNat) (NumPure.get l at0).2.1 with | none => ([], 0, 6) | some r => (pairs r.1, r.2, 0))) else ([], 0, (NumPure.get l at0).2.2)
theorem GFront_bad (l : List Int) (hl : ∀ x ∈ l, 0 ≤ x ∧ x < 256) (hc : l.length + 10 ≤ capN) (n : Nat) (hn : n ≤ 16) (e : Int) (he : e ≠ 0) (d : Nat) : ∀ (k i : Nat) (acc : List S36) (at0 : Int), i + d = n → acc.length = i → 2 * l.length + 10 + d < k →
    wire_GetFront.l0 k acc (n : Int) (i : Int) l at0 e = some ([], 0, e) := by
  induction d with
  | zero =>
    intro k i acc at0 hi ha hk
    obtain ⟨k, rfl⟩ : ∃ n, k = n + 1 := ⟨k - 1, by omega⟩
    simp only [wire_GetFront.l0]
    rw [if_neg (by omega), if_neg he]
  | succ d ih =>
    intro k i acc at0 hi ha hk
    obtain ⟨k, rfl⟩ : ∃ n, k = n + 1 := ⟨k - 1, by omega⟩
    simp only [wire_GetFront.l0]
    rw [if_pos (by omega), rtime_f l hl at0 e (by omega) hc, rtime_bad l at0 e he]
    simp only [Option.bind_some]
    rw [if_pos (by omega), u64_in ((i : Int) + 1) (by omega) (by omega), show ((i : Int) + 1) = ((i + 1 : Nat) : Int) by omega, ih k (i + 1) _ at0 (by omega) (by simp [ha]) (by omega)]
theorem GFront_l0 (l : List Int) (hl : ∀ x ∈ l, 0 ≤ x ∧ x < 256) (hc : l.length + 10 ≤ capN) (n : Nat) (hn : n ≤ 16) (d : Nat) : ∀ (k i : Nat) (acc : List S36) (at0 : Int), i + d = n → acc.length = i → 2 * l.length + 10 + d < k →
    wire_GetFront.l0 k acc (n : Int) (i : Int) l at0 0 = some (match nums l (2 * d) at0 with | none => ([], 0, 6) | some r => (acc ++ pairs r.1, r.2, 0)) := by
  induction d with
  | zero =>
    intro k i acc at0 hi ha hk
    obtain ⟨k, rfl⟩ : ∃ n, k = n + 1 := ⟨k - 1, by omega⟩
    simp only [wire_GetFront.l0]
    rw [if_neg (by omega), if_pos trivial, show 2 * 0 = 0 from rfl, nums]
    simp [pairs]
  | succ d ih =>
    intro k i acc at0 hi ha hk
    obtain ⟨k, rfl⟩ : ∃ n, k = n + 1 := ⟨k - 1, by omega⟩
    simp only [wire_GetFront.l0]
    rw [if_pos (by omega), rtime_f l hl at0 0 (by omega) hc]
    simp only [Option.bind_some]
    rw [if_pos (by omega), u64_in ((i : Int) + 1) (by omega) (by omega), show ((i : Int) + 1) = ((i + 1 : Nat) : Int) by omega, show 2 * (d + 1) = 2 + 2 * d by omega, nums_add]
    rcases rtime_two l at0 with ⟨a, b, m, h1, h2⟩ | ⟨h1, h2⟩
    · rw [h1, h2]
      simp only [Option.bind_some]
      rw [ih k (i + 1) _ m (by omega) (by simp [ha]) (by omega)]
      cases nums l (2 * d) m with
      | none => rfl
      | some r => simp [pairs]
    · rw [h1, h2, GFront_bad l hl hc n hn 6 (by decide) d k (i + 1) _ _ (by omega) (by simp [ha]) (by omega)]
      rfl
theorem gfront_f {k : Nat} (l : List Int) (hl : ∀ x ∈ l, 0 ≤ x ∧ x < 256) (hc : l.length + 10 ≤ capN) (at0 : Int) (hk : 2 * l.length + 60 ≤ k) : wire_GetFront.f k l at0 = some (gfront l at0) := by
  have hg := got_range l hl at0
  unfold wire_GetFront.f gfront
  rw [get_f l hl at0 (by omega) hc]
  simp only [Option.bind_some]
  generalize NumPure.get l at0 = g at hg ⊢
  obtain ⟨m, nx, e⟩ := g
  simp only at hg ⊢
  by_cases he : e = 0
  · rw [if_pos he, if_pos he]
    by_cases h16 : 16 < m
    · rw [if_pos (show m > 16 from h16), if_pos h16]
    · rw [if_neg (show ¬ m > 16 from h16), if_neg h16]
      obtain ⟨n, rfl⟩ := Int.eq_ofNat_of_zero_le hg.1
      have h1 := GFront_l0 l hl hc n (by omega) n k 0 [] nx (by omega) rfl (by omega)
      rw [show ((0 : Nat) : Int) = 0 from rfl] at h1
      rw [h1, Int.toNat_natCast]
      cases nums l (2 * n) nx <;> rfl
  · rw [if_neg he, if_neg he]
theorem rdn (l : List Int) (i : Nat) (h : i < l.length) (j : Int) (hj : j = (i : Int)) : rd l j = l[i] := by
  subst hj
  unfold rd
  rw [Int.toNat_natCast, List.getD_eq_getElem?_getD, List.getElem?_eq_getElem h]
  rfl
theorem RFront_l0' (n : Nat) (hn : n ≤ 16) (xs : List Int) (nx : Int) (hx : xs.length = 2 * n) (d : Nat) : ∀ (k i : Nat) (acc : List S36), i + d = n → acc.length = i → d < k →
    runnelref26_GetFront.l0 k (n : Int) xs nx acc (i : Int) = some (acc ++ pairs (xs.drop (2 * i)), nx, 0) := by
  induction d with
  | zero =>
    intro k i acc hi ha hk
    obtain ⟨k, rfl⟩ : ∃ n, k = n + 1 := ⟨k - 1, by omega⟩
    simp only [runnelref26_GetFront.l0]
    rw [wrap_in (n : Int) (by omega) (by omega), if_neg (by omega), List.drop_of_length_le (by omega)]
    simp [pairs]
  | succ d ih =>
    intro k i acc hi ha hk
    obtain ⟨k, rfl⟩ : ∃ n, k = n + 1 := ⟨k - 1, by omega⟩
    simp only [runnelref26_GetFront.l0]
    rw [wrap_in (n : Int) (by omega) (by omega), wrap_in (2 * (i : Int)) (by omega) (by omega), wrap_in (2 * (i : Int) + 1) (by omega) (by omega), wrap_in ((i : Int) + 1) (by omega) (by omega), if_pos (by omega), if_pos (by omega), if_pos (by omega), if_pos (by omega), if_pos (by omega), if_pos (by omega), show ((i : Int) + 1) = ((i + 1 : Nat) : Int) by omega, ih k (i + 1) _ (by omega) (by simp [ha]) (by omega),
      rdn xs (2 * i) (by omega) _ (by omega), rdn xs (2 * i + 1) (by omega) _ (by omega), List.drop_eq_getElem_cons (show 2 * i < xs.length by omega), List.drop_eq_getElem_cons (show 2 * i + 1 < xs.length by omega), pairs, List.append_assoc, show 2 * i + 1 + 1 = 2 * (i + 1) by omega]
    rfl
theorem Rgfront_f {k : Nat} (l : List Int) (hl : ∀ x ∈ l, 0 ≤ x ∧ x < 256) (hc : l.length + 10 ≤ capN) (at0 : Int) (hk : 2 * l.length + 160 ≤ k) : runnelref26_GetFront.f k l at0 = some (gfront l at0) := by
  have hg := got_range l hl at0
  unfold runnelref26_GetFront.f gfront
  rw [Rget_f l hl at0 (by omega) hc]
  simp only [Option.bind_some]
  generalize NumPure.get l at0 = g at hg ⊢
  obtain ⟨m, nx, e⟩ := g
  simp only at hg ⊢
  by_cases he : e = 0
  · rw [if_pos he, if_pos he]
    by_cases h16 : 16 < m
    · rw [if_pos (show m > 16 from h16), if_pos h16]
    · rw [if_neg (show ¬ m > 16 from h16), if_neg h16]
      obtain ⟨n, rfl⟩ := Int.eq_ofNat_of_zero_le hg.1
      rw [wrap_in (n : Int) (by omega) (by omega), wrap_in (2 * (n : Int)) (by omega) (by omega), show 2 * (n : Int) = ((2 * n : Nat) : Int) by omega, nums_f l hl hc (2 * n) (by omega) nx (by omega), Int.toNat_natCast]
      cases hq : nums l (2 * n) nx with
      | none => rfl
      | some r =>
        have hlen := nums_len l _ _ r hq
        simp only [Option.bind_some]
        rw [if_pos trivial]
        have h1 := RFront_l0' n (by omega) r.1 r.2 hlen n k 0 [] (by omega) rfl (by omega)
        rw [show ((0 : Nat) : Int) = 0 from rfl] at h1
        rw [h1]
        rfl
  · rw [if_neg he, if_neg he]
theorem TSame_l0 (l : List S36) (hm : l.length ≤ 100000) (d : Nat) : ∀ (k i : Nat), i + d = l.length → d < k → runnelref04_Same.l0 k l l (i : Int) = some true := by
  induction d with
  | zero =>
    intro k i hi hk
    obtain ⟨k, rfl⟩ : ∃ n, k = n + 1 := ⟨k - 1, by omega⟩
    simp only [runnelref04_Same.l0]
    rw [if_neg (by omega)]
  | succ d ih =>
    intro k i hi hk
    obtain ⟨k, rfl⟩ : ∃ n, k = n + 1 := ⟨k - 1, by omega⟩
    have hwi : wrap64 ((i : Int) + 1) = ((i + 1 : Nat) : Int) := by rw [wrap_in _ (by omega) (by omega)]; omega
    simp only [runnelref04_Same.l0]
    rw [if_pos (by omega), if_pos (by omega), if_pos (by omega), if_neg (by simp), hwi, ih k (i + 1) (by omega) (by omega)]
theorem TSame_refl {k : Nat} (l : List S36) (hm : l.length ≤ 100000) (hk : l.length < k) : runnelref04_Same.f k l l = some true := by
  unfold runnelref04_Same.f
  rw [if_pos rfl]
  exact TSame_l0 l hm l.length k 0 (by omega) hk
theorem live_60 : runnellaw26_live.f 60 = some true := by decide +kernel
theorem live_f {k : Nat} (hk : 60 ≤ k) : runnellaw26_live.f k = some true := at_rounds runnellaw26_live.mono hk live_60
abbrev Cm : Type := Int × Int × (List (S103)) × Int × Int × Int × (List (S36)) × Int × List Int × Int × Int
def cz (e : Int) : Cm := (0, 0, [], 0, 0, 0, [], 0, [], 0, e)
/-- A text from a place on. -/
def gtext (l : List Int) (at0 most : Int) : ByteArray × Int × Int := if (NumPure.get l at0).2.2 = 0 then
      (if most < (NumPure.get l at0).1 then ((⟨#[]⟩ : ByteArray), 0, 2) else if (l.length : Int) - (NumPure.get l at0).2.1 < (NumPure.get l at0).1 then ((⟨#[]⟩ : ByteArray), 0, 6)
       else (strOfNums ((l.take ((NumPure.get l at0).2.1 + (NumPure.get l at0).1).toNat).drop (NumPure.get l at0).2.1.toNat), (NumPure.get l at0).2.1 + (NumPure.get l at0).1, 0))
      else ((⟨#[]⟩ : ByteArray), 0, (NumPure.get l at0).2.2)
theorem gtext_f {k : Nat} (l : List Int) (hl : ∀ x ∈ l, 0 ≤ x ∧ x < 256) (at0 most : Int) (hk : 2 * l.length + 8 ≤ k) (hc : l.length + 10 ≤ capN) (h0 : 0 ≤ most) (hm : most ≤ 9223372036854775807) : num_GetText.f k l at0 most = some (gtext l at0 most) := by
  rw [GetText_f l hl at0 most hk hc hm, if_neg (by omega)]; rfl
theorem Rgtext_f {k : Nat} (l : List Int) (hl : ∀ x ∈ l, 0 ≤ x ∧ x < 256) (at0 most : Int) (hk : 2 * l.length + 16 ≤ k) (hc : l.length + 10 ≤ capN) (h0 : 0 ≤ most) (hm : most ≤ 9223372036854775807) : runnelref01_GetText.f k l at0 most = some (gtext l at0 most) := by
  rw [RGetText_f l hl at0 most hk hc hm, if_neg (by omega)]; rfl
theorem gtext_size (l : List Int) (at0 most : Int) (hc : l.length + 10 ≤ capN) : (gtext l at0 most).1.size < 140737488355328 := by
  have hcc := cap_lt (Nat.le_trans (Nat.le_add_right _ _) hc)
  unfold gtext
  split
  · split
    · show (0 : Nat) < _; decide
    · split
      · show (0 : Nat) < _; decide
      · show (strOfNums _).size < _
        rw [strOfNums_size]
        have : ((l.take ((NumPure.get l at0).2.1 + (NumPure.get l at0).1).toNat).drop (NumPure.get l at0).2.1.toNat).length ≤ l.length := by rw [List.length_drop, List.length_take]; omega
        omega
  · show (0 : Nat) < _; decide
theorem main_f (s : ByteArray) (h : s.size < 140737488355328) : main_main.f s = some (bytesOf s) := by unfold main_main.f; rw [if_pos h]
/-- P26.2: a command from a place on: its number, its fields, the place behind, the fault. -/
def cget (l : List Int) (at0 : Int) : Cm :=
  if at0 < 0 ∨ (l.length : Int) < at0 then cz 9
  else if at0 = (l.length : Int) ∨ 6 < rd l at0 then cz 6
  else if rd l at0 = 0 then (if (gtext l (at0 + 1) 65536).2.2 = 0 then (0, 0, [], 0, 0, 0, [], 0, bytesOf (gtext l (at0 + 1) 65536).1, (gtext l (at0 + 1) 65536).2.1, 0) else cz 6)
  else match nums l 1 (at0 + 1) with
    | none => cz 6
    | some r => if rd l at0 = 1 then (if (rget l r.2).2.2 = 0 then (match nums l 3 (rget l r.2).2.1 with | none => cz 6 | some q => (1, rd r.1 0, (rget l r.2).1, rd q.1 0, rd q.1 1, rd q.1 2, [], 0, [], q.2, 0)) else cz 6)
      else if rd l at0 = 2 ∨ rd l at0 = 4 then (if (gfront l r.2).2.2 = 0 then (rd l at0, rd r.1 0, [], 0, 0, 0, (gfront l r.2).1, 0, [], (gfront l r.2).2.1, 0) else cz 6)
      else if rd l at0 = 3 then (match nums l 1 r.2 with | none => cz 6 | some q => (3, rd r.1 0, [], 0, 0, 0, [], rd q.1 0, [], q.2, 0))
      else if rd l at0 = 5 then (match nums l 2 r.2 with | none => cz 6 | some q => (5, rd r.1 0, [], rd q.1 0, rd q.1 1, 0, [], 0, [], q.2, 0))
      else (6, rd r.1 0, [], 0, 0, 0, [], 0, [], r.2, 0)
theorem list1 {l : List Int} (h : l.length = 1) : ∃ a, l = [a] := List.length_eq_one_iff.1 h
theorem list2 {l : List Int} (h : l.length = 2) : ∃ a b, l = [a, b] := by
  match l, h with
  | [a, b], _ => exact ⟨a, b, rfl⟩
theorem list3 {l : List Int} (h : l.length = 3) : ∃ a b c, l = [a, b, c] := by
  match l, h with
  | [a, b, c], _ => exact ⟨a, b, c, rfl⟩
theorem nums1_f {k : Nat} (l : List Int) (hl : ∀ x ∈ l, 0 ≤ x ∧ x < 256) (hc : l.length + 10 ≤ capN) (at0 : Int) (hk : 2 * l.length + 120 ≤ k) : runnelref26_numbers.f k l at0 1 = some (match nums l 1 at0 with | none => ([], 0, false) | some r => (r.1, r.2, true)) := nums_f l hl hc 1 (by omega) at0 hk
theorem nums2_f {k : Nat} (l : List Int) (hl : ∀ x ∈ l, 0 ≤ x ∧ x < 256) (hc : l.length + 10 ≤ capN) (at0 : Int) (hk : 2 * l.length + 120 ≤ k) : runnelref26_numbers.f k l at0 2 = some (match nums l 2 at0 with | none => ([], 0, false) | some r => (r.1, r.2, true)) := nums_f l hl hc 2 (by omega) at0 hk
theorem nums3_f {k : Nat} (l : List Int) (hl : ∀ x ∈ l, 0 ≤ x ∧ x < 256) (hc : l.length + 10 ≤ capN) (at0 : Int) (hk : 2 * l.length + 120 ≤ k) : runnelref26_numbers.f k l at0 3 = some (match nums l 3 at0 with | none => ([], 0, false) | some r => (r.1, r.2, true)) := nums_f l hl hc 3 (by omega) at0 hk
/-- The document's answer. -/
theorem Rcget_f {k : Nat} (l : List Int) (hl : ∀ x ∈ l, 0 ≤ x ∧ x < 256) (hc : l.length + 10 ≤ capN) (at0 : Int) (hk : 2 * l.length + 200 ≤ k) : runnelref26_Get.f k l at0 = some (cget l at0) := by
  have hcc := cap_lt (Nat.le_trans (Nat.le_add_right _ _) hc)
  have hr := rd_byte l hl at0
  obtain ⟨k, rfl⟩ : ∃ n, k = n + 6 := ⟨k - 6, by omega⟩
  unfold runnelref26_Get.f cget
  by_cases h1 : at0 < 0
  · rw [if_pos h1, if_pos (.inl h1)]; simp only [runnelref26_Get.j0]; rfl
  rw [if_neg h1]
  by_cases h2 : (l.length : Int) < at0
  · rw [if_pos (.inr h2), decide_eq_true (show at0 > (l.length : Int) from h2)]; simp only [runnelref26_Get.j0]; rfl
  rw [if_neg (show ¬ (at0 < 0 ∨ (l.length : Int) < at0) by omega), decide_eq_false (show ¬ at0 > (l.length : Int) from h2)]
  simp only [runnelref26_Get.j0]
  rw [if_neg (show ¬ (false = true) by decide)]
  by_cases h3 : at0 = (l.length : Int)
  · rw [if_pos h3, if_pos (.inl h3)]; simp only [runnelref26_Get.j1]; rfl
  rw [if_neg h3, if_pos (show 0 ≤ at0 by omega), if_pos (show at0 < (l.length : Int) by omega)]
  by_cases h4 : 6 < rd l at0
  · rw [if_pos (.inr h4), decide_eq_true (show rd l at0 > 6 from h4)]; simp only [runnelref26_Get.j1]; rfl
  rw [if_neg (show ¬ (at0 = (l.length : Int) ∨ 6 < rd l at0) by omega), decide_eq_false (show ¬ rd l at0 > 6 from h4)]
  simp only [runnelref26_Get.j1]
  rw [if_neg (show ¬ (false = true) by decide), if_pos (show 0 ≤ at0 by omega), if_pos (show at0 < (l.length : Int) by omega), wrap_in (rd l at0) (by omega) (by omega), wrap_in (at0 + 1) (by omega) (by omega)]
  generalize hd : rd l at0 = d at hr h4 ⊢
  by_cases h5 : d = 0
  · rw [if_pos h5, if_pos h5, Rgtext_f l hl (at0 + 1) 65536 (by omega) hc (by decide) (by decide)]
    simp only [Option.bind_some]
    by_cases h6 : (gtext l (at0 + 1) 65536).2.2 = 0
    · rw [if_pos h6, if_pos h6, main_f _ (gtext_size l _ _ hc), h5]; rfl
    · rw [if_neg h6, if_neg h6]; rfl
  rw [if_neg h5, if_neg h5, nums1_f l hl hc (at0 + 1) (by omega)]
  cases hq : nums l 1 (at0 + 1) with
  | none => rfl
  | some r =>
    obtain ⟨a, ha⟩ := list1 (nums_len l _ _ r hq)
    simp only [Option.bind_some]
    rw [if_pos trivial, if_pos (by rw [ha]; simp)]
    by_cases e1 : d = 1
    · rw [if_pos e1, if_pos e1, Rrget_f l hl r.2 (by omega) hc]
      simp only [Option.bind_some]
      by_cases h7 : (rget l r.2).2.2 = 0
      · rw [if_pos h7, if_pos h7, nums3_f l hl hc _ (by omega)]
        cases hq3 : nums l 3 (rget l r.2).2.1 with
        | none =>
          simp only [Option.bind_some, runnelref26_Get.j2, runnelref26_Get.j3]
          simp; rfl
        | some q =>
          obtain ⟨x, y, z, hx⟩ := list3 (nums_len l _ _ q hq3)
          simp only [Option.bind_some, runnelref26_Get.j2, runnelref26_Get.j3, h7]
          simp [hx, e1]
      · rw [if_neg h7, if_neg h7]
        simp only [runnelref26_Get.j2, runnelref26_Get.j3]
        simp [h7]; rfl
    rw [if_neg e1, if_neg e1]
    have hF : ∀ b : Bool, b = true → (runnelref26_Get.j4 (k + 4) l r.2 true 0 d b d (rd r.1 0) 0 0 0 0) = some (if (gfront l r.2).2.2 = 0 then (d, rd r.1 0, [], 0, 0, 0, (gfront l r.2).1, 0, [], (gfront l r.2).2.1, 0) else cz 6) := by
      intro b hb
      subst hb
      simp only [runnelref26_Get.j4]
      rw [if_pos trivial, Rgfront_f l hl hc r.2 (by omega)]
      simp only [Option.bind_some]
      rw [if_pos trivial]
      by_cases h7 : (gfront l r.2).2.2 = 0
      · rw [if_pos h7, if_pos h7]
      · rw [if_neg h7, if_neg h7]; rfl
    by_cases e2 : d = 2
    · rw [if_pos e2, if_pos (.inl e2), hF _ (by simp [e2])]
    rw [if_neg e2]
    by_cases e4 : d = 4
    · rw [if_pos (.inr e4), hF _ (by simp [e4])]
    rw [if_neg (show ¬ (d = 2 ∨ d = 4) by omega), show (d == 4) = false from beq_eq_false_iff_ne.mpr e4]
    simp only [runnelref26_Get.j4]
    rw [if_neg (show ¬ (false = true) by decide)]
    by_cases e3 : d = 3
    · rw [if_pos e3, if_pos e3, nums1_f l hl hc r.2 (by omega)]
      cases hq3 : nums l 1 r.2 with
      | none => rfl
      | some q =>
        obtain ⟨x, hx⟩ := list1 (nums_len l _ _ q hq3)
        simp only [Option.bind_some]
        rw [if_pos trivial, if_pos (by rw [hx]; simp), if_pos trivial, e3]
    rw [if_neg e3, if_neg e3]
    by_cases e5 : d = 5
    · rw [if_pos e5, if_pos e5, nums2_f l hl hc r.2 (by omega)]
      cases hq3 : nums l 2 r.2 with
      | none => rfl
      | some q =>
        obtain ⟨x, y, hx⟩ := list2 (nums_len l _ _ q hq3)
        simp only [Option.bind_some]
        rw [if_pos trivial, if_pos (by rw [hx]; simp), if_pos (by rw [hx]; simp), if_pos trivial, e5]
    rw [if_neg e5, if_neg e5, if_pos trivial, show d = 6 by omega]
/-- What a command uses. -/
def useOf (d : Int) : Int := if d = 0 then 4 else if d = 1 then 9 else if d = 2 ∨ d = 4 then 33 else if d = 3 then 3 else if d = 5 then 17 else if d = 6 then 1 else 0
theorem uses_f {k : Nat} (d : Int) (hk : 1 ≤ k) : wire_uses.f k d = some (useOf d) := by
  obtain ⟨k, rfl⟩ : ∃ n, k = n + 1 := ⟨k - 1, by omega⟩
  unfold wire_uses.f useOf
  by_cases e0 : d = 0
  · rw [if_pos e0, if_pos e0]
  rw [if_neg e0, if_neg e0]
  by_cases e1 : d = 1
  · rw [if_pos e1, if_pos e1]
  rw [if_neg e1, if_neg e1]
  by_cases e2 : d = 2
  · rw [if_pos e2, if_pos (.inl e2), e2]; simp [wire_uses.j0]
  rw [if_neg e2]
  simp only [wire_uses.j0]
  by_cases e4 : d = 4
  · rw [if_pos (by simp [e4]), if_pos (.inr e4)]
  rw [if_neg (by simp [e4]), if_neg (show ¬ (d = 2 ∨ d = 4) by omega)]
  by_cases e3 : d = 3
  · rw [if_pos e3, if_pos e3]
  rw [if_neg e3, if_neg e3]
  by_cases e5 : d = 5
  · rw [if_pos e5, if_pos e5]
  rw [if_neg e5, if_neg e5]
  by_cases e6 : d = 6
  · rw [if_pos e6, if_pos e6]
  · rw [if_neg e6, if_neg e6]
theorem up_f {k : Nat} (l : List Int) (hl : ∀ x ∈ l, 0 ≤ x ∧ x < 256) (hc : l.length + 10 ≤ capN) (at0 e : Int) (hk : 2 * l.length + 30 ≤ k) : wire_reader_up.f k l at0 e = some (
    if e = 0 then (if (rget l at0).2.2 = 0 then ((rget l at0).1, (rtime l (rget l at0).2.1 0).1, (rtime l (rget l at0).2.1 0).2.1, (rint l (rtime l (rget l at0).2.1 0).2.2.1 (rtime l (rget l at0).2.1 0).2.2.2).1, (rint l (rtime l (rget l at0).2.1 0).2.2.1 (rtime l (rget l at0).2.1 0).2.2.2).2.1, (rint l (rtime l (rget l at0).2.1 0).2.2.1 (rtime l (rget l at0).2.1 0).2.2.2).2.2) else ([], 0, 0, 0, at0, 6)) else ([], 0, 0, 0, at0, e)) := by
  unfold wire_reader_up.f
  rw [rget_f l hl at0 hk hc]
  simp only [Option.bind_some, api_Row.f]
  by_cases he : e = 0
  · subst he
    rw [if_pos rfl, if_pos rfl]
    by_cases h2 : (rget l at0).2.2 = 0
    · rw [if_pos h2, if_pos h2]
      simp only [Option.bind_some]
      rw [rtime_f l hl _ _ (by omega) hc]
      simp only [Option.bind_some]
      rw [rint_f l hl _ _ (by omega) hc]
      rfl
    · rw [if_neg h2, if_neg h2]
      simp only [Option.bind_some]
      rw [rtime_f l hl _ _ (by omega) hc, rtime_bad l at0 6 (by decide)]
      simp only [Option.bind_some]
      rw [rint_f l hl _ _ (by omega) hc, rint_bad l at0 6 (by decide)]
      rfl
  · rw [if_neg he, if_neg he]
    simp only [Option.bind_some]
    rw [rtime_f l hl _ _ (by omega) hc, rtime_bad l at0 e he]
    simp only [Option.bind_some]
    rw [rint_f l hl _ _ (by omega) hc, rint_bad l at0 e he]
    rfl
theorem front_f {k : Nat} (l : List Int) (hl : ∀ x ∈ l, 0 ≤ x ∧ x < 256) (hc : l.length + 10 ≤ capN) (at0 e : Int) (hk : 2 * l.length + 60 ≤ k) : wire_reader_front.f k l at0 e = some (
    if e = 0 then (if (gfront l at0).2.2 = 0 then ((gfront l at0).1, (gfront l at0).2.1, 0) else ([], at0, 6)) else ([], at0, e)) := by
  unfold wire_reader_front.f
  rw [gfront_f l hl hc at0 hk]
  simp only [Option.bind_some, api_Time.f]
  by_cases he : e = 0
  · subst he
    rw [if_pos rfl, if_pos rfl]
    by_cases h2 : (gfront l at0).2.2 = 0
    · rw [if_pos h2, if_pos h2]; rfl
    · rw [if_neg h2, if_neg h2]; rfl
  · rw [if_neg he, if_neg he]; rfl
theorem three (l : List Int) (at0 : Int) : (∃ a b c n, nums l 3 at0 = some ([a, b, c], n) ∧ rtime l at0 0 = (a, b, (rtime l at0 0).2.2.1, 0) ∧ rint l (rtime l at0 0).2.2.1 0 = (c, n, 0)) ∨ (nums l 3 at0 = none ∧ (rint l (rtime l at0 0).2.2.1 (rtime l at0 0).2.2.2).2.2 = 6) := by
  rw [show (3 : Nat) = 2 + 1 from rfl, nums_add]
  rcases rtime_two l at0 with ⟨a, b, n, h1, h2⟩ | ⟨h1, h2⟩
  · rw [h1, h2]
    simp only [Option.bind_some]
    rcases rint_one l n with ⟨c, m, h3, h4⟩ | ⟨h3, h4⟩
    · rw [h3, h4]; exact .inl ⟨a, b, c, m, rfl, rfl, rfl⟩
    · rw [h3, h4]; exact .inr ⟨rfl, rfl⟩
  · rw [h1, h2, rint_bad l _ 6 (by decide)]
    exact .inr ⟨rfl, rfl⟩
theorem b4_1 : (Go.bits .and .i64 4 1 > 0) = False := by simp only [eq_iff_iff, iff_true, iff_false]; decide +kernel
theorem b4_2 : (Go.bits .and .i64 4 2 > 0) = False := by simp only [eq_iff_iff, iff_true, iff_false]; decide +kernel
theorem b4_4 : (Go.bits .and .i64 4 4 > 0) = True := by simp only [eq_iff_iff, iff_true, iff_false]; decide +kernel
theorem b4_8 : (Go.bits .and .i64 4 8 > 0) = False := by simp only [eq_iff_iff, iff_true, iff_false]; decide +kernel
theorem b4_16 : (Go.bits .and .i64 4 16 > 0) = False := by simp only [eq_iff_iff, iff_true, iff_false]; decide +kernel
theorem b4_32 : (Go.bits .and .i64 4 32 > 0) = False := by simp only [eq_iff_iff, iff_true, iff_false]; decide +kernel
theorem b9_1 : (Go.bits .and .i64 9 1 > 0) = True := by simp only [eq_iff_iff, iff_true, iff_false]; decide +kernel
theorem b9_2 : (Go.bits .and .i64 9 2 > 0) = False := by simp only [eq_iff_iff, iff_true, iff_false]; decide +kernel
theorem b9_4 : (Go.bits .and .i64 9 4 > 0) = False := by simp only [eq_iff_iff, iff_true, iff_false]; decide +kernel
theorem b9_8 : (Go.bits .and .i64 9 8 > 0) = True := by simp only [eq_iff_iff, iff_true, iff_false]; decide +kernel
theorem b9_16 : (Go.bits .and .i64 9 16 > 0) = False := by simp only [eq_iff_iff, iff_true, iff_false]; decide +kernel
theorem b9_32 : (Go.bits .and .i64 9 32 > 0) = False := by simp only [eq_iff_iff, iff_true, iff_false]; decide +kernel
theorem b33_1 : (Go.bits .and .i64 33 1 > 0) = True := by simp only [eq_iff_iff, iff_true, iff_false]; decide +kernel
theorem b33_2 : (Go.bits .and .i64 33 2 > 0) = False := by simp only [eq_iff_iff, iff_true, iff_false]; decide +kernel
theorem b33_4 : (Go.bits .and .i64 33 4 > 0) = False := by simp only [eq_iff_iff, iff_true, iff_false]; decide +kernel
theorem b33_8 : (Go.bits .and .i64 33 8 > 0) = False := by simp only [eq_iff_iff, iff_true, iff_false]; decide +kernel
theorem b33_16 : (Go.bits .and .i64 33 16 > 0) = False := by simp only [eq_iff_iff, iff_true, iff_false]; decide +kernel
theorem b33_32 : (Go.bits .and .i64 33 32 > 0) = True := by simp only [eq_iff_iff, iff_true, iff_false]; decide +kernel
theorem b3_1 : (Go.bits .and .i64 3 1 > 0) = True := by simp only [eq_iff_iff, iff_true, iff_false]; decide +kernel
theorem b3_2 : (Go.bits .and .i64 3 2 > 0) = True := by simp only [eq_iff_iff, iff_true, iff_false]; decide +kernel
theorem b3_4 : (Go.bits .and .i64 3 4 > 0) = False := by simp only [eq_iff_iff, iff_true, iff_false]; decide +kernel
theorem b3_8 : (Go.bits .and .i64 3 8 > 0) = False := by simp only [eq_iff_iff, iff_true, iff_false]; decide +kernel
theorem b3_16 : (Go.bits .and .i64 3 16 > 0) = False := by simp only [eq_iff_iff, iff_true, iff_false]; decide +kernel
theorem b3_32 : (Go.bits .and .i64 3 32 > 0) = False := by simp only [eq_iff_iff, iff_true, iff_false]; decide +kernel
theorem b17_1 : (Go.bits .and .i64 17 1 > 0) = True := by simp only [eq_iff_iff, iff_true, iff_false]; decide +kernel
theorem b17_2 : (Go.bits .and .i64 17 2 > 0) = False := by simp only [eq_iff_iff, iff_true, iff_false]; decide +kernel
theorem b17_4 : (Go.bits .and .i64 17 4 > 0) = False := by simp only [eq_iff_iff, iff_true, iff_false]; decide +kernel
theorem b17_8 : (Go.bits .and .i64 17 8 > 0) = False := by simp only [eq_iff_iff, iff_true, iff_false]; decide +kernel
theorem b17_16 : (Go.bits .and .i64 17 16 > 0) = True := by simp only [eq_iff_iff, iff_true, iff_false]; decide +kernel
theorem b17_32 : (Go.bits .and .i64 17 32 > 0) = False := by simp only [eq_iff_iff, iff_true, iff_false]; decide +kernel
theorem b1_1 : (Go.bits .and .i64 1 1 > 0) = True := by simp only [eq_iff_iff, iff_true, iff_false]; decide +kernel
theorem b1_2 : (Go.bits .and .i64 1 2 > 0) = False := by simp only [eq_iff_iff, iff_true, iff_false]; decide +kernel
theorem b1_4 : (Go.bits .and .i64 1 4 > 0) = False := by simp only [eq_iff_iff, iff_true, iff_false]; decide +kernel
theorem b1_8 : (Go.bits .and .i64 1 8 > 0) = False := by simp only [eq_iff_iff, iff_true, iff_false]; decide +kernel
theorem b1_16 : (Go.bits .and .i64 1 16 > 0) = False := by simp only [eq_iff_iff, iff_true, iff_false]; decide +kernel
theorem b1_32 : (Go.bits .and .i64 1 32 > 0) = False := by simp only [eq_iff_iff, iff_true, iff_false]; decide +kernel
/-- The program's answer. -/
theorem cget_f {k : Nat} (l : List Int) (hl : ∀ x ∈ l, 0 ≤ x ∧ x < 256) (hc : l.length + 10 ≤ capN) (at0 : Int) (hk : 2 * l.length + 200 ≤ k) : wire_Get.f k l at0 = some (cget l at0) := by
  have hcc := cap_lt (Nat.le_trans (Nat.le_add_right _ _) hc)
  have hr := rd_byte l hl at0
  obtain ⟨k, rfl⟩ : ∃ n, k = n + 6 := ⟨k - 6, by omega⟩
  unfold wire_Get.f cget
  by_cases h1 : at0 < 0
  · rw [if_pos h1, if_pos (.inl h1)]; simp only [wire_Get.j0]; rfl
  rw [if_neg h1]
  by_cases h2 : (l.length : Int) < at0
  · rw [if_pos (.inr h2), decide_eq_true (show at0 > (l.length : Int) from h2)]; simp only [wire_Get.j0]; rfl
  rw [if_neg (show ¬ (at0 < 0 ∨ (l.length : Int) < at0) by omega), decide_eq_false (show ¬ at0 > (l.length : Int) from h2)]
  simp only [wire_Get.j0]
  rw [if_neg (show ¬ (false = true) by decide)]
  by_cases h3 : at0 = (l.length : Int)
  · rw [if_pos h3, if_pos (.inl h3)]; rfl
  rw [if_neg h3, if_pos (show 0 ≤ at0 by omega), if_pos (show at0 < (l.length : Int) by omega), wrap_in (rd l at0) (by omega) (by omega), wrap_in (at0 + 1) (by omega) (by omega), uses_f _ (by omega)]
  simp only [Option.bind_some]
  generalize hd : rd l at0 = d at hr ⊢
  by_cases h4 : 6 < d
  · have hu : useOf d = 0 := by
      unfold useOf
      rw [if_neg (by omega), if_neg (by omega), if_neg (by omega), if_neg (by omega), if_neg (by omega), if_neg (by omega)]
    rw [if_pos hu, if_pos (.inr h4)]; rfl
  rw [if_neg (show ¬ (at0 = (l.length : Int) ∨ 6 < d) by omega)]
  have hone : d ≠ 0 → (rint l (at0 + 1) 0 = (0, at0 + 1, 6) ∧ nums l 1 (at0 + 1) = none) ∨ ∃ a n, rint l (at0 + 1) 0 = (a, n, 0) ∧ nums l 1 (at0 + 1) = some ([a], n) := fun _ => by
    rcases rint_one l (at0 + 1) with ⟨a, n, x, y⟩ | ⟨x, y⟩
    · exact .inr ⟨a, n, y, x⟩
    · exact .inl ⟨y, x⟩
  rcases (show d = 0 ∨ d = 1 ∨ d = 2 ∨ d = 3 ∨ d = 4 ∨ d = 5 ∨ d = 6 by omega) with e | e | e | e | e | e | e
  · subst e
    rw [show useOf 0 = 4 from rfl]
    simp only [wire_Get.j1, wire_Get.j2, wire_Get.j3, wire_Get.j4, wire_Get.j5, b4_1, b4_2, b4_4, b4_8, b4_16, b4_32, if_true, if_false]
    rw [if_neg (by decide), gtext_f l hl (at0 + 1) 65536 (by omega) hc (by decide) (by decide)]
    simp only [Option.bind_some, wire_keep_string.f, if_true]
    by_cases h6 : (gtext l (at0 + 1) 65536).2.2 = 0
    · rw [if_pos h6, if_pos h6]
      simp only [Option.bind_some]
      rw [main_f _ (gtext_size l _ _ hc)]
      rfl
    · rw [if_neg h6, if_neg h6]
      simp only [Option.bind_some]
      rw [main_f _ (by decide)]
      rfl
  all_goals rcases hone (by omega) with ⟨hx, hq⟩ | ⟨a, n, hx, hq⟩
  · subst e
    rw [show useOf 1 = 9 from rfl, hq]
    simp only [wire_Get.j1, wire_Get.j2, wire_Get.j3, wire_Get.j4, wire_Get.j5, b9_1, b9_2, b9_4, b9_8, b9_16, b9_32, if_true, if_false]
    rw [if_neg (by decide), rint_f l hl _ _ (by omega) hc, hx]
    simp only [Option.bind_some]
    rw [up_f l hl hc _ _ (by omega)]
    rfl
  · subst e
    rw [show useOf 1 = 9 from rfl, hq]
    simp only [wire_Get.j1, wire_Get.j2, wire_Get.j3, wire_Get.j4, wire_Get.j5, b9_1, b9_2, b9_4, b9_8, b9_16, b9_32, if_true, if_false]
    rw [if_neg (by decide), rint_f l hl _ _ (by omega) hc, hx]
    simp only [Option.bind_some]
    rw [up_f l hl hc _ _ (by omega), if_pos rfl]
    simp only [Option.bind_some]
    by_cases h7 : (rget l n).2.2 = 0
    · rw [if_pos h7, if_pos h7]
      rcases three l (rget l n).2.1 with ⟨x, y, z, m, t1, t2, t3⟩ | ⟨t1, t2⟩
      · rw [t1]
        have t4 := congrArg (fun q => q.1) t2
        have t5 := congrArg (fun q => q.2.1) t2
        have t6 := congrArg (fun q => q.2.2.2) t2
        simp only at t4 t5 t6
        rw [t4, t5, t6, t3]
        rfl
      · rw [t1]
        simp only
        rw [t2]
        rfl
    · rw [if_neg h7, if_neg h7]
      rfl
  · subst e
    rw [show useOf 2 = 33 from rfl, hq]
    simp only [wire_Get.j1, wire_Get.j2, wire_Get.j3, wire_Get.j4, wire_Get.j5, b33_1, b33_2, b33_4, b33_8, b33_16, b33_32, if_true, if_false]
    rw [if_neg (by decide), rint_f l hl _ _ (by omega) hc, hx]
    simp only [Option.bind_some]
    rw [front_f l hl hc _ _ (by omega)]
    rfl
  · subst e
    rw [show useOf 2 = 33 from rfl, hq]
    simp only [wire_Get.j1, wire_Get.j2, wire_Get.j3, wire_Get.j4, wire_Get.j5, b33_1, b33_2, b33_4, b33_8, b33_16, b33_32, if_true, if_false]
    rw [if_neg (by decide), rint_f l hl _ _ (by omega) hc, hx]
    simp only [Option.bind_some]
    rw [front_f l hl hc _ _ (by omega), if_pos rfl]
    by_cases h7 : (gfront l n).2.2 = 0
    · rw [if_pos h7, if_pos h7]; rfl
    · rw [if_neg h7, if_neg h7]; rfl
  · subst e
    rw [show useOf 3 = 3 from rfl, hq]
    simp only [wire_Get.j1, wire_Get.j2, wire_Get.j3, wire_Get.j4, wire_Get.j5, b3_1, b3_2, b3_4, b3_8, b3_16, b3_32, if_true, if_false]
    rw [if_neg (by decide), rint_f l hl _ _ (by omega) hc, hx]
    simp only [Option.bind_some]
    rw [rint_f l hl _ _ (by omega) hc, rint_bad l _ 6 (by decide)]
    rfl
  · subst e
    rw [show useOf 3 = 3 from rfl, hq]
    simp only [wire_Get.j1, wire_Get.j2, wire_Get.j3, wire_Get.j4, wire_Get.j5, b3_1, b3_2, b3_4, b3_8, b3_16, b3_32, if_true, if_false]
    rw [if_neg (by decide), rint_f l hl _ _ (by omega) hc, hx]
    simp only [Option.bind_some]
    rw [rint_f l hl _ _ (by omega) hc]
    rcases rint_one l n with ⟨b, m, t1, t2⟩ | ⟨t1, t2⟩
    · rw [t1, t2]; rfl
    · rw [t1, t2]; rfl
  · subst e
    rw [show useOf 4 = 33 from rfl, hq]
    simp only [wire_Get.j1, wire_Get.j2, wire_Get.j3, wire_Get.j4, wire_Get.j5, b33_1, b33_2, b33_4, b33_8, b33_16, b33_32, if_true, if_false]
    rw [if_neg (by decide), rint_f l hl _ _ (by omega) hc, hx]
    simp only [Option.bind_some]
    rw [front_f l hl hc _ _ (by omega)]
    rfl
  · subst e
    rw [show useOf 4 = 33 from rfl, hq]
    simp only [wire_Get.j1, wire_Get.j2, wire_Get.j3, wire_Get.j4, wire_Get.j5, b33_1, b33_2, b33_4, b33_8, b33_16, b33_32, if_true, if_false]
    rw [if_neg (by decide), rint_f l hl _ _ (by omega) hc, hx]
    simp only [Option.bind_some]
    rw [front_f l hl hc _ _ (by omega), if_pos rfl]
    by_cases h7 : (gfront l n).2.2 = 0
    · rw [if_pos h7, if_pos h7]; rfl
    · rw [if_neg h7, if_neg h7]; rfl
  · subst e
    rw [show useOf 5 = 17 from rfl, hq]
    simp only [wire_Get.j1, wire_Get.j2, wire_Get.j3, wire_Get.j4, wire_Get.j5, b17_1, b17_2, b17_4, b17_8, b17_16, b17_32, if_true, if_false]
    rw [if_neg (by decide), rint_f l hl _ _ (by omega) hc, hx]
    simp only [Option.bind_some]
    rw [rtime_f l hl _ _ (by omega) hc, rtime_bad l _ 6 (by decide)]
    rfl
  · subst e
    rw [show useOf 5 = 17 from rfl, hq]
    simp only [wire_Get.j1, wire_Get.j2, wire_Get.j3, wire_Get.j4, wire_Get.j5, b17_1, b17_2, b17_4, b17_8, b17_16, b17_32, if_true, if_false]
    rw [if_neg (by decide), rint_f l hl _ _ (by omega) hc, hx]
    simp only [Option.bind_some]
    rw [rtime_f l hl _ _ (by omega) hc]
    rcases rtime_two l n with ⟨b, c, m, t1, t2⟩ | ⟨t1, t2⟩
    · rw [t1, t2]; rfl
    · rw [t1]
      simp only [Option.bind_some]
      rw [t2]
      rfl
  · subst e
    rw [show useOf 6 = 1 from rfl, hq]
    simp only [wire_Get.j1, wire_Get.j2, wire_Get.j3, wire_Get.j4, wire_Get.j5, b1_1, b1_2, b1_4, b1_8, b1_16, b1_32, if_true, if_false]
    rw [if_neg (by decide), rint_f l hl _ _ (by omega) hc, hx]
    rfl
  · subst e
    rw [show useOf 6 = 1 from rfl, hq]
    simp only [wire_Get.j1, wire_Get.j2, wire_Get.j3, wire_Get.j4, wire_Get.j5, b1_1, b1_2, b1_4, b1_8, b1_16, b1_32, if_true, if_false]
    rw [if_neg (by decide), rint_f l hl _ _ (by omega) hc, hx]
    rfl
theorem RSame_refl {k : Nat} (l : List S103) (hm : l.length ≤ 1000) (hk : 2 * l.length + 2 < k) : runnelref03_Same.f k l l = some true := by
  have hx : (1000 : Nat) ≤ maxLen := by unfold maxLen; omega
  unfold runnelref03_Same.f
  rw [ROrder_f l l (by omega) hk, ord_ok.refl]
  rfl
theorem CSame_l0 (l : List S40) (hl : l.length ≤ 10000) (h : ∀ x ∈ l, x.f2.f0.length ≤ 1000 ∧ x.f3.length ≤ 1000) (d : Nat) : ∀ (k i : Nat), i + d = l.length → 3000 + d < k → runnelref26_Same.l0 k l l (i : Int) = some true := by
  induction d with
  | zero =>
    intro k i hi hk
    obtain ⟨k, rfl⟩ : ∃ n, k = n + 1 := ⟨k - 1, by omega⟩
    simp only [runnelref26_Same.l0]
    rw [if_neg (by omega)]
  | succ d ih =>
    intro k i hi hk
    obtain ⟨k, rfl⟩ : ∃ n, k = n + 1 := ⟨k - 1, by omega⟩
    have hil : i < l.length := by omega
    have hx := h _ (List.getElem_mem hil)
    have hrd : rd_T40 l (i : Int) = l[i] := by unfold rd_T40; rw [Int.toNat_natCast, List.getD_eq_getElem?_getD, List.getElem?_eq_getElem hil]; rfl
    simp only [runnelref26_Same.l0]
    rw [if_pos (by omega), if_pos (by omega), if_pos (by omega), if_pos trivial, if_pos trivial, if_pos trivial, if_pos trivial, hrd, RSame_refl _ hx.1 (by omega)]
    simp only [Option.bind_some]
    rw [if_pos trivial, if_neg (by simp), if_pos trivial, TSame_refl _ (by omega) (by omega)]
    simp only [Option.bind_some]
    rw [if_pos trivial, wrap_in _ (by omega) (by omega), show ((i : Int) + 1) = ((i + 1 : Nat) : Int) by omega]
    exact ih k (i + 1) (by omega) (by omega)
theorem CSame_refl {k : Nat} (l : List S40) (hl : l.length ≤ 10000) (h : ∀ x ∈ l, x.f2.f0.length ≤ 1000 ∧ x.f3.length ≤ 1000) (hk : 3000 + l.length < k) (b : Bool) : runnelref26_Same.f k l l b = some true := by
  unfold runnelref26_Same.f
  rw [if_pos rfl]
  exact CSame_l0 l hl h l.length k 0 (by omega) hk
/-- What a command's fields are, as Go has them. -/
structure cok (c : S40) : Prop where
  node : -9223372036854775808 ≤ c.f1 ∧ c.f1 ≤ 9223372036854775807
  fuel : -9223372036854775808 ≤ c.f4 ∧ c.f4 ≤ 9223372036854775807
  diff : -9223372036854775808 ≤ c.f2.f2 ∧ c.f2.f2 ≤ 9223372036854775807
  time : tok c.f2.f1
  rowl : c.f2.f0.length ≤ 30
  row : ∀ x ∈ c.f2.f0, (Lit.int .i64 x.f1).wf = true
  frontl : c.f3.length ≤ 30
  front : ∀ t ∈ c.f3, tok t
  sheetl : c.f5.length ≤ 70000
  sheet : ∀ x ∈ c.f5, 0 ≤ x ∧ x < 256
/-- P26.1: what is wrong with a command. -/
def cchk (c : S40) : Int :=
  if c.f0 < 0 ∨ 6 < c.f0 then 8 else if c.f0 = 0 ∧ 65536 < (c.f5.length : Int) then 2
  else if (c.f0 = 2 ∨ c.f0 = 4) ∧ 16 < (c.f3.length : Int) then 3 else if c.f0 = 1 then chk c.f2.f0 else 0
/-- P26.2: a command's bytes. -/
def cbytes (c : S40) : List Int :=
  c.f0 :: (if c.f0 = 0 then txt (strOfNums c.f5) else one c.f1 ++ (if c.f0 = 1 then rbytes c.f2.f0 ++ (titem c.f2.f1 ++ one c.f2.f2) else if c.f0 = 2 ∨ c.f0 = 4 then tfront c.f3 else if c.f0 = 3 then one c.f4 else if c.f0 = 5 then titem c.f2.f1 else []))
theorem maxLen_big : (100000 : Nat) ≤ maxLen := by unfold maxLen; omega
theorem wcheck_f {k : Nat} (c : S40) (hc : cok c) (hk : 60 ≤ k) : wire_Check.f k c.f0 c.f1 c.f2.f0 c.f2.f1.f0 c.f2.f1.f1 c.f2.f2 c.f3 c.f4 c.f5 = some (cchk c) := by
  have hm := maxLen_big
  have h1 := hc.rowl
  obtain ⟨k, rfl⟩ : ∃ n, k = n + 2 := ⟨k - 2, by omega⟩
  unfold wire_Check.f cchk
  rw [uses_f _ (by omega)]
  simp only [Option.bind_some]
  by_cases hr : c.f0 < 0 ∨ 6 < c.f0
  · rw [if_pos hr, if_pos (by unfold useOf; rw [if_neg (by omega), if_neg (by omega), if_neg (by omega), if_neg (by omega), if_neg (by omega), if_neg (by omega)])]
  · rw [if_neg hr]
    have hrow : row_Check.f k c.f2.f0 = some (chk c.f2.f0) := Check_f _ (by omega) (by omega)
    rcases (show c.f0 = 0 ∨ c.f0 = 1 ∨ c.f0 = 2 ∨ c.f0 = 3 ∨ c.f0 = 4 ∨ c.f0 = 5 ∨ c.f0 = 6 by omega) with e | e | e | e | e | e | e
    · rw [e, show useOf 0 = 4 from rfl, if_neg (by decide)]
      by_cases h2 : 65536 < (c.f5.length : Int)
      · simp only [wire_Check.j0, b4_4, if_true, show ((c.f5.length : Int) > 65536) from h2, decide_true]
        simp [h2]
      · simp only [wire_Check.j0, wire_Check.j1, b4_4, b4_32, b4_8, if_true, if_false, show ¬ ((c.f5.length : Int) > 65536) from h2, decide_false]
        simp [h2]
    · rw [e, show useOf 1 = 9 from rfl, if_neg (by decide)]
      simp only [wire_Check.j0, wire_Check.j1, b9_4, b9_32, b9_8, if_true, if_false, hrow]
      simp
    · rw [e, show useOf 2 = 33 from rfl, if_neg (by decide)]
      by_cases h2 : 16 < (c.f3.length : Int)
      · simp only [wire_Check.j0, wire_Check.j1, b33_4, b33_32, b33_8, if_true, if_false, show ((c.f3.length : Int) > 16) from h2, decide_true]
        simp [h2]
      · simp only [wire_Check.j0, wire_Check.j1, b33_4, b33_32, b33_8, if_true, if_false, show ¬ ((c.f3.length : Int) > 16) from h2, decide_false]
        simp [h2]
    · rw [e, show useOf 3 = 3 from rfl, if_neg (by decide)]
      simp only [wire_Check.j0, wire_Check.j1, b3_4, b3_32, b3_8, if_true, if_false]
      simp
    · rw [e, show useOf 4 = 33 from rfl, if_neg (by decide)]
      by_cases h2 : 16 < (c.f3.length : Int)
      · simp only [wire_Check.j0, wire_Check.j1, b33_4, b33_32, b33_8, if_true, if_false, show ((c.f3.length : Int) > 16) from h2, decide_true]
        simp [h2]
      · simp only [wire_Check.j0, wire_Check.j1, b33_4, b33_32, b33_8, if_true, if_false, show ¬ ((c.f3.length : Int) > 16) from h2, decide_false]
        simp [h2]
    · rw [e, show useOf 5 = 17 from rfl, if_neg (by decide)]
      simp only [wire_Check.j0, wire_Check.j1, b17_4, b17_32, b17_8, if_true, if_false]
      simp
    · rw [e, show useOf 6 = 1 from rfl, if_neg (by decide)]
      simp only [wire_Check.j0, wire_Check.j1, b1_4, b1_32, b1_8, if_true, if_false]
      simp
theorem cchk_ok (c : S40) (hc : cok c) (h : cchk c = 0) : (0 ≤ c.f0 ∧ c.f0 ≤ 6) ∧ (c.f0 = 0 → c.f5.length ≤ 65536) ∧ (c.f0 = 2 ∨ c.f0 = 4 → c.f3.length ≤ 16) ∧ (c.f0 = 1 → chk c.f2.f0 = 0) := by
  unfold cchk at h
  split at h
  · cases h
  · split at h
    · cases h
    · split at h
      · cases h
      · split at h
        · exact ⟨by omega, by omega, by omega, fun _ => h⟩
        · exact ⟨by omega, by omega, by omega, by omega⟩
theorem txt_len (s : ByteArray) (h : s.size < 18446744073709551616) : (txt s).length ≤ 10 + s.size := by
  have h10 := enc_ten h
  have hb : (bytesOf s).length = s.size := by unfold bytesOf; simp
  unfold txt
  rw [List.length_append, hb]
  omega
theorem cbytes_length (c : S40) (hc : cok c) (h : cchk c = 0) : (cbytes c).length ≤ 71000 := by
  obtain ⟨h0, h5, h3, h1⟩ := cchk_ok c hc h
  have hs := hc.sheetl
  have hf := hc.frontl
  have a1 := one_length c.f1 hc.node.1 hc.node.2
  unfold cbytes
  rw [List.length_cons]
  split
  · have := txt_len (strOfNums c.f5) (by rw [strOfNums_size]; omega)
    rw [strOfNums_size] at this
    omega
  · rw [List.length_append]
    split
    · rename_i e
      obtain ⟨h16, hg⟩ := chk_good _ (h1 e) hc.row
      have b1 := rbytes_length c.f2.f0 h16 hg
      have b2 := titem_length _ hc.time
      have b3 := one_length _ hc.diff.1 hc.diff.2
      rw [List.length_append, List.length_append]
      omega
    · split
      · have := tfront_length c.f3 (by omega) hc.front
        omega
      · split
        · have := one_length _ hc.fuel.1 hc.fuel.2
          omega
        · split
          · have := titem_length _ hc.time
            omega
          · rw [List.length_nil]; omega
theorem wput_f {k : Nat} (b : List Int) (c : S40) (hc : cok c) (hk : 120 ≤ k) (hb : b.length ≤ 800000000) :
    wire_Put.f k b c.f0 c.f1 c.f2.f0 c.f2.f1.f0 c.f2.f1.f1 c.f2.f2 c.f3 c.f4 c.f5 = some (if cchk c = 0 then (b ++ cbytes c, 0) else ([], cchk c)) := by
  have hm := maxLen_big
  have hcg := cap_ge
  have h1 := hc.rowl
  have hfl := hc.frontl
  have hsl := hc.sheetl
  obtain ⟨k, rfl⟩ : ∃ n, k = n + 5 := ⟨k - 5, by omega⟩
  unfold wire_Put.f
  rw [wcheck_f c hc (by omega)]
  simp only [Option.bind_some]
  by_cases h : cchk c = 0
  · obtain ⟨h0, h5, h3, hr⟩ := cchk_ok c hc h
    rw [if_pos h, if_pos h, uses_f _ (by omega)]
    simp only [Option.bind_some, slices_Clone_byte_byte.f, List.nil_append, List.length_nil, Nat.zero_add]
    rw [if_pos (by omega)]
    simp only [Option.bind_some]
    rw [if_pos (by simp; omega), show c.f0 % 256 = c.f0 by omega]
    have hbl : (b ++ [c.f0]).length = b.length + 1 := by simp
    have hn1 := one_length c.f1 hc.node.1 hc.node.2
    have hnode : num_PutInt.f (k + 5) (b ++ [c.f0]) c.f1 = some ((b ++ [c.f0]) ++ one c.f1) := PutInt_f _ _ hc.node.1 hc.node.2 (by omega) (by omega)
    have hnl : ((b ++ [c.f0]) ++ one c.f1).length ≤ b.length + 11 := by rw [List.length_append]; omega
    generalize hN : (b ++ [c.f0]) ++ one c.f1 = N at hnode hnl
    have hNe : ∀ x : List Int, c.f0 ≠ 0 → N ++ (if c.f0 = 1 then rbytes c.f2.f0 ++ (titem c.f2.f1 ++ one c.f2.f2) else if c.f0 = 2 ∨ c.f0 = 4 then tfront c.f3 else if c.f0 = 3 then one c.f4 else if c.f0 = 5 then titem c.f2.f1 else []) = b ++ cbytes c := by
      intro _ hne
      rw [← hN, cbytes, if_neg hne]
      simp
    rcases (show c.f0 = 0 ∨ c.f0 = 1 ∨ c.f0 = 2 ∨ c.f0 = 3 ∨ c.f0 = 4 ∨ c.f0 = 5 ∨ c.f0 = 6 by omega) with e | e | e | e | e | e | e
    · have hE : b ++ [c.f0] ++ txt (strOfNums c.f5) = b ++ cbytes c := by rw [cbytes, if_pos e]; simp
      have hP := PutText_f (k := k + 3) (b ++ [c.f0]) (strOfNums c.f5) (by omega) (by rw [strOfNums_size, hbl]; omega)
      rw [e] at hE hP ⊢
      simp only [show useOf 0 = 4 from rfl, wire_Put.j0, wire_Put.j1, wire_Put.j2, wire_Put.j3, b4_1, b4_2, b4_4, b4_8, b4_16, b4_32, if_true, if_false, hP, Option.bind_some, hE]
    · have hx := hNe [] (by omega)
      have hR := rput_f (k := k + 2) N c.f2.f0 (by omega) hc.row (by omega) (by omega)
      obtain ⟨h16, hg⟩ := chk_good _ (hr e) hc.row
      have b1 := rbytes_length c.f2.f0 h16 hg
      have b2 := titem_length _ hc.time
      have hT := putTime_f (k := k + 2) (N ++ rbytes c.f2.f0) c.f2.f1 hc.time (by omega) (by rw [List.length_append]; omega)
      have hD : num_PutInt.f (k + 2) (N ++ rbytes c.f2.f0 ++ titem c.f2.f1) c.f2.f2 = some (N ++ rbytes c.f2.f0 ++ titem c.f2.f1 ++ one c.f2.f2) := PutInt_f _ _ hc.diff.1 hc.diff.2 (by omega) (by rw [List.length_append, List.length_append]; omega)
      rw [if_pos (hr e)] at hR
      rw [if_pos e] at hx
      rw [e] at hnode ⊢
      simp only [show useOf 1 = 9 from rfl, wire_Put.j0, wire_Put.j1, wire_Put.j2, wire_Put.j3, b9_1, b9_2, b9_4, b9_8, b9_16, b9_32, if_true, if_false, hnode, Option.bind_some, hR, hT, hD]
      rw [← hx]
      simp
    · have hx := hNe [] (by omega)
      have hF := PutFront_f (k := k + 1) N c.f3 (by omega) hc.front (by omega) (by omega)
      rw [if_neg (by omega), if_pos (.inl e)] at hx
      rw [e] at hnode ⊢
      simp only [show useOf 2 = 33 from rfl, wire_Put.j0, wire_Put.j1, wire_Put.j2, wire_Put.j3, b33_1, b33_2, b33_4, b33_8, b33_16, b33_32, if_true, if_false, hnode, Option.bind_some, hF, hx]
    · have hx := hNe [] (by omega)
      have hF : num_PutInt.f (k + 4) N c.f4 = some (N ++ one c.f4) := PutInt_f _ _ hc.fuel.1 hc.fuel.2 (by omega) (by omega)
      rw [if_neg (by omega), if_neg (by omega), if_pos e] at hx
      rw [e] at hnode ⊢
      simp only [show useOf 3 = 3 from rfl, wire_Put.j0, wire_Put.j1, wire_Put.j2, wire_Put.j3, b3_1, b3_2, b3_4, b3_8, b3_16, b3_32, if_true, if_false, hnode, Option.bind_some, hF, hx]
    · have hx := hNe [] (by omega)
      have hF := PutFront_f (k := k + 1) N c.f3 (by omega) hc.front (by omega) (by omega)
      rw [if_neg (by omega), if_pos (.inr e)] at hx
      rw [e] at hnode ⊢
      simp only [show useOf 4 = 33 from rfl, wire_Put.j0, wire_Put.j1, wire_Put.j2, wire_Put.j3, b33_1, b33_2, b33_4, b33_8, b33_16, b33_32, if_true, if_false, hnode, Option.bind_some, hF, hx]
    · have hx := hNe [] (by omega)
      have hT := putTime_f (k := k + 1) N c.f2.f1 hc.time (by omega) (by omega)
      rw [if_neg (by omega), if_neg (by omega), if_neg (by omega), if_pos e] at hx
      rw [e] at hnode ⊢
      simp only [show useOf 5 = 17 from rfl, wire_Put.j0, wire_Put.j1, wire_Put.j2, wire_Put.j3, b17_1, b17_2, b17_4, b17_8, b17_16, b17_32, if_true, if_false, hnode, Option.bind_some, hT, hx]
    · have hx := hNe [] (by omega)
      rw [if_neg (by omega), if_neg (by omega), if_neg (by omega), if_neg (by omega), List.append_nil] at hx
      rw [e] at hnode ⊢
      simp only [show useOf 6 = 1 from rfl, wire_Put.j0, wire_Put.j1, wire_Put.j2, wire_Put.j3, b1_1, b1_2, b1_4, b1_8, b1_16, b1_32, if_true, if_false, hnode, Option.bind_some, hx]
  · rw [if_neg h, if_neg h]
theorem bytes_str (l : List Int) (hl : ∀ x ∈ l, 0 ≤ x ∧ x < 256) : bytesOf (strOfNums l) = l := by
  apply str_inj (bytesOf_byte _) hl
  rw [str_bytesOf, str_of]
theorem rdc_at (l : List S40) (i : Nat) (h : i < l.length) : rd_T40 l (i : Int) = l[i] := by unfold rd_T40; rw [Int.toNat_natCast, List.getD_eq_getElem?_getD, List.getElem?_eq_getElem h]; rfl
/-- P26.3: what is wrong with commands: the first one's fault. -/
def cerr : List S40 → Int
  | [] => 0
  | c :: t => if cchk c = 0 then cerr t else cchk c
def cbl : List S40 → List Int
  | [] => []
  | c :: t => cbytes c ++ cbl t
/-- P26.3. -/
def cenc (l : List S40) : List Int × Int := if cerr l = 0 then (enc l.length ++ cbl l, 0) else ([], cerr l)
theorem Enc_l0 (l : List S40) (hm : l.length ≤ 5000) (hg : ∀ c ∈ l, cok c) (d : Nat) : ∀ (k i : Nat) (acc : List Int), i + d = l.length → d + 130 < k → acc.length + 71000 * d ≤ 800000000 →
    wire_Encode.l0 k acc l (l.length : Int) (i : Int) = some (if cerr (l.drop i) = 0 then (acc ++ cbl (l.drop i), 0) else ([], cerr (l.drop i))) := by
  induction d with
  | zero =>
    intro k i acc hi hk _
    obtain ⟨k, rfl⟩ : ∃ n, k = n + 1 := ⟨k - 1, by omega⟩
    simp only [wire_Encode.l0]
    rw [if_neg (by omega), List.drop_of_length_le (by omega), cerr, if_pos rfl, cbl, List.append_nil]
  | succ d ih =>
    intro k i acc hi hk hc
    obtain ⟨k, rfl⟩ : ∃ n, k = n + 1 := ⟨k - 1, by omega⟩
    have hi' : i < l.length := by omega
    have hx := hg l[i] (List.getElem_mem _)
    simp only [wire_Encode.l0]
    rw [if_pos (by omega), if_pos (by omega), if_pos (by omega), rdc_at l i hi', wput_f acc _ hx (by omega) (by omega), List.drop_eq_getElem_cons hi', cerr, cbl]
    simp only [Option.bind_some]
    by_cases h : cchk l[i] = 0
    · have hl := cbytes_length _ hx h
      rw [if_pos h, if_pos h]
      simp only
      rw [if_pos trivial, wrap_in _ (by omega) (by omega), show ((i : Int) + 1) = ((i + 1 : Nat) : Int) by omega, ih k (i + 1) _ (by omega) (by omega) (by rw [List.length_append]; omega), List.append_assoc]
    · rw [if_neg h, if_neg h]
      simp only
      rw [if_neg h, if_neg h]
theorem Enc_f {k : Nat} (l : List S40) (hm : l.length ≤ 4096) (hg : ∀ c ∈ l, cok c) (hk : 5000 ≤ k) : wire_Encode.f k l = some (cenc l) := by
  have hcg := cap_ge
  have h10 := enc_ten (n := l.length) (by omega)
  unfold wire_Encode.f
  rw [if_neg (by omega), u64_in _ (by omega) (by omega), Put_f [] (by omega) (by omega) (by simp; omega)]
  simp only [Option.bind_some, List.nil_append]
  have h := Enc_l0 l (by omega) hg l.length k 0 (enc l.length) (by omega) (by omega) (by omega)
  rw [show ((0 : Nat) : Int) = 0 from rfl, List.drop_zero] at h
  rw [h, cenc]
/-- What was read is what would be written: a number. -/
theorem get_back (l : List Int) (hl : ∀ x ∈ l, 0 ≤ x ∧ x < 256) (a : Int) (h : (NumPure.get l a).2.2 = 0) : ∃ (m : Nat) (p r : List Int), m < 18446744073709551616 ∧ l = p ++ (enc m ++ r) ∧ a = (p.length : Int) ∧ NumPure.get l a = ((m : Int), ((p.length + (enc m).length : Nat) : Int), 0) := by
  rcases get_ok l hl a with ⟨ho, _⟩ | ⟨ho, _⟩ | h2
  · rw [ho] at h; cases h
  · rw [ho] at h; cases h
  · exact h2
/-- 'l' has 'x' at the place 'a'. -/
def At (l : List Int) (a : Int) (x : List Int) (b : Int) : Prop := ∃ p r : List Int, l = p ++ (x ++ r) ∧ a = (p.length : Int) ∧ b = ((p.length + x.length : Nat) : Int)
theorem At.trans {l : List Int} {a b c : Int} {x y : List Int} (h : At l a x b) (h2 : At l b y c) : At l a (x ++ y) c := by
  obtain ⟨p, r, e1, e2, e3⟩ := h
  obtain ⟨p', r', f1, f2, f3⟩ := h2
  have hp : p' = p ++ x := by
    have hlen : p'.length = (p ++ x).length := by rw [List.length_append]; omega
    have h4 : p' ++ (y ++ r') = (p ++ x) ++ r := by rw [← f1, e1, List.append_assoc]
    exact (List.append_inj h4 hlen).1
  subst hp
  have hr : r = y ++ r' := by
    have h4 : (p ++ x) ++ (y ++ r') = (p ++ x) ++ r := by rw [← f1, e1, List.append_assoc]
    exact (List.append_cancel_left h4).symm
  subst hr
  refine ⟨p, r', by rw [e1, List.append_assoc], e2, ?_⟩
  rw [f3, List.length_append, List.length_append]
  omega
theorem At.nil {l : List Int} {a : Int} (h0 : 0 ≤ a) (h : a ≤ (l.length : Int)) : At l a [] a := by
  obtain ⟨n, rfl⟩ := Int.eq_ofNat_of_zero_le h0
  refine ⟨l.take n, l.drop n, by simp, by rw [List.length_take]; omega, by rw [List.length_take]; simp; omega⟩
theorem At.lt {l : List Int} {a b : Int} {x : List Int} (h : At l a x b) : 0 ≤ a ∧ a ≤ b ∧ b ≤ (l.length : Int) := by
  obtain ⟨p, r, e1, e2, e3⟩ := h
  have : l.length = p.length + (x.length + r.length) := by rw [e1, List.length_append, List.length_append]
  omega
theorem At.byte {l : List Int} {a b : Int} {x : List Int} (h : At l a x b) (hl : ∀ y ∈ l, 0 ≤ y ∧ y < 256) : ∀ y ∈ x, 0 ≤ y ∧ y < 256 := by
  obtain ⟨p, r, e1, _, _⟩ := h
  intro y hy
  exact hl y (by rw [e1]; simp [hy])
theorem At.one {l : List Int} {a : Int} (h0 : 0 ≤ a) (h : a < (l.length : Int)) : At l a [rd l a] (a + 1) := by
  obtain ⟨n, rfl⟩ := Int.eq_ofNat_of_zero_le h0
  have hn : n < l.length := by omega
  refine ⟨l.take n, l.drop (n + 1), ?_, by rw [List.length_take]; omega, by rw [List.length_take, List.length_singleton]; omega⟩
  have : rd l (n : Int) = l[n] := by unfold rd; rw [Int.toNat_natCast, List.getD_eq_getElem?_getD, List.getElem?_eq_getElem hn]; rfl
  rw [this]
  simp
theorem zig_zag (n : Int) (h0 : 0 ≤ n) (h1 : n < 18446744073709551616) : zig (zag n) = n.toNat ∧ (-9223372036854775808 ≤ zag n ∧ zag n ≤ 9223372036854775807) := by
  unfold zig zag
  constructor
  · split <;> split <;> omega
  · split <;> omega
theorem int_back (l : List Int) (hl : ∀ x ∈ l, 0 ≤ x ∧ x < 256) (a : Int) (h : (NumPure.get l a).2.2 = 0) : At l a (one (zag (NumPure.get l a).1)) (NumPure.get l a).2.1 ∧ (-9223372036854775808 ≤ zag (NumPure.get l a).1 ∧ zag (NumPure.get l a).1 ≤ 9223372036854775807) := by
  obtain ⟨m, p, r, hm, e1, e2, e3⟩ := get_back l hl a h
  have hz := zig_zag (m : Int) (by omega) (by omega)
  rw [e3]
  refine ⟨⟨p, r, ?_, e2, ?_⟩, hz.2⟩
  · show l = p ++ (enc (zig (zag (m : Int))) ++ r)
    rw [hz.1, Int.toNat_natCast]; exact e1
  · show _ = ((p.length + (enc (zig (zag (m : Int)))).length : Nat) : Int)
    rw [hz.1, Int.toNat_natCast]
def ones : List Int → List Int
  | [] => []
  | x :: t => one x ++ ones t
theorem nums_back (l : List Int) (hl : ∀ x ∈ l, 0 ≤ x ∧ x < 256) (d : Nat) : ∀ (a : Int) (r : List Int × Int), 0 ≤ a → a ≤ (l.length : Int) → nums l d a = some r → At l a (ones r.1) r.2 ∧ ∀ x ∈ r.1, -9223372036854775808 ≤ x ∧ x ≤ 9223372036854775807 := by
  induction d with
  | zero =>
    intro a r h0 h1 h
    rw [nums] at h
    cases h
    exact ⟨At.nil h0 h1, by simp⟩
  | succ d ih =>
    intro a r h0 h1 h
    rw [nums] at h
    by_cases he : (NumPure.get l a).2.2 = 0
    · rw [if_pos he, Option.map_eq_some_iff] at h
      obtain ⟨q, hq, rfl⟩ := h
      have hb := int_back l hl a he
      have hlt := hb.1.lt
      have h2 := ih _ q (by omega) (by omega) hq
      refine ⟨hb.1.trans h2.1, ?_⟩
      intro x hx
      rcases List.mem_cons.1 hx with rfl | hx
      · exact hb.2
      · exact h2.2 x hx
    · rw [if_neg he] at h; cases h
theorem titems_ones (n : Nat) : ∀ l : List Int, l.length = 2 * n → titems (pairs l) = ones l ∧ (pairs l).length = n := by
  induction n with
  | zero => intro l h; have := List.eq_nil_of_length_eq_zero (by omega : l.length = 0); subst this; exact ⟨rfl, rfl⟩
  | succ n ih =>
    intro l h
    match l, h with
    | a :: b :: t, h =>
      have h2 := ih t (by simp at h; omega)
      refine ⟨?_, by simp [pairs, h2.2]⟩
      rw [pairs, titems, h2.1, titem]
      simp [ones]
theorem pairs_ok (n : Nat) : ∀ l : List Int, l.length = 2 * n → (∀ x ∈ l, -9223372036854775808 ≤ x ∧ x ≤ 9223372036854775807) → ∀ t ∈ pairs l, tok t := by
  induction n with
  | zero => intro l h _; have := List.eq_nil_of_length_eq_zero (by omega : l.length = 0); subst this; simp [pairs]
  | succ n ih =>
    intro l h hx
    match l, h with
    | a :: b :: t, h =>
      intro u hu
      rw [pairs] at hu
      rcases List.mem_cons.1 hu with rfl | hu
      · exact ⟨hx a (by simp), hx b (by simp)⟩
      · exact ih t (by simp at h; omega) (fun x hxx => hx x (by simp [hxx])) u hu
theorem gfront_back (l : List Int) (hl : ∀ x ∈ l, 0 ≤ x ∧ x < 256) (a : Int) (h : (gfront l a).2.2 = 0) : At l a (tfront (gfront l a).1) (gfront l a).2.1 ∧ (gfront l a).1.length ≤ 16 ∧ ∀ t ∈ (gfront l a).1, tok t := by
  unfold gfront at h ⊢
  by_cases he : (NumPure.get l a).2.2 = 0
  · rw [if_pos he] at h ⊢
    obtain ⟨m, p, r, hm, e1, e2, e3⟩ := get_back l hl a he
    rw [e3] at h ⊢
    simp only at h ⊢
    by_cases h16 : 16 < (m : Int)
    · rw [if_pos h16] at h; cases h
    rw [if_neg h16] at h ⊢
    rw [Int.toNat_natCast] at h ⊢
    have hA : At l a (enc m) ((p.length + (enc m).length : Nat) : Int) := ⟨p, r, e1, e2, rfl⟩
    have hlt := hA.lt
    cases hq : nums l (2 * m) ((p.length + (enc m).length : Nat) : Int) with
    | none => rw [hq] at h; cases h
    | some q =>
      have hb := nums_back l hl _ _ q (by omega) (by omega) hq
      have hn := nums_len l _ _ q hq
      have ht := titems_ones m q.1 hn
      simp only
      refine ⟨?_, by omega, pairs_ok m q.1 hn hb.2⟩
      rw [tfront, ht.1, ht.2]
      exact hA.trans hb.1
  · rw [if_neg he] at h; exact absurd h he
theorem val1_back (l : List Int) (hl : ∀ x ∈ l, 0 ≤ x ∧ x < 256) (a : Int) (h0 : 0 ≤ a) (v : S103) (n : Int) (h : val1 l a = some (v, n)) : At l a (item v) n ∧ good v := by
  unfold val1 at h
  by_cases h1 : (l.length : Int) ≤ a
  · rw [if_pos h1] at h; cases h
  rw [if_neg h1] at h
  have hA := At.one (l := l) h0 (by omega)
  by_cases e0 : rd l a = 0
  · rw [if_pos e0] at h
    by_cases he : (NumPure.get l (a + 1)).2.2 = 0
    · rw [if_pos he] at h
      simp only [Option.some.injEq, Prod.mk.injEq] at h
      obtain ⟨rfl, rfl⟩ := h
      have hb := int_back l hl _ he
      rw [e0] at hA
      refine ⟨?_, .inl rfl, ?_, hb.2⟩
      · have := hA.trans hb.1
        simpa [item, one] using this
      · intro h; cases h
    · rw [if_neg he] at h; cases h
  rw [if_neg e0] at h
  by_cases e1 : rd l a = 1
  · rw [if_pos e1] at h
    by_cases he : (NumPure.get l (a + 1)).2.2 = 0
    · rw [if_pos he] at h
      obtain ⟨m, p, r, hm, f1, f2, f3⟩ := get_back l hl (a + 1) he
      rw [f3] at h
      simp only at h
      by_cases h3 : 4096 < (m : Int)
      · rw [if_pos h3] at h; cases h
      rw [if_neg h3] at h
      by_cases h4 : (l.length : Int) - ((p.length + (enc m).length : Nat) : Int) < (m : Int)
      · rw [if_pos h4] at h; cases h
      rw [if_neg h4] at h
      simp only [Option.some.injEq, Prod.mk.injEq] at h
      obtain ⟨rfl, rfl⟩ := h
      have hlen : l.length = p.length + ((enc m).length + r.length) := by rw [f1, List.length_append, List.length_append]
      have hcut : (l.take (((p.length + (enc m).length : Nat) : Int) + (m : Int)).toNat).drop ((p.length + (enc m).length : Nat) : Int).toNat = r.take m := by
        rw [f1, ← List.append_assoc, Int.toNat_natCast, show (((p.length + (enc m).length : Nat) : Int) + (m : Int)).toNat = (p ++ enc m).length + m by rw [List.length_append]; omega, List.take_length_add_append, show p.length + (enc m).length = (p ++ enc m).length by rw [List.length_append], List.drop_left]
      have hrl : (r.take m).length = m := by rw [List.length_take]; omega
      have hrb : ∀ x ∈ r.take m, 0 ≤ x ∧ x < 256 := fun x hx => hl x (by rw [f1]; simp [List.mem_of_mem_take hx])
      rw [hcut]
      rw [e1] at hA
      refine ⟨?_, .inr rfl, ?_, by simp⟩
      · have hB : At l (a + 1) (txt (strOfNums (r.take m))) (((p.length + (enc m).length : Nat) : Int) + (m : Int)) := by
          refine ⟨p, r.drop m, ?_, f2, ?_⟩
          · rw [txt, bytes_str _ hrb, strOfNums_size, hrl, List.append_assoc, List.take_append_drop]; exact f1
          · rw [txt, bytes_str _ hrb, strOfNums_size, hrl, List.length_append, hrl]; omega
        have := hA.trans hB
        simpa [item] using this
      · intro _
        show (strOfNums (r.take m)).size ≤ 4096
        rw [strOfNums_size, hrl]
        omega
    · rw [if_neg he] at h; cases h
  · rw [if_neg e1] at h; cases h
theorem valN_back (l : List Int) (hl : ∀ x ∈ l, 0 ≤ x ∧ x < 256) (d : Nat) : ∀ (a : Int) (r : List S103 × Int), 0 ≤ a → a ≤ (l.length : Int) → valN l d a = some r → At l a (items r.1) r.2 ∧ (∀ x ∈ r.1, good x) ∧ r.1.length = d := by
  induction d with
  | zero =>
    intro a r h0 h1 h
    rw [valN] at h
    cases h
    exact ⟨At.nil h0 h1, by simp, rfl⟩
  | succ d ih =>
    intro a r h0 h1 h
    rw [valN, Option.bind_eq_some_iff] at h
    obtain ⟨v, hv, h⟩ := h
    rw [Option.map_eq_some_iff] at h
    obtain ⟨q, hq, rfl⟩ := h
    have hb := val1_back l hl a h0 v.1 v.2 hv
    have hlt := hb.1.lt
    have h2 := ih _ q (by omega) (by omega) hq
    refine ⟨hb.1.trans h2.1, ?_, by simp [h2.2.2]⟩
    intro x hx
    rcases List.mem_cons.1 hx with rfl | hx
    · exact hb.2
    · exact h2.2.1 x hx
theorem rget_back (l : List Int) (hl : ∀ x ∈ l, 0 ≤ x ∧ x < 256) (a : Int) (h : (rget l a).2.2 = 0) : At l a (rbytes (rget l a).1) (rget l a).2.1 ∧ (rget l a).1.length ≤ 16 ∧ ∀ x ∈ (rget l a).1, good x := by
  unfold rget at h ⊢
  by_cases he : (NumPure.get l a).2.2 = 0
  · rw [if_pos he] at h ⊢
    obtain ⟨m, p, r, hm, e1, e2, e3⟩ := get_back l hl a he
    rw [e3] at h ⊢
    simp only at h ⊢
    by_cases h16 : 16 < (m : Int)
    · rw [if_pos h16] at h; cases h
    rw [if_neg h16] at h ⊢
    rw [Int.toNat_natCast] at h ⊢
    have hA : At l a (enc m) ((p.length + (enc m).length : Nat) : Int) := ⟨p, r, e1, e2, rfl⟩
    have hlt := hA.lt
    cases hq : valN l m ((p.length + (enc m).length : Nat) : Int) with
    | none => rw [hq] at h; cases h
    | some q =>
      have hb := valN_back l hl _ _ q (by omega) (by omega) hq
      simp only
      refine ⟨?_, by omega, hb.2.1⟩
      rw [rbytes, hb.2.2]
      exact hA.trans hb.1
  · rw [if_neg he] at h; exact absurd h he
theorem gtext_back (l : List Int) (hl : ∀ x ∈ l, 0 ≤ x ∧ x < 256) (a most : Int) (h : (gtext l a most).2.2 = 0) : At l a (txt (gtext l a most).1) (gtext l a most).2.1 ∧ ((gtext l a most).1.size : Int) ≤ most := by
  unfold gtext at h ⊢
  by_cases he : (NumPure.get l a).2.2 = 0
  · rw [if_pos he] at h ⊢
    obtain ⟨m, p, r, hm, f1, f2, f3⟩ := get_back l hl a he
    rw [f3] at h ⊢
    simp only at h ⊢
    by_cases h3 : most < (m : Int)
    · rw [if_pos h3] at h; cases h
    rw [if_neg h3] at h ⊢
    by_cases h4 : (l.length : Int) - ((p.length + (enc m).length : Nat) : Int) < (m : Int)
    · rw [if_pos h4] at h; cases h
    rw [if_neg h4] at h ⊢
    have hlen : l.length = p.length + ((enc m).length + r.length) := by rw [f1, List.length_append, List.length_append]
    have hcut : (l.take (((p.length + (enc m).length : Nat) : Int) + (m : Int)).toNat).drop ((p.length + (enc m).length : Nat) : Int).toNat = r.take m := by
      rw [f1, ← List.append_assoc, Int.toNat_natCast, show (((p.length + (enc m).length : Nat) : Int) + (m : Int)).toNat = (p ++ enc m).length + m by rw [List.length_append]; omega, List.take_length_add_append, show p.length + (enc m).length = (p ++ enc m).length by rw [List.length_append], List.drop_left]
    have hrl : (r.take m).length = m := by rw [List.length_take]; omega
    have hrb : ∀ x ∈ r.take m, 0 ≤ x ∧ x < 256 := fun x hx => hl x (by rw [f1]; simp [List.mem_of_mem_take hx])
    rw [hcut]
    refine ⟨⟨p, r.drop m, ?_, f2, ?_⟩, ?_⟩
    · rw [txt, bytes_str _ hrb, strOfNums_size, hrl, List.append_assoc, List.take_append_drop]; exact f1
    · show ((p.length + (enc m).length : Nat) : Int) + (m : Int) = _
      rw [txt, bytes_str _ hrb, strOfNums_size, hrl, List.length_append, hrl]; omega
    · rw [strOfNums_size, hrl]; omega
  · rw [if_neg he] at h; exact absurd h he
theorem i64_wf {a : Int} (h : -9223372036854775808 ≤ a ∧ a ≤ 9223372036854775807) : (Lit.int .i64 a).wf = true := by
  simp [Lit.wf, IntKind.min, IntKind.max, IntKind.bits, IntKind.signed]; omega
theorem good_chk (l : List S103) (h16 : l.length ≤ 16) (hg : ∀ x ∈ l, good x) : chk l = 0 := by
  have : chkL l = 0 := by
    clear h16
    induction l with
    | nil => rfl
    | cons x t ih =>
      have hx := hg x (by simp)
      have ht := ih (fun y hy => hg y (by simp [hy]))
      unfold chkL
      rcases hx.1 with e | e
      · simp [e, ht]
      · have := hx.2.1 e
        simp [e, ht]
        omega
  unfold chk
  rw [if_neg (by omega), this]
/-- A told command. -/
def cmdOf (r : Cm) : S40 := ⟨r.1, r.2.1, ⟨r.2.2.1, ⟨r.2.2.2.1, r.2.2.2.2.1⟩, r.2.2.2.2.2.1⟩, r.2.2.2.2.2.2.1, r.2.2.2.2.2.2.2.1, r.2.2.2.2.2.2.2.2.1⟩
theorem in0 : -9223372036854775808 ≤ (0 : Int) ∧ (0 : Int) ≤ 9223372036854775807 := by decide
theorem cget_back (l : List Int) (hl : ∀ x ∈ l, 0 ≤ x ∧ x < 256) (a : Int) (h : (cget l a).2.2.2.2.2.2.2.2.2.2 = 0) : At l a (cbytes (cmdOf (cget l a))) (cget l a).2.2.2.2.2.2.2.2.2.1 ∧ cok (cmdOf (cget l a)) ∧ cchk (cmdOf (cget l a)) = 0 := by
  have hz : ∀ e : Int, e ≠ 0 → (cz e).2.2.2.2.2.2.2.2.2.2 ≠ 0 := fun e he => he
  have ht0 : tok (⟨0, 0⟩ : S36) := ⟨in0, in0⟩
  unfold cget at h ⊢
  by_cases h1 : a < 0 ∨ (l.length : Int) < a
  · rw [if_pos h1] at h; exact absurd h (hz 9 (by decide))
  rw [if_neg h1] at h ⊢
  by_cases h2 : a = (l.length : Int) ∨ 6 < rd l a
  · rw [if_pos h2] at h; exact absurd h (hz 6 (by decide))
  rw [if_neg h2] at h ⊢
  have hA := At.one (l := l) (a := a) (by omega) (by omega)
  have hr := rd_byte l hl a
  generalize hd : rd l a = d at h h2 hA hr ⊢
  by_cases e0 : d = 0
  · rw [if_pos e0] at h ⊢
    by_cases h3 : (gtext l (a + 1) 65536).2.2 = 0
    · rw [if_pos h3] at h ⊢
      obtain ⟨hb, hs⟩ := gtext_back l hl (a + 1) 65536 h3
      have hbl : (bytesOf (gtext l (a + 1) 65536).1).length = (gtext l (a + 1) 65536).1.size := by unfold bytesOf; simp
      refine ⟨?_, ⟨in0, in0, in0, ht0, by simp [cmdOf], by simp [cmdOf], by simp [cmdOf], by simp [cmdOf], ?_, bytesOf_byte _⟩, ?_⟩
      · have := hA.trans hb
        rw [e0] at this
        simpa [cbytes, cmdOf, str_back] using this
      · show (bytesOf (gtext l (a + 1) 65536).1).length ≤ 70000
        omega
      · simp [cchk, cmdOf]
        omega
    · rw [if_neg h3] at h; exact absurd h (hz 6 (by decide))
  rw [if_neg e0] at h ⊢
  cases hq : nums l 1 (a + 1) with
  | none => rw [hq] at h; exact absurd h (hz 6 (by decide))
  | some r =>
    rw [hq] at h
    simp only at h ⊢
    have hlt0 := hA.lt
    obtain ⟨hb1, hbd⟩ := nums_back l hl 1 (a + 1) r (by omega) (by omega) hq
    obtain ⟨n, hn⟩ := list1 (nums_len l _ _ r hq)
    have hnb := hbd n (by rw [hn]; simp)
    have hrn : rd r.1 0 = n := by rw [hn]; rfl
    rw [hn] at hb1
    have hA1 : At l a ([d] ++ one n) r.2 := by
      have := hA.trans hb1
      simpa [ones] using this
    have hlt := hA1.lt
    rw [hrn] at h ⊢
    by_cases e1 : d = 1
    · rw [if_pos e1] at h ⊢
      by_cases h7 : (rget l r.2).2.2 = 0
      · rw [if_pos h7] at h ⊢
        obtain ⟨hb2, h16, hg⟩ := rget_back l hl r.2 h7
        have hlt2 := hb2.lt
        cases hq3 : nums l 3 (rget l r.2).2.1 with
        | none => rw [hq3] at h; exact absurd h (hz 6 (by decide))
        | some q =>
          obtain ⟨x, y, z, hx⟩ := list3 (nums_len l _ _ q hq3)
          obtain ⟨hb3, hbd3⟩ := nums_back l hl 3 _ q (by omega) (by omega) hq3
          rw [hx] at hb3 hbd3
          simp only
          rw [show rd q.1 0 = x by rw [hx]; rfl, show rd q.1 1 = y by rw [hx]; rfl, show rd q.1 2 = z by rw [hx]; rfl]
          refine ⟨?_, ⟨hnb, in0, hbd3 z (by simp), ⟨hbd3 x (by simp), hbd3 y (by simp)⟩, by simp only [cmdOf]; omega, fun v hv => i64_wf (hg v hv).2.2, by simp [cmdOf], by simp [cmdOf], by simp [cmdOf], by simp [cmdOf]⟩, ?_⟩
          · have := (hA1.trans hb2).trans hb3
            rw [e1] at this
            simpa [cbytes, cmdOf, titem, ones] using this
          · simp [cchk, cmdOf]
            exact good_chk _ h16 hg
      · rw [if_neg h7] at h; exact absurd h (hz 6 (by decide))
    rw [if_neg e1] at h ⊢
    by_cases e2 : d = 2 ∨ d = 4
    · rw [if_pos e2] at h ⊢
      by_cases h7 : (gfront l r.2).2.2 = 0
      · rw [if_pos h7] at h ⊢
        obtain ⟨hb2, h16, hg⟩ := gfront_back l hl r.2 h7
        refine ⟨?_, ⟨hnb, in0, in0, ht0, by simp [cmdOf], by simp [cmdOf], by simp only [cmdOf]; omega, hg, by simp [cmdOf], by simp [cmdOf]⟩, ?_⟩
        · have := hA1.trans hb2
          rcases e2 with e2 | e2
          · rw [e2] at this; simpa [cbytes, cmdOf, e2] using this
          · rw [e2] at this; simpa [cbytes, cmdOf, e2] using this
        · rcases e2 with e2 | e2
          · simp [cchk, cmdOf, e2]; omega
          · simp [cchk, cmdOf, e2]; omega
      · rw [if_neg h7] at h; exact absurd h (hz 6 (by decide))
    rw [if_neg e2] at h ⊢
    by_cases e3 : d = 3
    · rw [if_pos e3] at h ⊢
      cases hq3 : nums l 1 r.2 with
      | none => rw [hq3] at h; exact absurd h (hz 6 (by decide))
      | some q =>
        obtain ⟨x, hx⟩ := list1 (nums_len l _ _ q hq3)
        obtain ⟨hb3, hbd3⟩ := nums_back l hl 1 _ q (by omega) (by omega) hq3
        rw [hx] at hb3 hbd3
        simp only
        rw [show rd q.1 0 = x by rw [hx]; rfl]
        refine ⟨?_, ⟨hnb, hbd3 x (by simp), in0, ht0, by simp [cmdOf], by simp [cmdOf], by simp [cmdOf], by simp [cmdOf], by simp [cmdOf], by simp [cmdOf]⟩, by simp [cchk, cmdOf]⟩
        have := hA1.trans hb3
        rw [e3] at this
        simpa [cbytes, cmdOf, ones] using this
    rw [if_neg e3] at h ⊢
    by_cases e5 : d = 5
    · rw [if_pos e5] at h ⊢
      cases hq3 : nums l 2 r.2 with
      | none => rw [hq3] at h; exact absurd h (hz 6 (by decide))
      | some q =>
        obtain ⟨x, y, hx⟩ := list2 (nums_len l _ _ q hq3)
        obtain ⟨hb3, hbd3⟩ := nums_back l hl 2 _ q (by omega) (by omega) hq3
        rw [hx] at hb3 hbd3
        simp only
        rw [show rd q.1 0 = x by rw [hx]; rfl, show rd q.1 1 = y by rw [hx]; rfl]
        refine ⟨?_, ⟨hnb, in0, in0, ⟨hbd3 x (by simp), hbd3 y (by simp)⟩, by simp [cmdOf], by simp [cmdOf], by simp [cmdOf], by simp [cmdOf], by simp [cmdOf], by simp [cmdOf]⟩, by simp [cchk, cmdOf]⟩
        have := hA1.trans hb3
        rw [e5] at this
        simpa [cbytes, cmdOf, titem, ones] using this
    rw [if_neg e5]
    have e6 : d = 6 := by omega
    refine ⟨?_, ⟨hnb, in0, in0, ht0, by simp [cmdOf], by simp [cmdOf], by simp [cmdOf], by simp [cmdOf], by simp [cmdOf], by simp [cmdOf]⟩, by simp [cchk, cmdOf]⟩
    rw [e6] at hA1
    simpa [cbytes, cmdOf] using hA1
/-- P26.3: so many commands from a place on; the place behind, or of the fault. -/
def cmdN (l : List Int) : Nat → Int → List S40 × Int × Bool
  | 0, a => ([], a, true)
  | d + 1, a => if (cget l a).2.2.2.2.2.2.2.2.2.2 = 0 then (cmdOf (cget l a) :: (cmdN l d (cget l a).2.2.2.2.2.2.2.2.2.1).1, (cmdN l d (cget l a).2.2.2.2.2.2.2.2.2.1).2) else ([], a, false)
def cdec (l : List Int) : List S40 × Int × Int :=
  if (NumPure.get l 0).2.2 = 0 ∧ ¬ 4096 < (NumPure.get l 0).1 then
    (if (cmdN l (NumPure.get l 0).1.toNat (NumPure.get l 0).2.1).2.2 = true ∧ (cmdN l (NumPure.get l 0).1.toNat (NumPure.get l 0).2.1).2.1 = (l.length : Int) then ((cmdN l (NumPure.get l 0).1.toNat (NumPure.get l 0).2.1).1, 0, (cmdN l (NumPure.get l 0).1.toNat (NumPure.get l 0).2.1).2.1) else ([], 6, (cmdN l (NumPure.get l 0).1.toNat (NumPure.get l 0).2.1).2.1))
  else ([], 6, 0)
theorem Dec_l0 (l : List Int) (hl : ∀ x ∈ l, 0 ≤ x ∧ x < 256) (hc : l.length + 10 ≤ capN) (n : Nat) (hn : n ≤ 5000) (d : Nat) : ∀ (k i : Nat) (acc : List S40) (a : Int), i + d = n → acc.length = i → 2 * l.length + 210 + d < k →
    wire_Decode.l0 k l acc a (n : Int) (i : Int) = some (if (cmdN l d a).2.2 = true ∧ (cmdN l d a).2.1 = (l.length : Int) then (acc ++ (cmdN l d a).1, 0, (cmdN l d a).2.1) else ([], 6, (cmdN l d a).2.1)) := by
  induction d with
  | zero =>
    intro k i acc a hi ha hk
    obtain ⟨k, rfl⟩ : ∃ m, k = m + 1 := ⟨k - 1, by omega⟩
    simp only [wire_Decode.l0, cmdN]
    rw [if_neg (by omega)]
    by_cases h : a = (l.length : Int)
    · rw [if_pos h, if_pos ⟨trivial, h⟩, List.append_nil]
    · rw [if_neg h, if_neg (fun x => h x.2)]
  | succ d ih =>
    intro k i acc a hi ha hk
    obtain ⟨k, rfl⟩ : ∃ m, k = m + 1 := ⟨k - 1, by omega⟩
    simp only [wire_Decode.l0]
    rw [if_pos (by omega), cget_f l hl hc a (by omega)]
    simp only [Option.bind_some]
    by_cases h : (cget l a).2.2.2.2.2.2.2.2.2.2 = 0
    · rw [if_pos h, if_pos (by omega), u64_in _ (by omega) (by omega), show ((i : Int) + 1) = ((i + 1 : Nat) : Int) by omega, ih k (i + 1) _ _ (by omega) (by simp [ha]) (by omega), cmdN, if_pos h]
      simp only
      rw [show acc ++ cmdOf (cget l a) :: (cmdN l d (cget l a).2.2.2.2.2.2.2.2.2.1).1 = (acc ++ [cmdOf (cget l a)]) ++ (cmdN l d (cget l a).2.2.2.2.2.2.2.2.2.1).1 by simp]
      rfl
    · rw [if_neg h, cmdN, if_neg h, if_neg (by simp)]
theorem Dec_any {k : Nat} (l : List Int) (hl : ∀ x ∈ l, 0 ≤ x ∧ x < 256) (hc : l.length + 10 ≤ capN) (hk : 2 * l.length + 5000 ≤ k) : wire_Decode.f k l = some (cdec l) := by
  obtain ⟨k, rfl⟩ : ∃ m, k = m + 1 := ⟨k - 1, by omega⟩
  have hg := get_next l hl 0
  unfold wire_Decode.f cdec
  rw [get_f l hl 0 (by omega) hc]
  simp only [Option.bind_some]
  by_cases h : (NumPure.get l 0).2.2 = 0
  · rw [if_pos h]
    simp only [wire_Decode.j0]
    by_cases h2 : 4096 < (NumPure.get l 0).1
    · rw [decide_eq_true (show (NumPure.get l 0).1 > 4096 from h2), if_pos rfl, if_neg (fun x => x.2 h2)]
    · rw [decide_eq_false (show ¬ (NumPure.get l 0).1 > 4096 from h2), if_neg (show ¬ (false = true) by decide), if_pos ⟨h, h2⟩]
      obtain ⟨m, hm⟩ := Int.eq_ofNat_of_zero_le hg.2.2.1
      rw [hm]
      have := Dec_l0 l hl hc m (by omega) m k 0 [] (NumPure.get l 0).2.1 (by omega) rfl (by omega)
      rw [List.nil_append] at this
      rw [Int.toNat_natCast]
      exact this
  · rw [if_neg h, if_neg (fun x => h x.1)]
    simp only [wire_Decode.j0, if_true]
theorem RDec_l0 (l : List Int) (hl : ∀ x ∈ l, 0 ≤ x ∧ x < 256) (hc : l.length + 10 ≤ capN) (n : Nat) (hn : n ≤ 5000) (d : Nat) : ∀ (k i : Nat) (acc : List S40) (a : Int), i + d = n → acc.length = i → 2 * l.length + 210 + d < k →
    runnelref26_Decode.l0 k l (n : Int) a acc (i : Int) = some (if (cmdN l d a).2.2 = true ∧ (cmdN l d a).2.1 = (l.length : Int) then (acc ++ (cmdN l d a).1, 0, (cmdN l d a).2.1) else ([], 6, (cmdN l d a).2.1)) := by
  induction d with
  | zero =>
    intro k i acc a hi ha hk
    obtain ⟨k, rfl⟩ : ∃ m, k = m + 1 := ⟨k - 1, by omega⟩
    simp only [runnelref26_Decode.l0, cmdN]
    rw [if_neg (by rw [wrap_in _ (by omega) (by omega)]; omega)]
    by_cases h : a = (l.length : Int)
    · rw [if_pos h, if_pos ⟨trivial, h⟩, List.append_nil]
    · rw [if_neg h, if_neg (fun x => h x.2)]
  | succ d ih =>
    intro k i acc a hi ha hk
    obtain ⟨k, rfl⟩ : ∃ m, k = m + 1 := ⟨k - 1, by omega⟩
    simp only [runnelref26_Decode.l0]
    rw [if_pos (by rw [wrap_in _ (by omega) (by omega)]; omega), Rcget_f l hl hc a (by omega)]
    simp only [Option.bind_some]
    by_cases h : (cget l a).2.2.2.2.2.2.2.2.2.2 = 0
    · rw [if_pos h, if_pos (by omega), wrap_in ((i : Int) + 1) (by omega) (by omega), show ((i : Int) + 1) = ((i + 1 : Nat) : Int) by omega, ih k (i + 1) _ _ (by omega) (by simp [ha]) (by omega), cmdN, if_pos h]
      simp only
      rw [show acc ++ cmdOf (cget l a) :: (cmdN l d (cget l a).2.2.2.2.2.2.2.2.2.1).1 = (acc ++ [cmdOf (cget l a)]) ++ (cmdN l d (cget l a).2.2.2.2.2.2.2.2.2.1).1 by simp]
      rfl
    · rw [if_neg h, cmdN, if_neg h, if_neg (by simp)]
theorem RDec_any {k : Nat} (l : List Int) (hl : ∀ x ∈ l, 0 ≤ x ∧ x < 256) (hc : l.length + 10 ≤ capN) (hk : 2 * l.length + 5000 ≤ k) : runnelref26_Decode.f k l = some (cdec l) := by
  obtain ⟨k, rfl⟩ : ∃ m, k = m + 1 := ⟨k - 1, by omega⟩
  have hg := get_next l hl 0
  unfold runnelref26_Decode.f cdec
  rw [Rget_f l hl 0 (by omega) hc]
  simp only [Option.bind_some]
  by_cases h : (NumPure.get l 0).2.2 = 0
  · rw [if_pos h]
    simp only [runnelref26_Decode.j0]
    by_cases h2 : 4096 < (NumPure.get l 0).1
    · rw [decide_eq_true (show (NumPure.get l 0).1 > 4096 from h2), if_pos rfl, if_neg (fun x => x.2 h2)]
    · rw [decide_eq_false (show ¬ (NumPure.get l 0).1 > 4096 from h2), if_neg (show ¬ (false = true) by decide), if_pos ⟨h, h2⟩]
      obtain ⟨m, hm⟩ := Int.eq_ofNat_of_zero_le hg.2.2.1
      rw [hm]
      have := RDec_l0 l hl hc m (by omega) m k 0 [] (NumPure.get l 0).2.1 (by omega) rfl (by omega)
      rw [List.nil_append] at this
      rw [Int.toNat_natCast]
      exact this
  · rw [if_neg h, if_neg (fun x => h x.1)]
    simp only [runnelref26_Decode.j0, if_true]
theorem cmdN_back (l : List Int) (hl : ∀ x ∈ l, 0 ≤ x ∧ x < 256) (d : Nat) : ∀ a : Int, 0 ≤ a → a ≤ (l.length : Int) → ((cmdN l d a).2.2 = true → (At l a (cbl (cmdN l d a).1) (cmdN l d a).2.1 ∧ (cmdN l d a).1.length = d)) ∧ (∀ c ∈ (cmdN l d a).1, cok c ∧ cchk c = 0) ∧ (cmdN l d a).1.length ≤ d := by
  induction d with
  | zero => intro a h0 h1; rw [cmdN]; exact ⟨fun _ => ⟨At.nil h0 h1, rfl⟩, by simp, Nat.le_refl _⟩
  | succ d ih =>
    intro a h0 h1
    rw [cmdN]
    by_cases h : (cget l a).2.2.2.2.2.2.2.2.2.2 = 0
    · rw [if_pos h]
      have hb := cget_back l hl a h
      have hlt := hb.1.lt
      obtain ⟨i1, i2, i3⟩ := ih (cget l a).2.2.2.2.2.2.2.2.2.1 (by omega) (by omega)
      refine ⟨fun h2 => ⟨hb.1.trans (i1 h2).1, by simp [(i1 h2).2]⟩, ?_, by simp; exact i3⟩
      intro c hc
      rcases List.mem_cons.1 hc with rfl | hc
      · exact hb.2
      · exact i2 c hc
    · rw [if_neg h]
      exact ⟨(fun x => by cases x), by simp, by simp⟩
theorem cerr_zero (l : List S40) (h : ∀ c ∈ l, cchk c = 0) : cerr l = 0 := by
  induction l with
  | nil => rfl
  | cons c t ih => rw [cerr, if_pos (h c (by simp)), ih (fun x hx => h x (by simp [hx]))]
theorem cdec_back (l : List Int) (hl : ∀ x ∈ l, 0 ≤ x ∧ x < 256) : (cdec l).1.length ≤ 4096 ∧ (∀ c ∈ (cdec l).1, cok c ∧ cchk c = 0) ∧ ((cdec l).2.1 = 0 → cenc (cdec l).1 = (l, 0)) := by
  have hg := get_next l hl 0
  unfold cdec
  by_cases h : (NumPure.get l 0).2.2 = 0 ∧ ¬ 4096 < (NumPure.get l 0).1
  · rw [if_pos h]
    obtain ⟨m, p, r, hm, f1, f2, f3⟩ := get_back l hl 0 h.1
    rw [f3] at h ⊢
    simp only at h ⊢
    rw [Int.toNat_natCast]
    have hp : p = [] := List.eq_nil_of_length_eq_zero (by omega)
    subst hp
    have hA : At l 0 (enc m) (((0 : Nat) + (enc m).length : Nat) : Int) := ⟨[], r, f1, rfl, rfl⟩
    have hlt := hA.lt
    have hb := cmdN_back l hl m ((([] : List Int).length + (enc m).length : Nat) : Int) (by simp only [List.length_nil]; omega) (by simp only [List.length_nil]; omega)
    by_cases h2 : (cmdN l m ((([] : List Int).length + (enc m).length : Nat) : Int)).2.2 = true ∧ (cmdN l m ((([] : List Int).length + (enc m).length : Nat) : Int)).2.1 = (l.length : Int)
    · rw [if_pos h2]
      obtain ⟨i1, i2, i3⟩ := hb
      refine ⟨by simp only; omega, i2, fun _ => ?_⟩
      have hz := cerr_zero _ (fun c hc => (i2 c hc).2)
      simp only at hz ⊢
      rw [cenc, if_pos hz, (i1 h2.1).2]
      have hA2 := hA.trans (i1 h2.1).1
      obtain ⟨p', r', g1, g2, g3⟩ := hA2
      have hp' : p' = [] := List.eq_nil_of_length_eq_zero (by omega)
      subst hp'
      have hlen : l.length = (enc m ++ cbl (cmdN l m ((([] : List Int).length + (enc m).length : Nat) : Int)).1).length + r'.length := by
        have := congrArg List.length g1
        rw [List.nil_append, List.length_append] at this
        exact this
      have g4 := Int.ofNat.inj (h2.2.symm.trans g3)
      have hr' : r' = [] := List.eq_nil_of_length_eq_zero (by simp only [List.length_nil, Nat.zero_add] at g4 hlen; omega)
      subst hr'
      rw [List.nil_append, List.append_nil] at g1
      rw [← g1]
    · rw [if_neg h2]
      exact ⟨by simp, by simp, (fun x => by cases x)⟩
  · rw [if_neg h]
    exact ⟨by simp, by simp, (fun x => by cases x)⟩
end Go.Proofs.Ytpplklickfioiaa.BWireDecodes
