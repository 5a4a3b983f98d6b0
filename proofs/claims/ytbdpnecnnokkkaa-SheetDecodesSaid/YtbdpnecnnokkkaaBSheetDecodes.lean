/- SheetDecodes: what the printed functions answer, for each input, by plain mathematics. -/
import Derived.Test.YtbdpnecnnokkkaaOSheetDecodesx
import Derived.Test.YtbdpnecnnokkkaaEqPure
import Derived.Test.YtbdpnecnnokkkaaNumPure
namespace Go.Proofs.Ytbdpnecnnokkkaa.BSheetDecodes
open Go.RowKit Go.Proofs.Ytbdpnecnnokkkaa.PSheetDecodes Go.Proofs.Ytbdpnecnnokkkaa.EqPure Go.Proofs.Ytbdpnecnnokkkaa.NumPure Go.Proofs.YtbdpnecnnokkkaaW.PrintWords Go.Proofs.YtbdpnecnnokkkaaW.PrintLast Go.Proofs.YtbdpnecnnokkkaaW.PrintMore
set_option linter.unusedVariables false
set_option linter.unusedSimpArgs false
attribute [local irreducible] IntKind.wrap Go.bits shr shl maxLen str
theorem size_l0 (d : Nat) : ∀ (k n : Nat) (c : Int), (hi n).length = d → d < k → 0 ≤ c → c + d ≤ 100 → num_Size.l0 k n c = some (c + d) := by
  induction d with
  | zero =>
    intro k n c hd hk _ _
    obtain ⟨k, rfl⟩ : ∃ m, k = m + 1 := ⟨k - 1, by omega⟩
    have h0 : n = 0 := by
      rcases Nat.eq_zero_or_pos n with h | h
      · exact h
      · rw [hi_pos h] at hd; simp at hd
    subst h0
    simp only [num_Size.l0]
    rw [if_neg (by omega)]
    simp
  | succ d ih =>
    intro k n c hd hk h0 h1
    obtain ⟨k, rfl⟩ : ∃ m, k = m + 1 := ⟨k - 1, by omega⟩
    rcases Nat.eq_zero_or_pos n with h | h
    · subst h; rw [hi_zero] at hd; simp at hd
    · rw [hi_pos h] at hd
      simp only [List.length_append, List.length_singleton] at hd
      simp only [num_Size.l0]
      rw [if_pos (by omega), show ((n : Int) / 128) = ((n / 128 : Nat) : Int) by omega]
      rw [wrap_in _ (by omega) (by omega), ih k _ _ (by omega) (by omega) (by omega) (by omega)]
      congr 1
      omega
theorem size_f {k n : Nat} (hn : n < 18446744073709551616) (hk : 12 ≤ k) : num_Size.f k n = some ((enc n).length : Int) := by
  have h := hi_ten hn
  unfold num_Size.f
  rw [show ((n : Int) / 128) = ((n / 128 : Nat) : Int) by omega, size_l0 _ k _ 1 rfl (by omega) (by omega) (by omega), enc_length]
  congr 1
  omega
theorem shr128 (n e : Nat) (he : e ≤ 9) : shr .u64 (n : Int) (7 * (e : Int)) = ((n / 128 ^ e : Nat) : Int) := by
  have h1 : (7 * (e : Int)).toNat = 7 * e := by omega
  have h2 : min (7 * e) IntKind.u64.bits = 7 * e := Nat.min_eq_left (by simp only [IntKind.bits]; omega)
  have h3 : (128 : Nat) ^ e = 2 ^ (7 * e) := by rw [Nat.pow_mul]
  have h4 : shr .u64 (n : Int) (7 * (e : Int)) = (n : Int) / 2 ^ min (7 * (e : Int)).toNat IntKind.u64.bits := by with_unfolding_all rfl
  rw [h4, h1, h2, h3, Int.natCast_ediv, Int.natCast_pow]
  rfl
theorem put_l0 (n m : Nat) (e : List Int) (hm : m ≤ 9) (h1 : ∀ j, j < m → e.drop j = (((n / 128 ^ (m - j) % 128 : Nat) : Int) + 128) :: e.drop (j + 1)) (h2 : e.drop m = [((n % 128 : Nat) : Int)])
    (h3 : e.drop (m + 1) = []) (d : Nat) : ∀ (k j : Nat) (acc : List Int), j + d = m + 1 → d < k → acc.length + d ≤ capN →
    num_put.l0 k acc n ((m + 1 : Nat) : Int) ((m + 1 : Nat) : Int) j = some (acc ++ e.drop j) := by
  induction d with
  | zero =>
    intro k j acc hj hk _
    obtain ⟨k, rfl⟩ : ∃ m, k = m + 1 := ⟨k - 1, by omega⟩
    simp only [num_put.l0]
    rw [if_neg (by omega), show j = m + 1 by omega, h3, List.append_nil]
  | succ d ih =>
    intro k j acc hj hk ha
    obtain ⟨k, rfl⟩ : ∃ m, k = m + 1 := ⟨k - 1, by omega⟩
    have hd9 : d ≤ 9 := by omega
    have hc : acc.length < 140737488355328 := cap_lt (Nat.le_trans (Nat.le_add_right _ _) ha)
    have hi0 : ∀ x : Int, (acc ++ [x]).length + d ≤ capN := fun x => by rw [List.length_append, List.length_singleton]; omega
    clear ha
    have e1 : wrap64 (((m + 1 : Nat) : Int) - 1) = (m : Int) := by rw [wrap_in _ (by omega) (by omega)]; omega
    have e2 : wrap64 ((m : Int) - (j : Int)) = (d : Int) := by rw [wrap_in _ (by omega) (by omega)]; omega
    have e3 : wrap64 (7 * (d : Int)) = 7 * (d : Int) := wrap_in _ (by omega) (by omega)
    have e4 : wrap64 ((j : Int) + 1) = ((j + 1 : Nat) : Int) := by rw [wrap_in _ (by omega) (by omega)]; omega
    have e5 : bits .and .u8 (((n / 128 ^ d : Nat) : Int) % 256) 127 = ((n / 128 ^ d % 128 : Nat) : Int) := by
      generalize n / 128 ^ d = q
      rw [u8_and127 _ (by omega) (by omega)]; omega
    have e6 : bits .or .u8 ((n / 128 ^ d % 128 : Nat) : Int) 128 = ((n / 128 ^ d % 128 : Nat) : Int) + 128 := by
      generalize n / 128 ^ d = q
      rw [u8_or_128 _ (by omega) (by omega)]
    have hlt : (j : Int) < ((m + 1 : Nat) : Int) := by omega
    simp only [num_put.l0]
    rw [if_pos hlt, e1, e2, e3, if_pos (by omega), shr128 n d hd9, e4, e5, e6, if_pos hc, if_pos hc]
    by_cases hd : d = 0
    · subst hd
      obtain rfl : j = m := by omega
      rw [if_neg (Int.lt_irrefl _), ih k (j + 1) _ (by omega) (by omega) (hi0 _), List.append_assoc, h3, h2]
      simp
    · have hjm : j < m := by omega
      rw [if_pos (by omega), ih k (j + 1) _ (by omega) (by omega) (hi0 _), List.append_assoc, h1 j hjm, show m - j = d by omega]
      rfl
theorem put_f {k n : Nat} (l : List Int) (hn : n < 18446744073709551616) (hk : 12 ≤ k) (hl : l.length + 10 ≤ capN) : num_put.f k l n = some (l ++ enc n) := by
  have h10 := hi_ten hn
  unfold num_put.f
  rw [size_f hn hk, enc_length]
  simp only [Option.bind_some]
  have h := put_l0 n (hi (n / 128)).length (enc n) h10 (fun j hj => enc_drop hj) (enc_last n) (List.drop_of_length_le (by rw [enc_length]; exact Nat.le_refl _)) _ k 0 l (Nat.zero_add _) (by omega) (by omega)
  exact h
theorem fresh_f (l : List Int) (hl : l.length + 10 ≤ capN) : num_fresh.f l = some l := by
  unfold num_fresh.f
  simp only [Option.bind_some]
  rw [if_pos (cap_lt (by simp; omega))]
  rfl
theorem Put_f {k n : Nat} (l : List Int) (hn : n < 18446744073709551616) (hk : 12 ≤ k) (hl : l.length + 10 ≤ capN) : num_Put.f k l n = some (l ++ enc n) := by
  unfold num_Put.f
  rw [fresh_f l hl]
  simp only [Option.bind_some]
  rw [put_f l hn hk hl]
  rfl
theorem Bytes_l0 (n : Nat) : ∀ (k : Nat) (acc : List Int), (hi n).length < k → n < 18446744073709551616 → acc.length + (hi n).length ≤ capN → runnelref01_Bytes.l0 k n acc = some (hi n ++ acc) := by
  induction n using Nat.strongRecOn with
  | ind n ih =>
    intro k acc hk hn ha
    obtain ⟨k, rfl⟩ : ∃ m, k = m + 1 := ⟨k - 1, by omega⟩
    simp only [runnelref01_Bytes.l0]
    rcases Nat.eq_zero_or_pos n with h | h
    · subst h
      rw [if_neg (by omega), hi_zero]
      rfl
    · rw [if_pos (by omega)]
      simp only [Option.bind_some]
      rw [hi_pos h] at hk ha
      simp only [List.length_append, List.length_singleton] at hk ha
      rw [if_pos (cap_lt (by simp; omega))]
      have e1 : IntKind.u64.wrap (Int.tmod (n : Int) 128 + 128) = ((n % 128 : Nat) : Int) + 128 := by
        rw [Int.tmod_eq_emod_of_nonneg (by omega), u64_in _ (by omega) (by omega)]; omega
      have e2 : IntKind.u64.wrap (Int.tdiv (n : Int) 128) = ((n / 128 : Nat) : Int) := by
        rw [Int.tdiv_eq_ediv_of_nonneg (by omega), u64_in _ (by omega) (by omega)]; omega
      rw [e1, e2, ih (n / 128) (by omega) k _ (by omega) (by omega) (by simp; omega)]
      rw [hi_pos h, show (((n % 128 : Nat) : Int) + 128) % 256 = ((n % 128 : Nat) : Int) + 128 by omega]
      simp
theorem Bytes_f {k n : Nat} (hn : n < 18446744073709551616) (hk : 12 ≤ k) : runnelref01_Bytes.f k n = some (enc n) := by
  have h := hi_ten hn
  have hc := cap_ge
  unfold runnelref01_Bytes.f
  have e1 : Int.tmod (n : Int) 128 % 256 = ((n % 128 : Nat) : Int) := by rw [Int.tmod_eq_emod_of_nonneg (by omega)]; omega
  have e2 : IntKind.u64.wrap (Int.tdiv (n : Int) 128) = ((n / 128 : Nat) : Int) := by rw [Int.tdiv_eq_ediv_of_nonneg (by omega), u64_in _ (by omega) (by omega)]; omega
  rw [e1, e2, Bytes_l0 _ k _ (by omega) (by omega) (by simp; omega), enc]
theorem Get_l0 (l : List Int) (hl : ∀ x ∈ l, 0 ≤ x ∧ x < 256) (at0 : Int) (d : Nat) : ∀ (k i : Nat) (n : Int), 2 * d < k → (l.length : Int) < i + d → i ≤ l.length → l.length + 10 ≤ capN → 0 ≤ n → n < 18446744073709551616 →
    num_Get.l0 k l at0 n i = some (Get l i n at0 d) := by
  induction d with
  | zero => intro k i n hk hd hi _ _ _; omega
  | succ d ih =>
    intro k i n hk hd hi hc hn0 hn1
    obtain ⟨k, rfl⟩ : ∃ m, k = m + 1 := ⟨k - 1, by omega⟩
    obtain ⟨k, rfl⟩ : ∃ m, k = m + 1 := ⟨k - 1, by omega⟩
    simp only [num_Get.l0, num_Get.j2, Get]
    by_cases h : (i : Int) < (l.length : Int)
    · rw [if_pos h, if_pos h]
      have h0 : (0 : Int) ≤ (i : Int) := by omega
      have hb := hl (l.getD i 0) (by rw [List.getD_eq_getElem?_getD, List.getElem?_eq_getElem (by omega)]; exact List.getElem_mem _)
      have hcap : (i : Int) + 1 ≤ 9223372036854775807 := by have := cap_lt (Nat.le_trans (Nat.le_add_right _ _) hc); omega
      have e0 : rd l (i : Int) = l.getD i 0 := rfl
      have e1 : (l.getD (i : Int).toNat 0) = l.getD i 0 := rfl
      have e2 : wrap64 ((i : Int) + 1) = ((i + 1 : Nat) : Int) := by rw [wrap_in _ (by omega) (by omega)]; omega
      have e3 : ((i : Int) + 1) = ((i + 1 : Nat) : Int) := by omega
      rw [e0, e1, if_pos h0, if_pos h0, if_pos h]
      generalize l.getD i 0 = b at hb ⊢
      have e4 : bits .and .u8 b 127 = b % 128 := u8_and127 b hb.1 hb.2
      by_cases g : 144115188075855872 ≤ n
      · have g1 : decide (n / 144115188075855872 > 0) = true := decide_eq_true (by omega)
        rw [g1, if_pos (Or.inr g)]
        simp only [if_true]
        split
        · split <;> rfl
        · rfl
      · have g1 : decide (n / 144115188075855872 > 0) = false := decide_eq_false (by omega)
        rw [g1]
        simp only [if_true, Bool.false_eq_true, if_false]
        have e5 : bits .or .u64 (IntKind.u64.wrap (n * 128)) (IntKind.u64.wrap (b % 128)) = n * 128 + b % 128 := u64_or_low n (b % 128) hn0 (by omega) (by omega) (by omega)
        rw [e4, e5, e2, e3]
        have rest : (if b < 128 then some (n * 128 + b % 128, ((i + 1 : Nat) : Int), (0 : Int)) else num_Get.l0 k l at0 (n * 128 + b % 128) ((i + 1 : Nat) : Int)) =
            some (if b < 128 then (n * 128 + b % 128, ((i + 1 : Nat) : Int), (0 : Int)) else Get l ((i + 1 : Nat) : Int) (n * 128 + b % 128) at0 d) := by
          by_cases hb1 : b < 128
          · rw [if_pos hb1, if_pos hb1]
          · rw [if_neg hb1, if_neg hb1, ih k (i + 1) _ (by omega) (by omega) (by omega) hc (by omega) (by omega)]
        by_cases ha : (i : Int) = at0
        · rw [if_pos ha]
          by_cases hb2 : b = 128
          · rw [if_pos hb2, if_pos (Or.inl ⟨ha, hb2⟩)]
          · rw [if_neg hb2, if_neg (show ¬ (((i : Int) = at0 ∧ b = 128) ∨ 144115188075855872 ≤ n) from fun o => o.elim (fun o => hb2 o.2) g)]
            exact rest
        · rw [if_neg ha, if_neg (show ¬ (((i : Int) = at0 ∧ b = 128) ∨ 144115188075855872 ≤ n) from fun o => o.elim (fun o => ha o.1) g)]
          exact rest
    · rw [if_neg h, if_neg h]
theorem get_f {k : Nat} (l : List Int) (hl : ∀ x ∈ l, 0 ≤ x ∧ x < 256) (at0 : Int) (hk : 2 * l.length + 8 ≤ k) (hc : l.length + 10 ≤ capN) : num_Get.f k l at0 = some (NumPure.get l at0) := by
  obtain ⟨k, rfl⟩ : ∃ m, k = m + 1 := ⟨k - 1, by omega⟩
  unfold num_Get.f NumPure.get
  simp only [num_Get.j0]
  by_cases h0 : at0 < 0
  · rw [if_pos h0, if_pos (Or.inl h0)]
    rfl
  · rw [if_neg h0]
    by_cases h1 : (l.length : Int) < at0
    · rw [decide_eq_true (show at0 > (l.length : Int) from h1), if_pos (Or.inr h1)]
      rfl
    · rw [decide_eq_false (show ¬ at0 > (l.length : Int) from h1), if_neg (show ¬ (false = true) by decide), if_neg (show ¬ (at0 < 0 ∨ (l.length : Int) < at0) from fun o => o.elim h0 h1)]
      obtain ⟨a, rfl⟩ := Int.eq_ofNat_of_zero_le (by omega : 0 ≤ at0)
      exact Get_l0 l hl _ _ k a 0 (by omega) (by omega) (by omega) hc (by omega) (by omega)
theorem take_mid (p f r : List Int) (n m : Int) (hn : n.toNat = p.length + f.length) (hm : m.toNat = p.length) : (((p ++ (f ++ r)).take n.toNat).drop m.toNat) = f := by
  rw [hn, hm, ← List.append_assoc, show p.length + f.length = (p ++ f).length by simp, List.take_left, List.drop_left]
theorem len3 (p f r : List Int) : ((p ++ (f ++ r)).length : Int) = p.length + (f.length + r.length) := by simp
theorem same_f (p f r e : List Int) (hcap : (p ++ (f ++ r)).length + 10 ≤ capN) (hlen : e.length = f.length) (hf : ∀ x ∈ f, 0 ≤ x ∧ x < 256) (he : ∀ x ∈ e, 0 ≤ x ∧ x < 256) :
    runnelref01_same.f (p ++ (f ++ r)) (p.length : Int) e = some (decide (f = e)) := by
  have hc := cap_lt (Nat.le_trans (Nat.le_add_right _ _) hcap)
  have hl := len3 p f r
  have e1 : wrap64 (((p ++ (f ++ r)).length : Int) - (p.length : Int)) = ((p ++ (f ++ r)).length : Int) - (p.length : Int) := wrap_in _ (by omega) (by omega)
  have e2 : wrap64 ((p.length : Int) + (e.length : Int)) = (p.length : Int) + (e.length : Int) := wrap_in _ (by omega) (by omega)
  unfold runnelref01_same.f
  rw [e1, e2, if_pos (by omega), if_pos (by omega), if_pos (by omega), if_pos (by omega)]
  rw [take_mid p f r _ _ (by omega) (by omega), str_of, str_of]
  by_cases h : f = e
  · subst h; simp
  · rw [decide_eq_false h]
    congr 1
    rw [beq_eq_false_iff_ne]
    exact fun h' => h (str_inj hf he h')
theorem ar_mid {P F R L : Nat} (h : (L : Int) = P + (F + (R + 1))) (hL : L < 140737488355328) : ((P + F : Nat) : Int) < (L : Int) ∧ (0 : Int) ≤ ((P + F : Nat) : Int) ∧
    wrap64 (((P + F : Nat) : Int) + 1) = ((P + F : Nat) : Int) + 1 ∧ wrap64 (((P + F : Nat) : Int) + 1 - (P : Int)) = (F : Int) + 1 ∧ wrap64 (((P + F : Nat) : Int) + 1) = ((P + (F + 1) : Nat) : Int) := by
  refine ⟨by omega, by omega, wrap_in _ (by omega) (by omega), ?_, ?_⟩
  · rw [wrap_in _ (by omega) (by omega)]; omega
  · rw [wrap_in _ (by omega) (by omega)]; omega
theorem ar_same {P L E : Nat} (hP : P ≤ L) (hL : L < 140737488355328) (hE : E ≤ 10) : wrap64 ((L : Int) - (P : Int)) = (L : Int) - (P : Int) ∧ wrap64 ((P : Int) + (E : Int)) = (P : Int) + (E : Int) ∧
    ((E : Int) ≤ (L : Int) - (P : Int) → (0 : Int) ≤ (P : Int) ∧ (P : Int) ≤ (P : Int) + (E : Int) ∧ (P : Int) + (E : Int) ≤ (L : Int)) :=
  ⟨wrap_in _ (by omega) (by omega), wrap_in _ (by omega) (by omega), fun h => ⟨by omega, by omega, by omega⟩⟩
theorem same_some (l e : List Int) (P : Nat) (hP : P ≤ l.length) (hcap : l.length < 140737488355328) (he : e.length ≤ 10) : ∃ c, runnelref01_same.f l (P : Int) e = some c := by
  obtain ⟨e1, e2, h3⟩ := ar_same hP hcap he
  unfold runnelref01_same.f
  rw [e1, e2]
  by_cases hle : (e.length : Int) ≤ (l.length : Int) - (P : Int)
  · obtain ⟨a1, a2, a3⟩ := h3 hle
    rw [if_pos hle, if_pos a1, if_pos a2, if_pos a3]
    exact ⟨_, rfl⟩
  · rw [if_neg hle]
    exact ⟨_, rfl⟩
theorem cast_succ {a b : Nat} (h : a = b + 1) : (a : Int) = (b : Int) + 1 := by omega
theorem cast_ne {a b : Nat} (h : ¬ a = b + 1) : ¬ (a : Int) = (b : Int) + 1 := by omega
theorem rd_mid (p f r : List Int) (b : Int) : rd (p ++ (f ++ b :: r)) ((p.length + f.length : Nat) : Int) = b := by
  show (p ++ (f ++ b :: r)).getD (p.length + f.length) 0 = b
  rw [List.getD_eq_getElem?_getD, List.getElem?_append_right (by omega), List.getElem?_append_right (by omega)]
  simp
/-- What the reference answers at its last byte, whatever came ahead. -/
theorem Ref_last (p f r : List Int) (b : Int) (n m : Int) (k : Nat) (hk : 14 ≤ k) (hcap : (p ++ (f ++ b :: r)).length + 10 ≤ capN) (hf : ∀ x ∈ f, 0 ≤ x ∧ x < 256) (hb0 : 0 ≤ b) (hb : b < 128) (hlt : ((p.length + f.length : Nat) : Int) < wrap64 ((p.length : Int) + 10))
    (hm : m = IntKind.u64.wrap (IntKind.u64.wrap (n * 128) + IntKind.u64.wrap (Int.tmod b 128))) :
    runnelref01_Get.l0 k (p ++ (f ++ b :: r)) (p.length : Int) n ((p.length + f.length : Nat) : Int) = some (if f ++ [b] = enc m.toNat then (m, ((p.length + f.length : Nat) : Int) + 1, 0) else (0, 0, 6)) := by
  obtain ⟨k, rfl⟩ : ∃ m, k = m + 1 := ⟨k - 1, by omega⟩
  obtain ⟨k, rfl⟩ : ∃ m, k = m + 1 := ⟨k - 1, by omega⟩
  have hl : ((p ++ (f ++ b :: r)).length : Int) = p.length + (f.length + (r.length + 1)) := by simp
  have hc : (p ++ (f ++ b :: r)).length < 140737488355328 := cap_lt (Nat.le_trans (Nat.le_add_right _ _) hcap)
  have hP : p.length ≤ (p ++ (f ++ b :: r)).length := by simp
  obtain ⟨a1, a2, e1, e2, _⟩ := ar_mid hl hc
  have hmr := u64_range (IntKind.u64.wrap (n * 128) + IntKind.u64.wrap (Int.tmod b 128))
  rw [← hm] at hmr
  obtain ⟨mm, rfl⟩ := Int.eq_ofNat_of_zero_le hmr.1
  have hmm : mm < 18446744073709551616 := by have := hmr.2; clear hl hc hcap hP hmr a1 a2 e1 e2 hlt hm; omega
  have h10 := enc_ten hmm
  simp only [runnelref01_Get.l0, runnelref01_Get.j2]
  rw [if_pos a1, decide_eq_true hlt, if_pos rfl, if_pos a2, if_pos a1, rd_mid, if_neg (show ¬ b ≥ 128 from Int.not_le.2 hb), ← hm, Bytes_f hmm (Nat.le_trans (by decide : 12 ≤ 12) (Nat.le_of_succ_le_succ (Nat.le_of_succ_le_succ hk)))]
  simp only [Option.bind_some, Int.toNat_natCast]
  rw [e1, e2]
  by_cases hlen : (enc mm).length = f.length + 1
  · have h1 := same_f p (f ++ [b]) r (enc mm) (by simpa using hcap) (by simpa using hlen) (fun x hx => by
      rcases List.mem_append.1 hx with hx | hx
      · exact hf x hx
      · rw [List.mem_singleton] at hx; rw [hx]; exact ⟨hb0, Int.lt_trans hb (by decide)⟩) (enc_byte mm)
    rw [List.append_assoc] at h1
    rw [show f ++ b :: r = f ++ ([b] ++ r) from rfl, h1]
    simp only [Option.bind_some]
    by_cases h : f ++ [b] = enc mm
    · rw [decide_eq_true h, if_pos rfl, if_pos (cast_succ hlen), if_pos h]
    · rw [decide_eq_false h, if_neg (show ¬ (false = true) by decide), if_neg h]
  · rw [if_neg (show ¬ f ++ [b] = enc mm from fun h => hlen (by rw [← h]; simp))]
    obtain ⟨c, hc2⟩ := same_some (p ++ (f ++ b :: r)) (enc mm) p.length hP hc h10
    rw [hc2]
    simp only [Option.bind_some]
    cases c with
    | true => rw [if_pos rfl, if_neg (cast_ne hlen)]
    | false => rw [if_neg (show ¬ (false = true) by decide)]
theorem Ref_step (p f r : List Int) (b : Int) (n : Int) (k : Nat) (hcap : (p ++ (f ++ b :: r)).length + 10 ≤ capN) (hb : 128 ≤ b) (hlt : ((p.length + f.length : Nat) : Int) < wrap64 ((p.length : Int) + 10)) :
    runnelref01_Get.l0 (k + 1 + 1) (p ++ (f ++ b :: r)) (p.length : Int) n ((p.length + f.length : Nat) : Int) = runnelref01_Get.l0 k (p ++ ((f ++ [b]) ++ r)) (p.length : Int) (IntKind.u64.wrap (IntKind.u64.wrap (n * 128) + IntKind.u64.wrap (Int.tmod b 128))) ((p.length + (f ++ [b]).length : Nat) : Int) := by
  have hc := cap_lt (Nat.le_trans (Nat.le_add_right _ _) hcap)
  have hl := len3 p f (b :: r)
  simp only [List.length_cons] at hl
  conv => lhs; simp only [runnelref01_Get.l0, runnelref01_Get.j2]
  have hrd : rd (p ++ (f ++ b :: r)) ((p.length + f.length : Nat) : Int) = b := by
    show (p ++ (f ++ b :: r)).getD (p.length + f.length) 0 = b
    rw [List.getD_eq_getElem?_getD, List.getElem?_append_right (by omega), List.getElem?_append_right (by omega)]
    simp
  have e1 : wrap64 (((p.length + f.length : Nat) : Int) + 1) = ((p.length + (f ++ [b]).length : Nat) : Int) := by rw [wrap_in _ (by omega) (by omega)]; simp; omega
  rw [if_pos (by omega), decide_eq_true hlt, if_pos rfl, if_pos (by omega), if_pos (by omega), hrd, if_pos (show b ≥ 128 from hb), e1, List.append_assoc]
  rfl
theorem Ref_end (p f r : List Int) (n : Int) (k : Nat) (hcap : (p ++ (f ++ r)).length + 10 ≤ capN) (hlt : r = [] ∨ ¬ ((p.length + f.length : Nat) : Int) < wrap64 ((p.length : Int) + 10)) :
    runnelref01_Get.l0 (k + 1 + 1) (p ++ (f ++ r)) (p.length : Int) n ((p.length + f.length : Nat) : Int) = some (0, 0, 6) := by
  simp only [runnelref01_Get.l0, runnelref01_Get.j2]
  by_cases h : ((p.length + f.length : Nat) : Int) < ((p ++ (f ++ r)).length : Int)
  · rw [if_pos h]
    rcases hlt with hr | hr
    · subst hr
      exact absurd h (by simp)
    · rw [decide_eq_false hr, if_neg (show ¬ (false = true) by decide)]
  · rw [if_neg h, if_neg (show ¬ (false = true) by decide)]
/-- Whatever the reference reads: a fault, or a number's own bytes. -/
theorem Ref_any (p r : List Int) : ∀ (f : List Int) (n : Int) (k : Nat), 2 * r.length + 14 ≤ k → (p ++ (f ++ r)).length + 10 ≤ capN → (∀ x ∈ f, 0 ≤ x ∧ x < 256) → (∀ x ∈ r, 0 ≤ x ∧ x < 256) →
    runnelref01_Get.l0 k (p ++ (f ++ r)) (p.length : Int) n ((p.length + f.length : Nat) : Int) = some (0, 0, 6) ∨
    ∃ (m : Nat) (t : List Int), m < 18446744073709551616 ∧ enc m = f ++ t ∧ t ≠ [] := by
  induction r with
  | nil =>
    intro f n k hk hcap hf _
    obtain ⟨k, rfl⟩ : ∃ m, k = m + 1 + 1 := ⟨k - 2, by omega⟩
    exact .inl (Ref_end p f [] n k hcap (.inl rfl))
  | cons b r ih =>
    intro f n k hk hcap hf hr
    obtain ⟨k, rfl⟩ : ∃ m, k = m + 1 + 1 := ⟨k - 2, by omega⟩
    have hb := hr b (by simp)
    by_cases hlt : ((p.length + f.length : Nat) : Int) < wrap64 ((p.length : Int) + 10)
    · by_cases h : b < 128
      · have h1 := Ref_last p f r b n _ (k + 1 + 1) (by omega) hcap hf hb.1 h hlt rfl
        rw [h1]
        have hm := u64_range (IntKind.u64.wrap (n * 128) + IntKind.u64.wrap (Int.tmod b 128))
        generalize IntKind.u64.wrap (IntKind.u64.wrap (n * 128) + IntKind.u64.wrap (Int.tmod b 128)) = m at hm
        by_cases he : f ++ [b] = enc m.toNat
        · exact .inr ⟨m.toNat, [b], by omega, he.symm, by simp⟩
        · rw [if_neg he]
          exact .inl rfl
      · rw [Ref_step p f r b n k hcap (by omega) hlt]
        have h1 := ih (f ++ [b]) (IntKind.u64.wrap (IntKind.u64.wrap (n * 128) + IntKind.u64.wrap (Int.tmod b 128))) k (by simp at hk; omega) (by simpa using hcap) (fun x hx => by
          rcases List.mem_append.1 hx with hx | hx
          · exact hf x hx
          · rw [List.mem_singleton] at hx; omega) (fun x hx => hr x (by simp [hx]))
        rcases h1 with h1 | ⟨m, t, hm, he, ht⟩
        · exact .inl h1
        · exact .inr ⟨m, b :: t, hm, by rw [he]; simp, by simp⟩
    · exact .inl (Ref_end p f (b :: r) n k hcap (.inr hlt))
/-- Whatever the reference reads behind groups that tell what they should: as the document says. -/
theorem Ref_l0 (p r : List Int) : ∀ (f : List Int) (k d : Nat), 2 * r.length + 14 ≤ k → r.length < d → (p ++ (f ++ r)).length + 10 ≤ capN → (∀ x ∈ f, 128 ≤ x ∧ x < 256) → (∀ x t, f = x :: t → x ≠ 128) → (∀ x ∈ r, 0 ≤ x ∧ x < 256) → valF 0 f < 18446744073709551616 →
    runnelref01_Get.l0 k (p ++ (f ++ r)) (p.length : Int) (valF 0 f) ((p.length + f.length : Nat) : Int) = some (Get (p ++ (f ++ r)) ((p.length + f.length : Nat) : Int) (valF 0 f) (p.length : Int) d) := by
  induction r with
  | nil =>
    intro f k d hk hd hcap hf hh _ _
    obtain ⟨k, rfl⟩ : ∃ m, k = m + 1 + 1 := ⟨k - 2, by omega⟩
    obtain ⟨d, rfl⟩ : ∃ m, d = m + 1 := ⟨d - 1, by omega⟩
    rw [Ref_end p f [] _ k hcap (.inl rfl), Get, if_neg (by simp)]
  | cons b r ih =>
    intro f k d hk hd hcap hf hh hr hv
    obtain ⟨k, rfl⟩ : ∃ m, k = m + 1 + 1 := ⟨k - 2, by omega⟩
    obtain ⟨d, rfl⟩ : ∃ m, d = m + 1 := ⟨d - 1, by omega⟩
    have hb := hr b (by simp)
    have hc := cap_lt (Nat.le_trans (Nat.le_add_right _ _) hcap)
    have hl := len3 p f (b :: r)
    simp only [List.length_cons] at hl
    have hf' : ∀ x ∈ f, 0 ≤ x ∧ x < 256 := fun x hx => by have := hf x hx; omega
    have hg : (p ++ (f ++ b :: r)).getD ((p.length + f.length : Nat) : Int).toNat 0 = b := by
      show (p ++ (f ++ b :: r)).getD (p.length + f.length) 0 = b
      rw [List.getD_eq_getElem?_getD, List.getElem?_append_right (by omega), List.getElem?_append_right (by omega)]
      simp
    rw [Get, if_pos (by omega), hg]
    have hv0 := valF_nonneg 0 (Int.le_refl 0) f
    by_cases hbad : (((p.length + f.length : Nat) : Int) = (p.length : Int) ∧ b = 128) ∨ 144115188075855872 ≤ valF 0 f
    · rw [if_pos hbad]
      rcases hbad with ⟨h1, h2⟩ | h1
      · have hf0 : f = [] := List.eq_nil_of_length_eq_zero (by omega)
        subst hf0
        subst h2
        have hlt : ((p.length + ([] : List Int).length : Nat) : Int) < wrap64 ((p.length : Int) + 10) := by rw [wrap_in _ (by omega) (by omega)]; simp; omega
        rw [Ref_step p [] r 128 _ k hcap (by omega) hlt]
        rcases Ref_any p r ([] ++ [128]) (IntKind.u64.wrap (IntKind.u64.wrap (valF 0 [] * 128) + IntKind.u64.wrap (Int.tmod 128 128))) k (by simp at hk; omega) (by simpa using hcap) (by simp) (fun x hx => hr x (by simp [hx])) with h3 | ⟨m, t, hm, he, ht⟩
        · exact h3
        · exfalso
          rw [List.nil_append] at he
          rcases hh2 : hi (m / 128) with _ | ⟨y, s⟩
          · rw [enc, hh2] at he
            simp at he
            omega
          · rw [enc, hh2] at he
            simp only [List.cons_append, List.cons.injEq] at he
            exact hi_head _ y s hh2 he.1
      · rcases Ref_any p (b :: r) f (valF 0 f) (k + 1 + 1) hk hcap hf' hr with h3 | ⟨m, t, hm, he, ht⟩
        · exact h3
        · exfalso
          have h4 := val_enc m
          rw [he, valF_append] at h4
          cases t with
          | nil => exact ht rfl
          | cons x t =>
            have h5 := valF_ge (valF 0 f * 128 + x % 128) (by omega) t
            have h6 : valF (valF 0 f) (x :: t) = valF (valF 0 f * 128 + x % 128) t := rfl
            rw [h6] at h4
            omega
    · rw [if_neg hbad]
      have h57 : valF 0 f < 144115188075855872 := by
        rcases Int.lt_or_le (valF 0 f) 144115188075855872 with h | h
        · exact h
        · exact absurd (Or.inr h) hbad
      have hten : f.length < 10 := by
        rcases Nat.lt_or_ge f.length 10 with h | h
        · exact h
        · have h2 := val_low f hf hh 9 (by omega)
          rw [show (128 : Int) ^ 9 = 9223372036854775808 by decide] at h2
          omega
      have hlt : ((p.length + f.length : Nat) : Int) < wrap64 ((p.length : Int) + 10) := by rw [wrap_in _ (by omega) (by omega)]; omega
      have em : IntKind.u64.wrap (IntKind.u64.wrap (valF 0 f * 128) + IntKind.u64.wrap (Int.tmod b 128)) = valF 0 (f ++ [b]) := by
        rw [Int.tmod_eq_emod_of_nonneg (by omega), u64_in (valF 0 f * 128) (by omega) (by omega), u64_in (b % 128) (by omega) (by omega), u64_in _ (by omega) (by omega), valF_snoc]
      have ev : valF 0 f * 128 + b % 128 = valF 0 (f ++ [b]) := (valF_snoc _ _ _).symm
      by_cases h : b < 128
      · rw [if_pos h, Ref_last p f r b _ _ (k + 1 + 1) (by omega) hcap hf' hb.1 h hlt rfl, em, ev, canon_enc f hf hh b hb.1 h, if_pos rfl]
      · rw [if_neg h, Ref_step p f r b _ k hcap (by omega) hlt, em, ev]
        have h1 := ih (f ++ [b]) k d (by simp at hk; omega) (by simp at hd; omega) (by simpa using hcap) (fun x hx => by
          rcases List.mem_append.1 hx with hx | hx
          · exact hf x hx
          · rw [List.mem_singleton] at hx; omega) (fun x t e => by
          rcases f with _ | ⟨y, s⟩
          · simp only [List.nil_append, List.cons.injEq] at e
            rw [← e.1]
            intro hb2
            exact hbad (.inl ⟨by simp, hb2⟩)
          · simp only [List.cons_append, List.cons.injEq] at e
            rw [← e.1]
            exact hh y s rfl) (fun x hx => hr x (by simp [hx])) (by rw [valF_snoc]; omega)
        rw [h1, show (p ++ ((f ++ [b]) ++ r)) = p ++ (f ++ b :: r) by simp, show ((p.length + (f ++ [b]).length : Nat) : Int) = ((p.length + f.length : Nat) : Int) + 1 by simp; omega]
theorem Rget_f {k : Nat} (l : List Int) (hl : ∀ x ∈ l, 0 ≤ x ∧ x < 256) (at0 : Int) (hk : 2 * l.length + 16 ≤ k) (hc : l.length + 10 ≤ capN) : runnelref01_Get.f k l at0 = some (NumPure.get l at0) := by
  obtain ⟨k, rfl⟩ : ∃ m, k = m + 1 := ⟨k - 1, by omega⟩
  unfold runnelref01_Get.f NumPure.get
  simp only [runnelref01_Get.j0]
  by_cases h0 : at0 < 0
  · rw [if_pos h0, if_pos (Or.inl h0)]
    rfl
  · rw [if_neg h0]
    by_cases h1 : (l.length : Int) < at0
    · rw [decide_eq_true (show at0 > (l.length : Int) from h1), if_pos (Or.inr h1)]
      rfl
    · rw [decide_eq_false (show ¬ at0 > (l.length : Int) from h1), if_neg (show ¬ (false = true) by decide), if_neg (show ¬ (at0 < 0 ∨ (l.length : Int) < at0) from fun o => o.elim h0 h1)]
      obtain ⟨a, rfl⟩ := Int.eq_ofNat_of_zero_le (by omega : 0 ≤ at0)
      have hp : (l.take a).length = a := by rw [List.length_take]; omega
      have e : l.take a ++ ([] ++ l.drop a) = l := by simp
      have h2 := Ref_l0 (l.take a) (l.drop a) [] k (l.length + 1 - a) (by rw [List.length_drop]; omega) (by rw [List.length_drop]; omega) (by rw [e]; exact hc) (by simp) (by simp) (fun x hx => hl x (List.mem_of_mem_drop hx)) (by rw [valF_nil]; omega)
      rw [e, hp] at h2
      exact h2
theorem get_range (l : List Int) (hl : ∀ x ∈ l, 0 ≤ x ∧ x < 256) (at0 : Int) (d : Nat) : ∀ (i n : Int), 0 ≤ n → 0 ≤ i → 0 ≤ (Get l i n at0 d).1 ∧ (Get l i n at0 d).1 < 18446744073709551616 := by
  induction d with
  | zero => intro i n _ _; exact ⟨Int.le_refl _, (by decide : (0 : Int) < 18446744073709551616)⟩
  | succ d ih =>
    intro i n hn hi
    rw [Get]
    split
    · rename_i h
      have hb : 0 ≤ l.getD i.toNat 0 ∧ l.getD i.toNat 0 < 256 := hl _ (by rw [List.getD_eq_getElem?_getD, List.getElem?_eq_getElem (by omega)]; exact List.getElem_mem _)
      generalize l.getD i.toNat 0 = b at hb ⊢
      split
      · exact ⟨Int.le_refl _, (by decide : (0 : Int) < 18446744073709551616)⟩
      · rename_i h2
        split
        · show 0 ≤ n * 128 + b % 128 ∧ n * 128 + b % 128 < 18446744073709551616
          have h3 : ¬ 144115188075855872 ≤ n := fun h3 => h2 (Or.inr h3)
          omega
        · exact ih _ _ (by omega) (by omega)
    · exact ⟨Int.le_refl _, (by decide : (0 : Int) < 18446744073709551616)⟩
theorem got_range (l : List Int) (hl : ∀ x ∈ l, 0 ≤ x ∧ x < 256) (at0 : Int) : 0 ≤ (NumPure.get l at0).1 ∧ (NumPure.get l at0).1 < 18446744073709551616 := by
  unfold NumPure.get
  split
  · exact ⟨Int.le_refl _, (by decide : (0 : Int) < 18446744073709551616)⟩
  · rename_i h
    exact get_range l hl at0 _ _ _ (Int.le_refl _) (by omega)
/-- P1.2: the way back. -/
def zag (x : Int) : Int := if x % 2 = 1 then -(x / 2) - 1 else x / 2
theorem xor_zero (a : Int) (h : -9223372036854775808 ≤ a) (h' : a ≤ 9223372036854775807) : bits .xor .i64 a 0 = a := by
  have e : bits .xor .i64 a 0 = IntKind.i64.wrap ((BitVec.ofInt 64 a ^^^ BitVec.ofInt 64 0).toNat : Int) := by with_unfolding_all rfl
  rw [e, show BitVec.ofInt 64 0 = 0#64 from rfl, BitVec.xor_zero, BitVec.toNat_ofInt, IntKind.wrap_i64]
  omega
theorem xor_ones (a : Int) (h : -9223372036854775808 ≤ a) (h' : a ≤ 9223372036854775807) : bits .xor .i64 a (-1) = -a - 1 := by
  have e : bits .xor .i64 a (-1) = IntKind.i64.wrap ((BitVec.ofInt 64 a ^^^ BitVec.ofInt 64 (-1)).toNat : Int) := by with_unfolding_all rfl
  rw [e, show BitVec.ofInt 64 (-1) = BitVec.allOnes 64 by decide, BitVec.xor_allOnes, BitVec.toNat_not, BitVec.toNat_ofInt, IntKind.wrap_i64]
  omega
theorem zag_f (x : Int) (h0 : 0 ≤ x) (h1 : x < 18446744073709551616) : num_zag.f x = some (zag x) := by
  unfold num_zag.f zag
  have e1 : bits .and .u64 x 1 = x % 2 := by
    rw [u64_and x 1 h0 h1 (by decide) (by decide), show ((1 : Int).toNat) = 1 from rfl, nat_mask1]; omega
  rw [e1, wrap_in (x / 2) (by omega) (by omega), wrap_in (x % 2) (by omega) (by omega), wrap_in (-(x % 2)) (by omega) (by omega)]
  by_cases h : x % 2 = 1
  · rw [if_pos h, h, xor_ones _ (by omega) (by omega)]
  · rw [if_neg h, show x % 2 = 0 by omega]
    exact congrArg some (xor_zero _ (by omega) (by omega))
theorem getInt_f {k : Nat} (l : List Int) (hl : ∀ x ∈ l, 0 ≤ x ∧ x < 256) (at0 : Int) (hk : 2 * l.length + 8 ≤ k) (hc : l.length + 10 ≤ capN) : num_GetInt.f k l at0 = some (zag (NumPure.get l at0).1, (NumPure.get l at0).2.1, (NumPure.get l at0).2.2) := by
  have h := got_range l hl at0
  unfold num_GetInt.f
  rw [get_f l hl at0 hk hc]
  simp only [Option.bind_some]
  rw [zag_f _ h.1 h.2]
  rfl
theorem RgetInt_f {k : Nat} (l : List Int) (hl : ∀ x ∈ l, 0 ≤ x ∧ x < 256) (at0 : Int) (hk : 2 * l.length + 16 ≤ k) (hc : l.length + 10 ≤ capN) : runnelref01_GetInt.f k l at0 = some (zag (NumPure.get l at0).1, (NumPure.get l at0).2.1, (NumPure.get l at0).2.2) := by
  obtain ⟨h0, h1⟩ := got_range l hl at0
  unfold runnelref01_GetInt.f
  rw [Rget_f l hl at0 hk hc]
  simp only [Option.bind_some]
  generalize NumPure.get l at0 = g at h0 h1 ⊢
  obtain ⟨x, n, e⟩ := g
  simp only at h0 h1 ⊢
  unfold zag
  rw [Int.tmod_eq_emod_of_nonneg h0, Int.tdiv_eq_ediv_of_nonneg h0, u64_in (x / 2) (by omega) (by omega), wrap_in (x / 2) (by omega) (by omega)]
  by_cases h : x % 2 = 1
  · rw [if_pos h, if_pos h, wrap_in (-(x / 2)) (by omega) (by omega), wrap_in (-(x / 2) - 1) (by omega) (by omega)]
  · rw [if_neg h, if_neg h]
theorem getD_mid (p f r : List Int) (b : Int) : (p ++ (f ++ b :: r)).getD ((p.length + f.length : Nat) : Int).toNat 0 = b := by
  rw [Int.toNat_natCast, List.getD_eq_getElem?_getD, List.getElem?_append_right (by omega), List.getElem?_append_right (by omega)]
  simp
/-- What a number's reading tells: a fault, or the number whose bytes these are. -/
theorem Get_ok (p r : List Int) : ∀ (f : List Int) (d : Nat), r.length < d → (∀ x ∈ f, 128 ≤ x ∧ x < 256) → (∀ x t, f = x :: t → x ≠ 128) → (∀ x ∈ r, 0 ≤ x ∧ x < 256) →
    Get (p ++ (f ++ r)) ((p.length + f.length : Nat) : Int) (valF 0 f) (p.length : Int) d = (0, 0, 6) ∨
    ∃ (m : Nat) (t : List Int) (r' : List Int), m < 18446744073709551616 ∧ f ++ r = enc m ++ r' ∧ Get (p ++ (f ++ r)) ((p.length + f.length : Nat) : Int) (valF 0 f) (p.length : Int) d = ((m : Int), ((p.length + (enc m).length : Nat) : Int), 0) := by
  induction r with
  | nil =>
    intro f d hd hf hh _
    obtain ⟨d, rfl⟩ : ∃ m, d = m + 1 := ⟨d - 1, by omega⟩
    left
    rw [Get, if_neg (by simp)]
  | cons b r ih =>
    intro f d hd hf hh hr
    obtain ⟨d, rfl⟩ : ∃ m, d = m + 1 := ⟨d - 1, by omega⟩
    have hb := hr b (by simp)
    rw [Get, if_pos (by simp; omega), getD_mid]
    have hv0 := valF_nonneg 0 (Int.le_refl 0) f
    by_cases hbad : (((p.length + f.length : Nat) : Int) = (p.length : Int) ∧ b = 128) ∨ 144115188075855872 ≤ valF 0 f
    · rw [if_pos hbad]; exact .inl rfl
    · rw [if_neg hbad]
      have h57 : valF 0 f < 144115188075855872 := by
        rcases Int.lt_or_le (valF 0 f) 144115188075855872 with h | h
        · exact h
        · exact absurd (Or.inr h) hbad
      by_cases h : b < 128
      · rw [if_pos h]
        right
        have hce := canon_enc f hf hh b hb.1 h
        rw [valF_snoc] at hce
        refine ⟨(valF 0 f * 128 + b % 128).toNat, [], r, by omega, by rw [hce]; simp, ?_⟩
        rw [hce]
        simp only [List.length_append, List.length_singleton, Prod.mk.injEq, and_true]
        exact ⟨by omega, by omega⟩
      · rw [if_neg h, show valF 0 f * 128 + b % 128 = valF 0 (f ++ [b]) from (valF_snoc _ _ _).symm]
        have h1 := ih (f ++ [b]) d (by simp at hd; omega) (fun x hx => by
          rcases List.mem_append.1 hx with hx | hx
          · exact hf x hx
          · rw [List.mem_singleton] at hx; omega) (fun x t e => by
          rcases f with _ | ⟨y, s⟩
          · simp only [List.nil_append, List.cons.injEq] at e
            rw [← e.1]
            intro hb2
            exact hbad (.inl ⟨by simp, hb2⟩)
          · simp only [List.cons_append, List.cons.injEq] at e
            rw [← e.1]
            exact hh y s rfl) (fun x hx => hr x (by simp [hx]))
        rw [show (p ++ ((f ++ [b]) ++ r)) = p ++ (f ++ b :: r) by simp, show ((p.length + (f ++ [b]).length : Nat) : Int) = ((p.length + f.length : Nat) : Int) + 1 by simp; omega] at h1
        rcases h1 with h1 | ⟨m, t, r', h2, h3, h4⟩
        · exact .inl h1
        · exact .inr ⟨m, t, r', h2, by rw [← h3]; simp, h4⟩
/-- P1.4: whatever is got: a fault tells noughts; else these bytes are the number's own. -/
theorem get_ok (l : List Int) (hl : ∀ x ∈ l, 0 ≤ x ∧ x < 256) (at0 : Int) : (NumPure.get l at0 = (0, 0, 9) ∧ (at0 < 0 ∨ (l.length : Int) < at0)) ∨ (NumPure.get l at0 = (0, 0, 6) ∧ 0 ≤ at0 ∧ at0 ≤ l.length) ∨
    ∃ (m : Nat) (p r : List Int), m < 18446744073709551616 ∧ l = p ++ (enc m ++ r) ∧ at0 = p.length ∧ NumPure.get l at0 = ((m : Int), ((p.length + (enc m).length : Nat) : Int), 0) := by
  unfold NumPure.get
  by_cases h : at0 < 0 ∨ (l.length : Int) < at0
  · rw [if_pos h]; exact .inl ⟨rfl, h⟩
  · rw [if_neg h]
    have h0 : 0 ≤ at0 := by omega
    obtain ⟨a, rfl⟩ := Int.eq_ofNat_of_zero_le h0
    have hp : (l.take a).length = a := by rw [List.length_take]; omega
    have e : l.take a ++ ([] ++ l.drop a) = l := by simp
    have h2 := Get_ok (l.take a) (l.drop a) [] (l.length + 1 - a) (by rw [List.length_drop]; omega) (by simp) (by simp) (fun x hx => hl x (List.mem_of_mem_drop hx))
    rw [e, hp] at h2
    rcases h2 with h2 | ⟨m, t, r', h3, h4, h5⟩
    · exact .inr (.inl ⟨h2, h0, by omega⟩)
    · refine .inr (.inr ⟨m, l.take a, r', h3, ?_, by rw [hp], ?_⟩)
      · rw [← h4, e]
      · rw [hp]; exact h5
/-- P1.2: a number with a sign as one without. -/
def zig (a : Int) : Nat := if 0 ≤ a then (2 * a).toNat else (-2 * a - 1).toNat
theorem zig_lt (a : Int) (h : -9223372036854775808 ≤ a) (h' : a ≤ 9223372036854775807) : zig a < 18446744073709551616 := by unfold zig; split <;> omega
theorem uxor_zero (a : Int) (h : 0 ≤ a) (h' : a < 18446744073709551616) : bits .xor .u64 a 0 = a := by
  rw [u64_xor a 0 h h' (by decide) (by decide), show ((0 : Int).toNat) = 0 from rfl, Nat.xor_zero]; omega
theorem uxor_ones (a : Int) (h : 0 ≤ a) (h' : a < 18446744073709551616) : bits .xor .u64 a 18446744073709551615 = 18446744073709551615 - a := by
  have e : bits .xor .u64 a 18446744073709551615 = IntKind.u64.wrap ((BitVec.ofInt 64 a ^^^ BitVec.ofInt 64 18446744073709551615).toNat : Int) := by with_unfolding_all rfl
  rw [e, show BitVec.ofInt 64 18446744073709551615 = BitVec.allOnes 64 by decide, BitVec.xor_allOnes, BitVec.toNat_not, BitVec.toNat_ofInt, u64_mod]
  omega
theorem zig_f (a : Int) (h : -9223372036854775808 ≤ a) (h' : a ≤ 9223372036854775807) : num_zig.f a = some ((zig a : Nat) : Int) := by
  unfold num_zig.f zig
  by_cases h0 : 0 ≤ a
  · rw [if_pos h0, show a / 9223372036854775808 = 0 by omega, u64_in a h0 (by omega), u64_in (a * 2) (by omega) (by omega), u64_in 0 (by decide) (by decide), uxor_zero _ (by omega) (by omega)]
    congr 1
    omega
  · rw [if_neg h0, show a / 9223372036854775808 = -1 by omega]
    rw [show IntKind.u64.wrap a = a + 18446744073709551616 by rw [u64_mod]; omega, show IntKind.u64.wrap ((a + 18446744073709551616) * 2) = 2 * a + 18446744073709551616 by rw [u64_mod]; omega, show IntKind.u64.wrap (-1) = 18446744073709551615 by rw [u64_mod]; omega]
    rw [uxor_ones _ (by omega) (by omega)]
    congr 1
    omega
theorem PutInt_f {k : Nat} (l : List Int) (a : Int) (h : -9223372036854775808 ≤ a) (h' : a ≤ 9223372036854775807) (hk : 12 ≤ k) (hl : l.length + 10 ≤ capN) : num_PutInt.f k l a = some (l ++ enc (zig a)) := by
  unfold num_PutInt.f
  rw [fresh_f l hl, zig_f a h h']
  simp only [Option.bind_some]
  rw [put_f l (zig_lt a h h') hk hl]
  rfl
theorem bytesOf_byte (s : ByteArray) : ∀ x ∈ bytesOf s, 0 ≤ x ∧ x < 256 := by
  intro x hx
  unfold bytesOf at hx
  obtain ⟨u, _, rfl⟩ := List.mem_map.1 hx
  have := u.toNat_lt
  omega
theorem str_bytesOf (s : ByteArray) : str (bytesOf s) = s.toList := by
  have e : ∀ l : List UInt8, str (l.map fun b => (b.toNat : Int)) = l := by
    intro l
    have e0 : ∀ m : List Int, str m = m.map fun n => UInt8.ofNat n.toNat := fun m => by with_unfolding_all rfl
    rw [e0]
    induction l with
    | nil => rfl
    | cons u l ih => rw [List.map_cons, List.map_cons, ih, Int.toNat_natCast, UInt8.ofNat_toNat]
  unfold bytesOf
  rw [e, toList_eq]
/-- P1.3: a text's bytes. -/
def txt (s : ByteArray) : List Int := enc s.size ++ bytesOf s
theorem PutText_f {k : Nat} (l : List Int) (s : ByteArray) (hk : 12 ≤ k) (hl : l.length + 10 + s.size ≤ capN) : num_PutText.f k l s = some (l ++ txt s) := by
  have h1 := cap_lt hl
  have hn : s.size < 18446744073709551616 := by omega
  have h10 := enc_ten hn
  unfold num_PutText.f
  rw [fresh_f l (by omega)]
  simp only [Option.bind_some]
  rw [u64_in _ (by omega) (by omega), put_f l hn hk (by omega)]
  simp only [Option.bind_some]
  rw [if_pos (by rw [List.length_append]; generalize (enc s.size).length = E at h10 ⊢; omega), txt, List.append_assoc]
theorem GetText_f {k : Nat} (l : List Int) (hl : ∀ x ∈ l, 0 ≤ x ∧ x < 256) (at0 most : Int) (hk : 2 * l.length + 8 ≤ k) (hc : l.length + 10 ≤ capN) (hm : most ≤ 9223372036854775807) :
    num_GetText.f k l at0 most = some (if most < 0 then ((⟨#[]⟩ : ByteArray), 0, 1) else if (NumPure.get l at0).2.2 = 0 then
      (if most < (NumPure.get l at0).1 then ((⟨#[]⟩ : ByteArray), 0, 2) else if (l.length : Int) - (NumPure.get l at0).2.1 < (NumPure.get l at0).1 then ((⟨#[]⟩ : ByteArray), 0, 6)
       else (strOfNums ((l.take ((NumPure.get l at0).2.1 + (NumPure.get l at0).1).toNat).drop (NumPure.get l at0).2.1.toNat), (NumPure.get l at0).2.1 + (NumPure.get l at0).1, 0))
      else ((⟨#[]⟩ : ByteArray), 0, (NumPure.get l at0).2.2)) := by
  have hcc := cap_lt (Nat.le_trans (Nat.le_add_right _ _) hc)
  unfold num_GetText.f
  by_cases h0 : most < 0
  · rw [if_pos h0, if_pos h0]
  · rw [if_neg h0, if_neg h0, get_f l hl at0 hk hc]
    simp only [Option.bind_some]
    have ho := get_ok l hl at0
    have hin : (NumPure.get l at0).2.2 = 0 → 0 ≤ (NumPure.get l at0).1 ∧ (NumPure.get l at0).1 < 18446744073709551616 ∧ 0 ≤ (NumPure.get l at0).2.1 ∧ (NumPure.get l at0).2.1 ≤ (l.length : Int) := by
      intro he
      rcases ho with ⟨ho, _⟩ | ⟨ho, _⟩ | ⟨m, p, r, h1, h2, h3, ho⟩
      · rw [ho] at he; cases he
      · rw [ho] at he; cases he
      · rw [ho, h2]
        simp only [List.length_append]
        generalize (enc m).length = E
        exact ⟨by omega, by omega, by omega, by omega⟩
    generalize NumPure.get l at0 = g at hin ⊢
    obtain ⟨n, b, e⟩ := g
    simp only at hin ⊢
    by_cases he : e = 0
    · obtain ⟨h1, h2, h3, h4⟩ := hin he
      rw [if_pos he, if_pos he, u64_in most (by omega) (by omega)]
      by_cases h5 : most < n
      · rw [if_pos (show n > most from h5), if_pos h5]
      · rw [if_neg (show ¬ n > most from h5), if_neg h5, wrap_in ((l.length : Int) - b) (by omega) (by omega), u64_in ((l.length : Int) - b) (by omega) (by omega)]
        by_cases h6 : (l.length : Int) - b < n
        · rw [if_pos (show n > (l.length : Int) - b from h6), if_pos h6]
        · rw [if_neg (show ¬ n > (l.length : Int) - b from h6), if_neg h6, wrap_in n (by omega) (by omega), wrap_in (b + n) (by omega) (by omega), if_pos h3, if_pos (by omega), if_pos (by omega)]
    · rw [if_neg he, if_neg he]
theorem RGetText_f {k : Nat} (l : List Int) (hl : ∀ x ∈ l, 0 ≤ x ∧ x < 256) (at0 most : Int) (hk : 2 * l.length + 16 ≤ k) (hc : l.length + 10 ≤ capN) (hm : most ≤ 9223372036854775807) :
    runnelref01_GetText.f k l at0 most = some (if most < 0 then ((⟨#[]⟩ : ByteArray), 0, 1) else if (NumPure.get l at0).2.2 = 0 then
      (if most < (NumPure.get l at0).1 then ((⟨#[]⟩ : ByteArray), 0, 2) else if (l.length : Int) - (NumPure.get l at0).2.1 < (NumPure.get l at0).1 then ((⟨#[]⟩ : ByteArray), 0, 6)
       else (strOfNums ((l.take ((NumPure.get l at0).2.1 + (NumPure.get l at0).1).toNat).drop (NumPure.get l at0).2.1.toNat), (NumPure.get l at0).2.1 + (NumPure.get l at0).1, 0))
      else ((⟨#[]⟩ : ByteArray), 0, (NumPure.get l at0).2.2)) := by
  have hcc := cap_lt (Nat.le_trans (Nat.le_add_right _ _) hc)
  unfold runnelref01_GetText.f
  by_cases h0 : most < 0
  · rw [if_pos h0, if_pos h0]
  · rw [if_neg h0, if_neg h0, Rget_f l hl at0 hk hc]
    simp only [Option.bind_some]
    have ho := get_ok l hl at0
    have hin : (NumPure.get l at0).2.2 = 0 → 0 ≤ (NumPure.get l at0).1 ∧ (NumPure.get l at0).1 < 18446744073709551616 ∧ 0 ≤ (NumPure.get l at0).2.1 ∧ (NumPure.get l at0).2.1 ≤ (l.length : Int) := by
      intro he
      rcases ho with ⟨ho, _⟩ | ⟨ho, _⟩ | ⟨m, p, r, h1, h2, h3, ho⟩
      · rw [ho] at he; cases he
      · rw [ho] at he; cases he
      · rw [ho, h2]
        simp only [List.length_append]
        generalize (enc m).length = E
        exact ⟨by omega, by omega, by omega, by omega⟩
    generalize NumPure.get l at0 = g at hin ⊢
    obtain ⟨n, b, e⟩ := g
    simp only at hin ⊢
    by_cases he : e = 0
    · obtain ⟨h1, h2, h3, h4⟩ := hin he
      rw [if_pos he, if_pos he, u64_in most (by omega) (by omega)]
      by_cases h5 : most < n
      · rw [if_pos (show n > most from h5), if_pos h5]
      · rw [if_neg (show ¬ n > most from h5), if_neg h5, wrap_in ((l.length : Int) - b) (by omega) (by omega), u64_in ((l.length : Int) - b) (by omega) (by omega)]
        by_cases h6 : (l.length : Int) - b < n
        · rw [if_pos (show n > (l.length : Int) - b from h6), if_pos h6]
        · rw [if_neg (show ¬ n > (l.length : Int) - b from h6), if_neg h6, wrap_in n (by omega) (by omega), wrap_in (b + n) (by omega) (by omega), if_pos h3, if_pos (by omega), if_pos (by omega)]
    · rw [if_neg he, if_neg he]
/-- What two terms, two nodes, two plans are compared by. -/
def tk (x : S52) : Int × Int × List UInt8 := (x.f0, x.f1, x.f2.toList)
def ek (l : List S52) : List (Int × Int × List UInt8) := l.map tk
abbrev NK := ((Int × Int × Int × Int × Int) × (List Int × List Int × List Int)) × List (List (Int × Int × List UInt8))
noncomputable instance : DecidableEq NK := fun a b => Classical.propDecidable (a = b)
def nk (x : S44) : NK := (((x.f0, x.f5, x.f6, x.f7, x.f8), (x.f1, x.f2, x.f4)), x.f3.map ek)
theorem wrapi {i n : Nat} (h : i < n) (hn : n ≤ maxLen) : wrap64 ((i : Int) + 1) = ((i + 1 : Nat) : Int) := by
  have : maxLen = 9223372036854775807 := by with_unfolding_all rfl
  have e : wrap64 ((i : Int) + 1) = ((i : Int) + 1 + 9223372036854775808) % 18446744073709551616 - 9223372036854775808 := by with_unfolding_all rfl
  rw [e]; omega
theorem rdI (l : List Int) (i : Nat) (h : i < l.length) : rd l (i : Int) = l[i] := by unfold rd; rw [Int.toNat_natCast, List.getD_eq_getElem?_getD, List.getElem?_eq_getElem h]; rfl
theorem rdT (l : List S52) (i : Nat) (h : i < l.length) : rd_T52 l (i : Int) = l[i] := by unfold rd_T52; rw [Int.toNat_natCast, List.getD_eq_getElem?_getD, List.getElem?_eq_getElem h]; rfl
theorem rdN (l : List S44) (i : Nat) (h : i < l.length) : rd_T44 l (i : Int) = l[i] := by unfold rd_T44; rw [Int.toNat_natCast, List.getD_eq_getElem?_getD, List.getElem?_eq_getElem h]; rfl
theorem rdE (l : List (List S52)) (i : Nat) (h : i < l.length) : rd_L3 l (i : Int) = l[i] := by unfold rd_L3; rw [Int.toNat_natCast, List.getD_eq_getElem?_getD, List.getElem?_eq_getElem h]; rfl
theorem rints_l0 (l m : List Int) (hl : l.length ≤ maxLen) (he : l.length = m.length) (d : Nat) : ∀ (k i : Nat), i + d = l.length → d < k →
    runnelref16_same.l0 k l m (i : Int) = some (decide ((l.drop i).map id = (m.drop i).map id)) := by
  induction d with
  | zero =>
    intro k i hi hk
    obtain ⟨k, rfl⟩ : ∃ n, k = n + 1 := ⟨k - 1, by omega⟩
    simp only [runnelref16_same.l0]
    rw [if_neg (by omega), decide_end id l m i (by omega) (by omega)]
  | succ d ih =>
    intro k i hi hk
    obtain ⟨k, rfl⟩ : ∃ n, k = n + 1 := ⟨k - 1, by omega⟩
    simp only [runnelref16_same.l0]
    rw [if_pos (by omega), if_pos (by omega), if_pos (by omega), rdI l i (by omega), rdI m i (by omega), wrapi (n := l.length) (by omega) hl, ih k (i + 1) (by omega) (by omega), decide_step id l m i (by omega) (by omega)]
    by_cases h : l[i]'(by omega) = m[i]'(by omega)
    · rw [if_pos h, decide_eq_true (show id _ = id _ from h)]; rfl
    · rw [if_neg h, decide_eq_false (show ¬ id _ = id _ from h)]; rfl
theorem rints_f {k : Nat} (l m : List Int) (hl : l.length ≤ maxLen) (hk : l.length < k) : runnelref16_Same.f k l m = some (decide (l = m)) := by
  unfold runnelref16_Same.f runnelref16_same.f
  by_cases h : l.length = m.length
  · rw [if_pos (by omega)]
    have := rints_l0 l m hl h l.length k 0 (by omega) hk
    rw [show ((0 : Nat) : Int) = 0 from rfl] at this
    rw [this]; simp
  · rw [if_neg (by omega)]
    have := decide_len id l m h
    simp only [List.map_id] at this
    rw [this]; rfl
theorem term_test (a b : S52) : (!(a.f0 == b.f0) || (!(a.f1 == b.f1) || (!(a.f2.toList == b.f2.toList)))) = !decide (tk a = tk b) := by
  unfold tk
  by_cases h0 : a.f0 = b.f0
  · by_cases h1 : a.f1 = b.f1
    · by_cases h2 : a.f2.toList = b.f2.toList
      · simp [h0, h1, h2]
      · simp [h0, h1, h2]
    · simp [h0, h1]
  · simp [h0]
def NW (a : S44) : Prop := a.f1.length ≤ maxLen ∧ a.f2.length ≤ maxLen ∧ a.f4.length ≤ maxLen ∧ a.f3.length ≤ maxLen ∧ ∀ x ∈ a.f3, x.length ≤ maxLen
section
variable (ns ms : List S44) (o q : List Int) (r s : Int)
def L0 (i : Int) (k : Nat) : Option Bool := runnelref17_Same.l0 k i ns o r ms q s
def J2 (a b : S44) (x : Int) (t : Bool) (k : Nat) : Option Bool := runnelref17_Same.j2 k x t ns o r ms q s a.f0 a.f1 a.f2 a.f3 a.f4 a.f5 a.f6 a.f7 a.f8 b.f0 b.f1 b.f2 b.f3 b.f4 b.f5 b.f6 b.f7 b.f8
def L1 (a b : S44) (x e : Int) (k : Nat) : Option Bool := runnelref17_Same.l1 k x e ns o r ms q s a.f0 a.f1 a.f2 a.f3 a.f4 a.f5 a.f6 a.f7 a.f8 b.f0 b.f1 b.f2 b.f3 b.f4 b.f5 b.f6 b.f7 b.f8
def L2 (a b : S44) (x e j : Int) (k : Nat) : Option Bool := runnelref17_Same.l2 k x e j ns o r ms q s a.f0 a.f1 a.f2 a.f3 a.f4 a.f5 a.f6 a.f7 a.f8 b.f0 b.f1 b.f2 b.f3 b.f4 b.f5 b.f6 b.f7 b.f8
theorem L2_ev (a b : S44) (x : Int) (e : Nat) (he : e < a.f3.length) (he' : e < b.f3.length) (hlen : (a.f3[e]).length = (b.f3[e]).length) (hm : (a.f3[e]).length ≤ maxLen) (hm3 : a.f3.length ≤ maxLen)
    (R : Bool) (h : Ev (L1 ns ms o q r s a b x ((e + 1 : Nat) : Int)) R) (d : Nat) : ∀ j : Nat, j + d = (a.f3[e]).length →
    Ev (L2 ns ms o q r s a b x e j) (decide (((a.f3[e]).drop j).map tk = ((b.f3[e]).drop j).map tk) && R) := by
  induction d with
  | zero =>
    intro j hj
    rw [decide_end tk _ _ j (by omega) (by omega), Bool.true_and]
    refine Ev.step (fun k => ?_) h
    show runnelref17_Same.l2 (k + 1) _ _ _ _ _ _ _ _ _ _ _ _ _ _ _ _ _ _ _ _ _ _ _ _ _ _ _ = _
    simp only [runnelref17_Same.l2]
    rw [rdE a.f3 e he, if_pos (by omega), if_pos (by omega), if_neg (by omega), wrapi (n := a.f3.length) he hm3]
    rfl
  | succ d ih =>
    intro j hj
    rw [decide_step tk _ _ j (by omega) (by omega)]
    by_cases ht : tk ((a.f3[e])[j]'(by omega)) = tk ((b.f3[e])[j]'(by omega))
    · rw [decide_eq_true ht, Bool.true_and]
      refine Ev.step (fun k => ?_) (ih (j + 1) (by omega))
      show runnelref17_Same.l2 (k + 1) _ _ _ _ _ _ _ _ _ _ _ _ _ _ _ _ _ _ _ _ _ _ _ _ _ _ _ = _
      simp only [runnelref17_Same.l2]
      rw [rdE a.f3 e he, rdE b.f3 e he', if_pos (by omega), if_pos (by omega), if_pos (by omega), if_pos (by omega), if_pos (by omega), if_pos (by omega), rdT _ j (by omega), rdT _ j (by omega), term_test, decide_eq_true ht, wrapi (n := (a.f3[e]).length) (by omega) hm]
      rfl
    · rw [decide_eq_false ht, Bool.false_and, Bool.false_and]
      refine Ev.step (fun k => ?_) (Ev.now false)
      show runnelref17_Same.l2 (k + 1) _ _ _ _ _ _ _ _ _ _ _ _ _ _ _ _ _ _ _ _ _ _ _ _ _ _ _ = _
      simp only [runnelref17_Same.l2]
      rw [rdE a.f3 e he, rdE b.f3 e he', if_pos (by omega), if_pos (by omega), if_pos (by omega), if_pos (by omega), if_pos (by omega), if_pos (by omega), rdT _ j (by omega), rdT _ j (by omega), term_test, decide_eq_false ht]
      rfl
theorem L1_ev (a b : S44) (x : Nat) (hx : x < ns.length) (hns : ns.length ≤ maxLen) (hw : NW a) (hlen : a.f3.length = b.f3.length)
    (R : Bool) (h : Ev (L0 ns ms o q r s ((x + 1 : Nat) : Int)) R) (d : Nat) : ∀ e : Nat, e + d = a.f3.length →
    Ev (L1 ns ms o q r s a b x e) (decide ((a.f3.drop e).map ek = (b.f3.drop e).map ek) && R) := by
  induction d with
  | zero =>
    intro e he
    rw [decide_end ek _ _ e (by omega) (by omega), Bool.true_and]
    refine Ev.step (fun k => ?_) h
    show runnelref17_Same.l1 (k + 1) _ _ _ _ _ _ _ _ _ _ _ _ _ _ _ _ _ _ _ _ _ _ _ _ _ _ = _
    simp only [runnelref17_Same.l1]
    rw [if_neg (by omega), wrapi (n := ns.length) hx hns]
    rfl
  | succ d ih =>
    intro e he
    have h1 : e < a.f3.length := by omega
    have h2 : e < b.f3.length := by omega
    rw [decide_step ek _ _ e h1 h2]
    by_cases hl : (a.f3[e]).length = (b.f3[e]).length
    · rw [Bool.and_assoc]
      have := L2_ev ns ms o q r s a b x e h1 h2 hl (hw.2.2.2.2 _ (List.getElem_mem _)) hw.2.2.2.1 _ (ih (e + 1) (by omega)) (a.f3[e]).length 0 (by omega)
      refine Ev.step (fun k => ?_) this
      show runnelref17_Same.l1 (k + 1) _ _ _ _ _ _ _ _ _ _ _ _ _ _ _ _ _ _ _ _ _ _ _ _ _ _ = _
      simp only [runnelref17_Same.l1]
      rw [rdE a.f3 e h1, rdE b.f3 e h2, if_pos (by omega), if_pos (by omega), if_pos (by omega), if_pos (by omega)]
      rfl
    · have hne : ¬ ek a.f3[e] = ek b.f3[e] := fun e_ => hl (by have := congrArg List.length e_; simpa [ek] using this)
      rw [decide_eq_false hne, Bool.false_and, Bool.false_and]
      refine Ev.step (fun k => ?_) (Ev.now false)
      show runnelref17_Same.l1 (k + 1) _ _ _ _ _ _ _ _ _ _ _ _ _ _ _ _ _ _ _ _ _ _ _ _ _ _ = _
      simp only [runnelref17_Same.l1]
      rw [rdE a.f3 e h1, rdE b.f3 e h2, if_pos (by omega), if_pos (by omega), if_pos (by omega), if_neg (by omega)]
theorem J2_true (a b : S44) (x : Int) : Ev (J2 ns ms o q r s a b x true) false := by
  refine Ev.step (fun k => ?_) (Ev.now false)
  show runnelref17_Same.j2 (k + 1) _ _ _ _ _ _ _ _ _ _ _ _ _ _ _ _ _ _ _ _ _ _ _ _ _ _ = _
  simp only [runnelref17_Same.j2]
  rfl
theorem ints_ev (l m : List Int) (hl : l.length ≤ maxLen) : Ev (fun k => runnelref16_Same.f k l m) (decide (l = m)) := ⟨l.length + 1, fun k hk => rints_f l m hl (by omega)⟩
theorem L0_ev (hns : ns.length ≤ maxLen) (hw : ∀ x ∈ ns, NW x) (hlen : ns.length = ms.length) (d : Nat) : ∀ i : Nat, i + d = ns.length →
    Ev (L0 ns ms o q r s i) (decide ((ns.drop i).map nk = (ms.drop i).map nk)) := by
  induction d with
  | zero =>
    intro i hi
    rw [decide_end nk _ _ i (by omega) (by omega)]
    refine Ev.step (fun k => ?_) (Ev.now true)
    show runnelref17_Same.l0 (k + 1) _ _ _ _ _ _ _ = _
    simp only [runnelref17_Same.l0]
    rw [if_neg (by omega)]
  | succ d ih =>
    intro i hi
    have h1 : i < ns.length := by omega
    have h2 : i < ms.length := by omega
    have hwi := hw _ (List.getElem_mem h1)
    have rest := ih (i + 1) (by omega)
    rw [decide_step nk _ _ i h1 h2]
    generalize hR : decide ((ns.drop (i + 1)).map nk = (ms.drop (i + 1)).map nk) = R at rest ⊢
    have ea := rdN ns i h1
    have eb := rdN ms i h2
    generalize hA : ns[i] = a at ea hwi ⊢
    generalize hB : ms[i] = b at eb ⊢
    have bad := J2_true ns ms o q r s a b i
    have good : ∀ t : Bool, t = false → a.f3.length = b.f3.length → Ev (J2 ns ms o q r s a b i t) (decide (a.f3.map ek = b.f3.map ek) && R) := by
      rintro t rfl hl
      have := L1_ev ns ms o q r s a b i h1 hns hwi hl R rest a.f3.length 0 (by omega)
      refine Ev.step (fun k => ?_) this
      show runnelref17_Same.j2 (k + 1) _ _ _ _ _ _ _ _ _ _ _ _ _ _ _ _ _ _ _ _ _ _ _ _ _ _ = _
      simp only [runnelref17_Same.j2]
      rfl
    have start : ∀ k, L0 ns ms o q r s i (k + 1) = (if a.f0 = b.f0 then (if a.f5 = b.f5 then (if a.f6 = b.f6 then (if a.f7 = b.f7 then (if a.f8 = b.f8 then ((runnelref16_Same.f k a.f1 b.f1).bind fun t => if t = true then ((runnelref16_Same.f k a.f2 b.f2).bind fun t => if t = true then ((runnelref16_Same.f k a.f4 b.f4).bind fun t => if t = true then J2 ns ms o q r s a b i ((a.f3.length : Int) != (b.f3.length : Int)) k else J2 ns ms o q r s a b i true k) else J2 ns ms o q r s a b i true k) else J2 ns ms o q r s a b i true k) else J2 ns ms o q r s a b i true k) else J2 ns ms o q r s a b i true k) else J2 ns ms o q r s a b i true k) else J2 ns ms o q r s a b i true k) else J2 ns ms o q r s a b i true k) := by
      intro k
      show runnelref17_Same.l0 (k + 1) _ _ _ _ _ _ _ = _
      simp only [runnelref17_Same.l0]
      rw [ea, eb, if_pos (by omega), if_pos (by omega), if_pos (by omega)]
      rfl
    refine Ev.step start ?_
    have nf : ∀ {p : Bool}, (decide (nk a = nk b) && R) = p → p = false ∨ (nk a = nk b ∧ p = R) := by
      intro p hp
      by_cases h : nk a = nk b
      · exact .inr ⟨h, by rw [← hp, decide_eq_true h, Bool.true_and]⟩
      · exact .inl (by rw [← hp, decide_eq_false h, Bool.false_and])
    have no : ∀ P : Prop, ¬ P → (nk a = nk b → P) → (decide (nk a = nk b) && R) = false := fun P hP hi => by rw [decide_eq_false (fun e => hP (hi e)), Bool.false_and]
    by_cases c0 : a.f0 = b.f0
    · by_cases c5 : a.f5 = b.f5
      · by_cases c6 : a.f6 = b.f6
        · by_cases c7 : a.f7 = b.f7
          · by_cases c8 : a.f8 = b.f8
            · simp only [c0, c5, c6, c7, c8, if_true]
              refine Ev.bind (ints_ev a.f1 b.f1 hwi.1) ?_
              by_cases c1 : a.f1 = b.f1
              · simp only [decide_eq_true c1, if_true]
                refine Ev.bind (ints_ev a.f2 b.f2 hwi.2.1) ?_
                by_cases c2 : a.f2 = b.f2
                · simp only [decide_eq_true c2, if_true]
                  refine Ev.bind (ints_ev a.f4 b.f4 hwi.2.2.1) ?_
                  by_cases c4 : a.f4 = b.f4
                  · simp only [decide_eq_true c4, if_true]
                    by_cases c3 : a.f3.length = b.f3.length
                    · have e : decide (nk a = nk b) = decide (a.f3.map ek = b.f3.map ek) := by
                        apply decide_eq_decide.2
                        unfold nk
                        simp [c0, c1, c2, c4, c5, c6, c7, c8]
                      rw [e]
                      exact good _ (bne_eq_false_iff_eq.2 (by omega)) c3
                    · rw [no _ c3 (fun e => by unfold nk at e; simp at e; have := congrArg List.length e.2; simpa using this), show ((a.f3.length : Int) != (b.f3.length : Int)) = true from bne_iff_ne.2 (by omega)]
                      exact bad
                  · simp only [decide_eq_false c4, Bool.false_eq_true, if_false]
                    rw [no _ c4 (fun e => by unfold nk at e; simp at e; exact e.1.2.2.2)]
                    exact bad
                · simp only [decide_eq_false c2, Bool.false_eq_true, if_false]
                  rw [no _ c2 (fun e => by unfold nk at e; simp at e; exact e.1.2.2.1)]
                  exact bad
              · simp only [decide_eq_false c1, Bool.false_eq_true, if_false]
                rw [no _ c1 (fun e => by unfold nk at e; simp at e; exact e.1.2.1)]
                exact bad
            · simp only [c0, c5, c6, c7, c8, if_true, if_false]
              rw [no _ c8 (fun e => by unfold nk at e; simp at e; exact e.1.1.2.2.2.2)]
              exact bad
          · simp only [c0, c5, c6, c7, if_true, if_false]
            rw [no _ c7 (fun e => by unfold nk at e; simp at e; exact e.1.1.2.2.2.1)]
            exact bad
        · simp only [c0, c5, c6, if_true, if_false]
          rw [no _ c6 (fun e => by unfold nk at e; simp at e; exact e.1.1.2.2.1)]
          exact bad
      · simp only [c0, c5, if_true, if_false]
        rw [no _ c5 (fun e => by unfold nk at e; simp at e; exact e.1.1.2.1)]
        exact bad
    · simp only [c0, if_false]
      rw [no _ c0 (fun e => by unfold nk at e; simp at e; exact e.1.1.1)]
      exact bad
theorem RSame_ev (hns : ns.length ≤ maxLen) (hw : ∀ x ∈ ns, NW x) (ho : o.length ≤ maxLen) :
    Ev (fun k => runnelref17_Same.f k ns o r ms q s) (decide ((r, o, ns.map nk) = (s, q, ms.map nk))) := by
  have jbad : Ev (fun k => runnelref17_Same.j0 k true ns o r ms q s) false := by
    refine Ev.step (fun k => ?_) (Ev.now false)
    simp only [runnelref17_Same.j0]
    rfl
  by_cases h1 : r = s
  · have e : ∀ k, runnelref17_Same.f k ns o r ms q s = (runnelref16_Same.f k o q).bind fun t => if t = true then runnelref17_Same.j0 k ((ns.length : Int) != (ms.length : Int)) ns o r ms q s else runnelref17_Same.j0 k true ns o r ms q s := by
      intro k
      unfold runnelref17_Same.f
      rw [if_pos h1]
    refine Ev.congr e (Ev.bind (ints_ev o q ho) ?_)
    by_cases h2 : o = q
    · simp only [decide_eq_true h2, if_true]
      by_cases h3 : ns.length = ms.length
      · have l0 := L0_ev ns ms o q r s hns hw h3 ns.length 0 (by omega)
        rw [show ((ns.length : Int) != (ms.length : Int)) = false from bne_eq_false_iff_eq.2 (by omega)]
        have e2 : decide ((r, o, ns.map nk) = (s, q, ms.map nk)) = decide ((ns.drop 0).map nk = (ms.drop 0).map nk) := by
          apply decide_eq_decide.2
          simp [h1, h2]
        rw [e2]
        refine Ev.step (fun k => ?_) l0
        simp only [runnelref17_Same.j0]
        rfl
      · rw [show ((ns.length : Int) != (ms.length : Int)) = true from bne_iff_ne.2 (by omega), show decide ((r, o, ns.map nk) = (s, q, ms.map nk)) = false from decide_eq_false (fun e => h3 (by have := congrArg (fun z => z.2.2.length) e; simpa using this))]
        exact jbad
    · simp only [decide_eq_false h2, Bool.false_eq_true, if_false]
      rw [show decide ((r, o, ns.map nk) = (s, q, ms.map nk)) = false from decide_eq_false (fun e => h2 (congrArg (fun z => z.2.1) e))]
      exact jbad
  · have e : ∀ k, runnelref17_Same.f k ns o r ms q s = runnelref17_Same.j0 k true ns o r ms q s := by
      intro k
      unfold runnelref17_Same.f
      rw [if_neg h1]
    refine Ev.congr e ?_
    rw [show decide ((r, o, ns.map nk) = (s, q, ms.map nk)) = false from decide_eq_false (fun e => h1 (congrArg (fun z => z.1) e))]
    exact jbad
end
section
variable (ns : List S44) (o : List Int) (r : Int)
end
theorem live_60 : runnellaw17_live.f 60 = some true := by decide +kernel
theorem live_ev : Ev (fun k => runnellaw17_live.f k) true := Ev.of (fun k => runnellaw17_live.mono k) live_60
def i64 (a : Int) : Prop := -9223372036854775808 ≤ a ∧ a ≤ 9223372036854775807
def one (a : Int) : List Int := enc (zig a)
theorem one_len (a : Int) (h : i64 a) : (one a).length ≤ 10 := enc_ten (zig_lt a h.1 h.2)
def flat {α : Type} (f : α → List Int) : List α → List Int
  | [] => []
  | x :: t => f x ++ flat f t
def lst {α : Type} (f : α → List Int) (l : List α) : List Int := enc l.length ++ flat f l
theorem flat_len {α : Type} (f : α → List Int) (B : Nat) (l : List α) (h : ∀ x ∈ l, (f x).length ≤ B) : (flat f l).length ≤ B * l.length := by
  induction l with
  | nil => simp [flat]
  | cons x t ih =>
    have h1 := h x (by simp)
    have h2 := ih (fun y hy => h y (by simp [hy]))
    rw [flat, List.length_append, List.length_cons, Nat.mul_succ]
    omega
theorem lst_len {α : Type} (f : α → List Int) (B : Nat) (l : List α) (hl : l.length ≤ 100) (h : ∀ x ∈ l, (f x).length ≤ B) : (lst f l).length ≤ 10 + B * l.length := by
  have h1 := flat_len f B l h
  have h10 := enc_ten (n := l.length) (by omega)
  rw [lst, List.length_append]
  omega
def tbytes (t : S52) : List Int := one t.f0 ++ (one t.f1 ++ txt t.f2)
def ebytes (e : List S52) : List Int := lst tbytes e
def nbytes (x : S44) : List Int := one x.f0 ++ (lst one x.f1 ++ (lst one x.f2 ++ (lst ebytes x.f3 ++ (lst one x.f4 ++ (one x.f5 ++ (one x.f6 ++ (one x.f7 ++ one x.f8)))))))
/-- P17.2: a plan's bytes. -/
def pbytes (ns : List S44) (o : List Int) (r : Int) : List Int := 80 :: (one r ++ (lst one o ++ lst nbytes ns))
structure tgood (t : S52) : Prop where
  op : i64 t.f0
  int : i64 t.f1
  str : t.f2.size ≤ 4096
def egood (e : List S52) : Prop := e.length ≤ 64 ∧ ∀ t ∈ e, tgood t
structure ngood (x : S44) : Prop where
  kind : i64 x.f0
  insl : x.f1.length ≤ 8
  ins : ∀ a ∈ x.f1, i64 a
  kindsl : x.f2.length ≤ 16
  kinds : ∀ a ∈ x.f2, i64 a
  exprsl : x.f3.length ≤ 16
  exprs : ∀ e ∈ x.f3, egood e
  colsl : x.f4.length ≤ 16
  cols : ∀ a ∈ x.f4, i64 a
  key : i64 x.f5
  n : i64 x.f6
  size : i64 x.f7
  slide : i64 x.f8
structure pgood (ns : List S44) (o : List Int) (r : Int) : Prop where
  nsl : ns.length ≤ 64
  ns : ∀ x ∈ ns, ngood x
  ol : o.length ≤ 8
  o : ∀ a ∈ o, i64 a
  r : i64 r
theorem txt_len (s : ByteArray) (h : s.size ≤ 4096) : (txt s).length ≤ 4106 := by
  have h10 := enc_ten (n := s.size) (by omega)
  have hb : (bytesOf s).length = s.size := by unfold bytesOf; simp
  unfold txt
  rw [List.length_append, hb]
  omega
theorem tbytes_len (t : S52) (h : tgood t) : (tbytes t).length ≤ 4126 := by
  have a := one_len _ h.op
  have b := one_len _ h.int
  have c := txt_len _ h.str
  rw [tbytes, List.length_append, List.length_append]
  omega
theorem ebytes_len (e : List S52) (h : egood e) : (ebytes e).length ≤ 264074 := by
  have := lst_len tbytes 4126 e (by have := h.1; omega) (fun t ht => tbytes_len t (h.2 t ht))
  have h1 := h.1
  rw [ebytes]
  omega
theorem ints_len (l : List Int) (hl : l.length ≤ 16) (h : ∀ a ∈ l, i64 a) : (lst one l).length ≤ 170 := by
  have := lst_len one 10 l (by omega) (fun t ht => one_len t (h t ht))
  omega
theorem nbytes_len (x : S44) (h : ngood x) : (nbytes x).length ≤ 4226000 := by
  have a0 := one_len _ h.kind
  have a1 := ints_len _ (by have := h.insl; omega) h.ins
  have a2 := ints_len _ h.kindsl h.kinds
  have a3 := lst_len ebytes 264074 x.f3 (by have := h.exprsl; omega) (fun e he => ebytes_len e (h.exprs e he))
  have a4 := ints_len _ h.colsl h.cols
  have a5 := one_len _ h.key
  have a6 := one_len _ h.n
  have a7 := one_len _ h.size
  have a8 := one_len _ h.slide
  have h3 := h.exprsl
  rw [nbytes]
  simp only [List.length_append]
  omega
/-- A number behind bytes. -/
theorem puti_ev (b : List Int) (a : Int) (h : i64 a) (hb : b.length ≤ 900000000) : Ev (fun k => num_PutInt.f k b a) (b ++ one a) := ⟨12, fun k hk => PutInt_f b a h.1 h.2 hk (by have := cap_ge; omega)⟩
theorem put_ev (b : List Int) (n : Nat) (h : n ≤ 100) (hb : b.length ≤ 900000000) : Ev (fun k => num_Put.f k b (IntKind.u64.wrap (n : Int))) (b ++ enc n) := ⟨12, fun k hk => by rw [u64_in _ (by omega) (by omega)]; exact Put_f b (by omega) hk (by have := cap_ge; omega)⟩
theorem putt_ev (b : List Int) (s : ByteArray) (h : s.size ≤ 4096) (hb : b.length ≤ 900000000) : Ev (fun k => num_PutText.f k b s) (b ++ txt s) := ⟨12, fun k hk => PutText_f b s hk (by have := cap_ge; omega)⟩
theorem maxLen_big : (100000 : Nat) ≤ maxLen := by unfold maxLen; omega
theorem li_l0 (l : List Int) (hm : l.length ≤ 100) (hg : ∀ x ∈ l, i64 x) (d : Nat) : ∀ (i : Nat) (acc : List Int), i + d = l.length → acc.length + 10 * d ≤ 900000000 →
    Ev (fun k => sheet_list_int.l0 k acc l (l.length : Int) (i : Int)) (acc ++ flat one (l.drop i)) := by
  induction d with
  | zero =>
    intro i acc hi _
    rw [List.drop_of_length_le (by omega), flat, List.append_nil]
    refine Ev.step (fun k => ?_) (Ev.now acc)
    simp only [sheet_list_int.l0]
    rw [if_neg (by omega)]
  | succ d ih =>
    intro i acc hi hb
    have hil : i < l.length := by omega
    have hx := hg _ (List.getElem_mem hil)
    have hlen := one_len _ hx
    rw [List.drop_eq_getElem_cons hil, flat, ← List.append_assoc]
    refine Ev.step (f := fun k => (num_PutInt.f k acc l[i]).bind fun t => sheet_list_int.l0 k t l (l.length : Int) (((i + 1 : Nat) : Int))) (fun k => ?_) (Ev.bind (puti_ev acc _ hx (by omega)) (ih (i + 1) _ (by omega) (by rw [List.length_append]; omega)))
    simp only [sheet_list_int.l0]
    rw [if_pos (by omega), if_pos (by omega), if_pos (by omega), rdI l i hil, wrapi (n := l.length) hil (by have := maxLen_big; omega)]
theorem li_ev (b : List Int) (l : List Int) (hm : l.length ≤ 100) (hg : ∀ x ∈ l, i64 x) (hb : b.length + 10 * l.length + 10 ≤ 900000000) (z : Bool) : Ev (fun k => sheet_list_int.f k b l z) (b ++ lst one l) := by
  have h10 := enc_ten (n := l.length) (by omega)
  rw [lst, ← List.append_assoc]
  exact Ev.bind (put_ev b l.length hm (by omega)) (li_l0 l hm hg l.length 0 _ (by omega) (by rw [List.length_append]; generalize (enc l.length).length = E at h10 ⊢; omega))
theorem term_ev (b : List Int) (t : S52) (h : tgood t) (hb : b.length ≤ 899000000) : Ev (fun k => sheet_term.f k b t.f0 t.f1 t.f2) (b ++ tbytes t) := by
  have a := one_len _ h.op
  have c := one_len _ h.int
  rw [tbytes, ← List.append_assoc, ← List.append_assoc]
  exact Ev.bind (puti_ev b _ h.op (by omega)) (Ev.bind (puti_ev _ _ h.int (by rw [List.length_append]; omega)) (Ev.bind (putt_ev _ _ h.str (by rw [List.length_append, List.length_append]; omega)) (Ev.now _)))
theorem lt_l0 (l : List S52) (hm : l.length ≤ 100) (hg : ∀ x ∈ l, tgood x) (d : Nat) : ∀ (i : Nat) (acc : List Int), i + d = l.length → acc.length + 4126 * d ≤ 899000000 →
    Ev (fun k => api_Term_31.l0 k acc l (l.length : Int) (i : Int)) (acc ++ flat tbytes (l.drop i)) := by
  induction d with
  | zero =>
    intro i acc hi _
    rw [List.drop_of_length_le (by omega), flat, List.append_nil]
    refine Ev.step (fun k => ?_) (Ev.now acc)
    simp only [api_Term_31.l0]
    rw [if_neg (by omega)]
  | succ d ih =>
    intro i acc hi hb
    have hil : i < l.length := by omega
    have hx := hg _ (List.getElem_mem hil)
    have hlen := tbytes_len _ hx
    rw [List.drop_eq_getElem_cons hil, flat, ← List.append_assoc]
    refine Ev.step (f := fun k => (sheet_term.f k acc l[i].f0 l[i].f1 l[i].f2).bind fun t => api_Term_31.l0 k t l (l.length : Int) (((i + 1 : Nat) : Int))) (fun k => ?_) (Ev.bind (term_ev acc _ hx (by omega)) (ih (i + 1) _ (by omega) (by rw [List.length_append]; omega)))
    simp only [api_Term_31.l0]
    rw [if_pos (by omega), if_pos (by omega), if_pos (by omega), rdT l i hil, wrapi (n := l.length) hil (by have := maxLen_big; omega)]
theorem lt_ev (b : List Int) (l : List S52) (hm : l.length ≤ 100) (hg : ∀ x ∈ l, tgood x) (hb : b.length + 4126 * l.length + 10 ≤ 899000000) (z : Bool) : Ev (fun k => api_Term_31.f k b l z) (b ++ lst tbytes l) := by
  have h10 := enc_ten (n := l.length) (by omega)
  rw [lst, ← List.append_assoc]
  exact Ev.bind (put_ev b l.length hm (by omega)) (lt_l0 l hm hg l.length 0 _ (by omega) (by rw [List.length_append]; generalize (enc l.length).length = E at h10 ⊢; omega))
theorem expr_ev (b : List Int) (e : List S52) (h : egood e) (hb : b.length ≤ 898000000) : Ev (fun k => sheet_Encode_1_1.f k b e) (b ++ ebytes e) := by
  have h1 := h.1
  exact Ev.bind (lt_ev b e (by omega) h.2 (by omega) true) (Ev.now _)
theorem le_l0 (l : List (List S52)) (hm : l.length ≤ 100) (hg : ∀ x ∈ l, egood x) (d : Nat) : ∀ (i : Nat) (acc : List Int), i + d = l.length → acc.length + 264074 * d ≤ 898000000 →
    Ev (fun k => api_Term_29.l0 k acc l (l.length : Int) (i : Int)) (acc ++ flat ebytes (l.drop i)) := by
  induction d with
  | zero =>
    intro i acc hi _
    rw [List.drop_of_length_le (by omega), flat, List.append_nil]
    refine Ev.step (fun k => ?_) (Ev.now acc)
    simp only [api_Term_29.l0]
    rw [if_neg (by omega)]
  | succ d ih =>
    intro i acc hi hb
    have hil : i < l.length := by omega
    have hx := hg _ (List.getElem_mem hil)
    have hlen := ebytes_len _ hx
    rw [List.drop_eq_getElem_cons hil, flat, ← List.append_assoc]
    refine Ev.step (f := fun k => (sheet_Encode_1_1.f k acc l[i]).bind fun t => api_Term_29.l0 k t l (l.length : Int) (((i + 1 : Nat) : Int))) (fun k => ?_) (Ev.bind (expr_ev acc _ hx (by omega)) (ih (i + 1) _ (by omega) (by rw [List.length_append]; omega)))
    simp only [api_Term_29.l0]
    rw [if_pos (by omega), if_pos (by omega), if_pos (by omega), rdE l i hil, wrapi (n := l.length) hil (by have := maxLen_big; omega)]
theorem le_ev (b : List Int) (l : List (List S52)) (hm : l.length ≤ 100) (hg : ∀ x ∈ l, egood x) (hb : b.length + 264074 * l.length + 10 ≤ 898000000) (z : Bool) : Ev (fun k => api_Term_29.f k b l z) (b ++ lst ebytes l) := by
  have h10 := enc_ten (n := l.length) (by omega)
  rw [lst, ← List.append_assoc]
  exact Ev.bind (put_ev b l.length hm (by omega)) (le_l0 l hm hg l.length 0 _ (by omega) (by rw [List.length_append]; generalize (enc l.length).length = E at h10 ⊢; omega))
theorem four_l0 (l : List Int) (hm : l.length ≤ 100) (hg : ∀ x ∈ l, i64 x) (d : Nat) : ∀ (i : Nat) (acc : List Int), i + d = l.length → acc.length + 10 * d ≤ 900000000 →
    Ev (fun k => sheet_Encode_1.l0 k acc l (l.length : Int) (i : Int)) (acc ++ flat one (l.drop i)) := by
  induction d with
  | zero =>
    intro i acc hi _
    rw [List.drop_of_length_le (by omega), flat, List.append_nil]
    refine Ev.step (fun k => ?_) (Ev.now acc)
    simp only [sheet_Encode_1.l0]
    rw [if_neg (by omega)]
  | succ d ih =>
    intro i acc hi hb
    have hil : i < l.length := by omega
    have hx := hg _ (List.getElem_mem hil)
    have hlen := one_len _ hx
    rw [List.drop_eq_getElem_cons hil, flat, ← List.append_assoc]
    refine Ev.step (f := fun k => (num_PutInt.f k acc l[i]).bind fun t => sheet_Encode_1.l0 k t l (l.length : Int) (((i + 1 : Nat) : Int))) (fun k => ?_) (Ev.bind (puti_ev acc _ hx (by omega)) (ih (i + 1) _ (by omega) (by rw [List.length_append]; omega)))
    simp only [sheet_Encode_1.l0]
    rw [if_pos (by omega), if_pos (by omega), if_pos (by omega), rdI l i hil, wrapi (n := l.length) hil (by have := maxLen_big; omega)]
theorem node_ev (b : List Int) (x : S44) (h : ngood x) (hb : b.length ≤ 890000000) : Ev (fun k => sheet_Encode_1.f k b x.f0 x.f1 x.f2 x.f3 x.f4 x.f5 x.f6 x.f7 x.f8) (b ++ nbytes x) := by
  have a0 := one_len _ h.kind
  have a1 := ints_len _ (by have := h.insl; omega) h.ins
  have a2 := ints_len _ h.kindsl h.kinds
  have a3 := lst_len ebytes 264074 x.f3 (by have := h.exprsl; omega) (fun e he => ebytes_len e (h.exprs e he))
  have a4 := ints_len _ h.colsl h.cols
  have h1 := h.insl
  have h2 := h.kindsl
  have h3 := h.exprsl
  have h4 := h.colsl
  have e : b ++ nbytes x = (((((b ++ one x.f0) ++ lst one x.f1) ++ lst one x.f2) ++ lst ebytes x.f3) ++ lst one x.f4) ++ flat one [x.f5, x.f6, x.f7, x.f8] := by simp [nbytes, flat]
  rw [e]
  refine Ev.bind (puti_ev b _ h.kind (by omega)) (Ev.bind (li_ev _ _ (by omega) h.ins (by rw [List.length_append]; omega) true) (Ev.bind (li_ev _ _ (by omega) h.kinds (by simp only [List.length_append]; omega) true) (Ev.bind (le_ev _ _ (by omega) h.exprs (by simp only [List.length_append]; omega) true) (Ev.bind (li_ev _ _ (by omega) h.cols (by simp only [List.length_append]; omega) true) ?_))))
  have hg : ∀ a ∈ [x.f5, x.f6, x.f7, x.f8], i64 a := by
    intro a ha
    simp only [List.mem_cons, List.not_mem_nil, or_false] at ha
    rcases ha with rfl | rfl | rfl | rfl
    · exact h.key
    · exact h.n
    · exact h.size
    · exact h.slide
  exact four_l0 [x.f5, x.f6, x.f7, x.f8] (by simp) hg 4 0 _ (by simp) (by simp only [List.length_append]; omega)
theorem ln_l0 (l : List S44) (hm : l.length ≤ 100) (hg : ∀ x ∈ l, ngood x) (d : Nat) : ∀ (i : Nat) (acc : List Int), i + d = l.length → acc.length + 4226000 * d ≤ 890000000 →
    Ev (fun k => api_Node_27.l0 k acc l (l.length : Int) (i : Int)) (acc ++ flat nbytes (l.drop i)) := by
  induction d with
  | zero =>
    intro i acc hi _
    rw [List.drop_of_length_le (by omega), flat, List.append_nil]
    refine Ev.step (fun k => ?_) (Ev.now acc)
    simp only [api_Node_27.l0]
    rw [if_neg (by omega)]
  | succ d ih =>
    intro i acc hi hb
    have hil : i < l.length := by omega
    have hx := hg _ (List.getElem_mem hil)
    have hlen := nbytes_len _ hx
    rw [List.drop_eq_getElem_cons hil, flat, ← List.append_assoc]
    refine Ev.step (f := fun k => (sheet_Encode_1.f k acc l[i].f0 l[i].f1 l[i].f2 l[i].f3 l[i].f4 l[i].f5 l[i].f6 l[i].f7 l[i].f8).bind fun t => api_Node_27.l0 k t l (l.length : Int) (((i + 1 : Nat) : Int))) (fun k => ?_) (Ev.bind (node_ev acc _ hx (by omega)) (ih (i + 1) _ (by omega) (by rw [List.length_append]; omega)))
    simp only [api_Node_27.l0]
    rw [if_pos (by omega), if_pos (by omega), if_pos (by omega), rdN l i hil, wrapi (n := l.length) hil (by have := maxLen_big; omega)]
theorem ln_ev (b : List Int) (l : List S44) (hm : l.length ≤ 100) (hg : ∀ x ∈ l, ngood x) (hb : b.length + 4226000 * l.length + 10 ≤ 890000000) (z : Bool) : Ev (fun k => api_Node_27.f k b l z) (b ++ lst nbytes l) := by
  have h10 := enc_ten (n := l.length) (by omega)
  rw [lst, ← List.append_assoc]
  exact Ev.bind (put_ev b l.length hm (by omega)) (ln_l0 l hm hg l.length 0 _ (by omega) (by rw [List.length_append]; generalize (enc l.length).length = E at h10 ⊢; omega))
def elong (e : List S52) : Bool := decide ((e.length : Int) > 64)
def tlong (t : S52) : Bool := decide ((t.f2.size : Int) > 4096)
/-- P17.1: what is wrong with a node. -/
def nchk (x : S44) : Int := if x.f1.length > 8 ∨ x.f2.length > 16 ∨ x.f3.length > 16 ∨ x.f4.length > 16 then 3 else if x.f3.any elong = true then 3 else if (x.f3.any fun e => e.any tlong) = true then 2 else 0
def nsum : List S44 → Int
  | [] => 0
  | x :: t => if nchk x = 0 then nsum t else nchk x
def pchk (ns : List S44) (o : List Int) : Int := if ns.length > 64 ∨ o.length > 8 then 3 else nsum ns
theorem i69_l0 (l : List (List S52)) (hm : l.length ≤ maxLen) (d : Nat) : ∀ i : Nat, i + d = l.length → ∃ j : Int, Ev (fun k => api_Term_69.l0 k l (l.length : Int) (i : Int)) j ∧ decide (j ≥ 0) = (l.drop i).any elong := by
  induction d with
  | zero =>
    intro i hi
    refine ⟨-1, Ev.step (fun k => ?_) (Ev.now (-1)), ?_⟩
    · simp only [api_Term_69.l0]
      rw [if_neg (by omega)]
    · rw [List.drop_of_length_le (by omega)]; rfl
  | succ d ih =>
    intro i hi
    have hil : i < l.length := by omega
    rw [List.drop_eq_getElem_cons hil, List.any_cons]
    obtain ⟨j, h1, h2⟩ := ih (i + 1) (by omega)
    by_cases h : elong l[i] = true
    · refine ⟨(i : Int), Ev.step (fun k => ?_) (Ev.now _), ?_⟩
      · simp only [api_Term_69.l0, sheet_node_1.f, Option.bind_some]
        rw [if_pos (by omega), if_pos (by omega), if_pos (by omega), rdE l i hil]
        exact if_pos h
      · rw [h]; simp
    · refine ⟨j, Ev.step (fun k => ?_) h1, ?_⟩
      · simp only [api_Term_69.l0, sheet_node_1.f, Option.bind_some]
        rw [if_pos (by omega), if_pos (by omega), if_pos (by omega), rdE l i hil, wrapi hil hm]
        exact if_neg h
      · rw [h2]; simp [h]
theorem a53_ev (l : List (List S52)) (hm : l.length ≤ maxLen) (z : Bool) : Ev (fun k => api_Term_53.f k l z) (l.any elong) := by
  obtain ⟨j, h1, h2⟩ := i69_l0 l hm l.length 0 (by omega)
  rw [List.drop_zero] at h2
  rw [← h2]
  exact Ev.bind (g := fun k => api_Term_69.f k l true) h1 (Ev.now _)
theorem i70_l0 (l : List S52) (hm : l.length ≤ maxLen) (d : Nat) : ∀ i : Nat, i + d = l.length → ∃ j : Int, Ev (fun k => api_Term_70.l0 k l (l.length : Int) (i : Int)) j ∧ decide (j ≥ 0) = (l.drop i).any tlong := by
  induction d with
  | zero =>
    intro i hi
    refine ⟨-1, Ev.step (fun k => ?_) (Ev.now (-1)), ?_⟩
    · simp only [api_Term_70.l0]
      rw [if_neg (by omega)]
    · rw [List.drop_of_length_le (by omega)]; rfl
  | succ d ih =>
    intro i hi
    have hil : i < l.length := by omega
    rw [List.drop_eq_getElem_cons hil, List.any_cons]
    obtain ⟨j, h1, h2⟩ := ih (i + 1) (by omega)
    by_cases h : tlong l[i] = true
    · refine ⟨(i : Int), Ev.step (fun k => ?_) (Ev.now _), ?_⟩
      · simp only [api_Term_70.l0, sheet_node_2.f, Option.bind_some]
        rw [if_pos (by omega), if_pos (by omega), if_pos (by omega), rdT l i hil]
        exact if_pos h
      · rw [h]; simp
    · refine ⟨j, Ev.step (fun k => ?_) h1, ?_⟩
      · simp only [api_Term_70.l0, sheet_node_2.f, Option.bind_some]
        rw [if_pos (by omega), if_pos (by omega), if_pos (by omega), rdT l i hil, wrapi hil hm]
        exact if_neg h
      · rw [h2]; simp [h]
theorem a55_ev (l : List S52) (hm : l.length ≤ maxLen) (z : Bool) : Ev (fun k => api_Term_55.f k l z) (l.any tlong) := by
  obtain ⟨j, h1, h2⟩ := i70_l0 l hm l.length 0 (by omega)
  rw [List.drop_zero] at h2
  rw [← h2]
  exact Ev.bind (g := fun k => api_Term_70.f k l true) h1 (Ev.now _)
theorem node_l0 (l : List (List S52)) (hm : l.length ≤ maxLen) (hw : ∀ e ∈ l, e.length ≤ maxLen) (d : Nat) : ∀ i : Nat, i + d = l.length → Ev (fun k => sheet_node.l0 k l (l.length : Int) (i : Int)) (if ((l.drop i).any fun e => e.any tlong) = true then 2 else 0) := by
  induction d with
  | zero =>
    intro i hi
    rw [List.drop_of_length_le (by omega)]
    refine Ev.step (fun k => ?_) (Ev.now 0)
    simp only [sheet_node.l0]
    rw [if_neg (by omega)]
  | succ d ih =>
    intro i hi
    have hil : i < l.length := by omega
    rw [List.drop_eq_getElem_cons hil, List.any_cons]
    refine Ev.step (f := fun k => (api_Term_55.f k l[i] true).bind fun t => if t = true then some 2 else sheet_node.l0 k l (l.length : Int) ((i + 1 : Nat) : Int)) (fun k => ?_) (Ev.bind (a55_ev _ (hw _ (List.getElem_mem hil)) true) ?_)
    · simp only [sheet_node.l0]
      rw [if_pos (by omega), if_pos (by omega), if_pos (by omega), rdE l i hil, wrapi hil hm]
    · by_cases h : l[i].any tlong = true
      · simp only [h, if_true, Bool.true_or]; exact Ev.now 2
      · rw [Bool.not_eq_true] at h
        simp only [h, Bool.false_or]
        exact ih (i + 1) (by omega)
theorem node_chk (x : S44) (hw : NW x) : Ev (fun k => sheet_node.f k x.f0 x.f1 x.f2 x.f3 x.f4 x.f5 x.f6 x.f7 x.f8) (nchk x) := by
  obtain ⟨h1, h2, h4, h3, h5⟩ := hw
  have hf : Ev (fun k => sheet_node.j0 k false x.f0 x.f1 x.f2 x.f3 x.f4 x.f5 x.f6 x.f7 x.f8) (if x.f3.any elong = true then 3 else if (x.f3.any fun e => e.any tlong) = true then 2 else 0) := by
    refine Ev.step (f := fun k => (api_Term_53.f k x.f3 true).bind fun t => if t = true then some 3 else sheet_node.l0 k x.f3 (x.f3.length : Int) 0) (fun k => ?_) (Ev.bind (a53_ev _ h3 true) ?_)
    · simp only [sheet_node.j0]; rfl
    · by_cases h : x.f3.any elong = true
      · simp only [h, if_true]; exact Ev.now 3
      · rw [Bool.not_eq_true] at h
        simp only [h]
        exact node_l0 x.f3 h3 h5 x.f3.length 0 (by omega)
  have ht : Ev (fun k => sheet_node.j0 k true x.f0 x.f1 x.f2 x.f3 x.f4 x.f5 x.f6 x.f7 x.f8) 3 := by
    refine Ev.step (fun k => ?_) (Ev.now 3)
    simp only [sheet_node.j0]; rfl
  unfold nchk
  by_cases c1 : (x.f1.length : Int) > 8
  · rw [if_pos (by omega)]
    exact Ev.congr (fun k => by unfold sheet_node.f; rw [if_pos c1]) ht
  · by_cases c2 : mx (mx (x.f2.length : Int) (x.f3.length : Int)) (x.f4.length : Int) > 16
    · rw [if_pos (by unfold mx at c2; split at c2 <;> split at c2 <;> omega)]
      exact Ev.congr (fun k => by unfold sheet_node.f; rw [if_neg c1, decide_eq_true c2]) ht
    · rw [if_neg (by unfold mx at c2; split at c2 <;> split at c2 <;> omega)]
      exact Ev.congr (fun k => by unfold sheet_node.f; rw [if_neg c1, decide_eq_false c2]) hf
theorem chk_l0 (ns : List S44) (hm : ns.length ≤ maxLen) (hw : ∀ x ∈ ns, NW x) (d : Nat) : ∀ i : Nat, i + d = ns.length → Ev (fun k => sheet_Check.l0 k ns (ns.length : Int) (i : Int)) (nsum (ns.drop i)) := by
  induction d with
  | zero =>
    intro i hi
    rw [List.drop_of_length_le (by omega), nsum]
    refine Ev.step (fun k => ?_) (Ev.now 0)
    simp only [sheet_Check.l0]
    rw [if_neg (by omega)]
  | succ d ih =>
    intro i hi
    have hil : i < ns.length := by omega
    rw [List.drop_eq_getElem_cons hil, nsum]
    refine Ev.step (f := fun k => (sheet_node.f k ns[i].f0 ns[i].f1 ns[i].f2 ns[i].f3 ns[i].f4 ns[i].f5 ns[i].f6 ns[i].f7 ns[i].f8).bind fun t => if t = 0 then sheet_Check.l0 k ns (ns.length : Int) ((i + 1 : Nat) : Int) else some t) (fun k => ?_) (Ev.bind (node_chk _ (hw _ (List.getElem_mem hil))) ?_)
    · simp only [sheet_Check.l0]
      rw [if_pos (by omega), if_pos (by omega), if_pos (by omega), rdN ns i hil, wrapi hil hm]
    · by_cases h : nchk ns[i] = 0
      · simp only [h, if_true]; exact ih (i + 1) (by omega)
      · simp only [h, if_false]; exact Ev.now _
theorem chk_ev (ns : List S44) (o : List Int) (r : Int) (hm : ns.length ≤ maxLen) (hw : ∀ x ∈ ns, NW x) : Ev (fun k => sheet_Check.f k ns o r) (pchk ns o) := by
  have hf : Ev (fun k => sheet_Check.j0 k false ns o r) (nsum ns) := by
    refine Ev.step (f := fun k => sheet_Check.l0 k ns (ns.length : Int) 0) (fun k => ?_) (chk_l0 ns hm hw ns.length 0 (by omega))
    simp only [sheet_Check.j0]; rfl
  have ht : Ev (fun k => sheet_Check.j0 k true ns o r) 3 := by
    refine Ev.step (fun k => ?_) (Ev.now 3)
    simp only [sheet_Check.j0]; rfl
  unfold pchk
  by_cases c1 : (ns.length : Int) > 64
  · rw [if_pos (by omega)]
    exact Ev.congr (fun k => by unfold sheet_Check.f; rw [if_pos c1]) ht
  · by_cases c2 : (o.length : Int) > 8
    · rw [if_pos (by omega)]
      exact Ev.congr (fun k => by unfold sheet_Check.f; rw [if_neg c1, decide_eq_true c2]) ht
    · rw [if_neg (by omega)]
      exact Ev.congr (fun k => by unfold sheet_Check.f; rw [if_neg c1, decide_eq_false c2]) hf
section
variable (x : S44)
end
theorem encode_ev (ns : List S44) (o : List Int) (r : Int) (hm : ns.length ≤ maxLen) (hw : ∀ x ∈ ns, NW x) (hg : pchk ns o = 0 → pgood ns o r) : Ev (fun k => sheet_Encode.f k ns o r) (if pchk ns o = 0 then (pbytes ns o r, 0) else ([], pchk ns o)) := by
  refine Ev.bind (chk_ev ns o r hm hw) ?_
  by_cases h : pchk ns o = 0
  · have g := hg h
    have a0 := one_len _ g.r
    have a1 := ints_len _ (by have := g.ol; omega) g.o
    have h1 := g.ol
    have h2 := g.nsl
    simp only [h, if_true]
    have e : pbytes ns o r = (([80] ++ one r) ++ lst one o) ++ lst nbytes ns := by simp [pbytes]
    rw [e]
    exact Ev.bind (puti_ev [80] r g.r (by simp)) (Ev.bind (li_ev _ o (by omega) g.o (by rw [List.length_append, List.length_singleton]; omega) true) (Ev.bind (ln_ev _ ns (by omega) g.ns (by simp only [List.length_append, List.length_singleton]; omega) true) (Ev.now _)))
  · simp only [h, if_false]; exact Ev.now _
section
variable (x : S44)
end
def gtext (l : List Int) (at0 most : Int) : ByteArray × Int × Int := if (NumPure.get l at0).2.2 = 0 then
      (if most < (NumPure.get l at0).1 then ((⟨#[]⟩ : ByteArray), 0, 2) else if (l.length : Int) - (NumPure.get l at0).2.1 < (NumPure.get l at0).1 then ((⟨#[]⟩ : ByteArray), 0, 6)
       else (strOfNums ((l.take ((NumPure.get l at0).2.1 + (NumPure.get l at0).1).toNat).drop (NumPure.get l at0).2.1.toNat), (NumPure.get l at0).2.1 + (NumPure.get l at0).1, 0))
      else ((⟨#[]⟩ : ByteArray), 0, (NumPure.get l at0).2.2)
theorem gtext_f {k : Nat} (l : List Int) (hl : ∀ x ∈ l, 0 ≤ x ∧ x < 256) (at0 most : Int) (hk : 2 * l.length + 8 ≤ k) (hc : l.length + 10 ≤ capN) (h0 : 0 ≤ most) (hm : most ≤ 9223372036854775807) : num_GetText.f k l at0 most = some (gtext l at0 most) := by
  rw [GetText_f l hl at0 most hk hc hm, if_neg (by omega)]; rfl
theorem Rgtext_f {k : Nat} (l : List Int) (hl : ∀ x ∈ l, 0 ≤ x ∧ x < 256) (at0 most : Int) (hk : 2 * l.length + 16 ≤ k) (hc : l.length + 10 ≤ capN) (h0 : 0 ≤ most) (hm : most ≤ 9223372036854775807) : runnelref01_GetText.f k l at0 most = some (gtext l at0 most) := by
  rw [RGetText_f l hl at0 most hk hc hm, if_neg (by omega)]; rfl
theorem bytes_str (l : List Int) (hl : ∀ x ∈ l, 0 ≤ x ∧ x < 256) : bytesOf (strOfNums l) = l := by
  apply str_inj (bytesOf_byte _) hl
  rw [str_bytesOf, str_of]
/-- What was read is what would be written: a number. -/
theorem get_back (l : List Int) (hl : ∀ x ∈ l, 0 ≤ x ∧ x < 256) (a : Int) (h : (NumPure.get l a).2.2 = 0) : ∃ (m : Nat) (p r : List Int), m < 18446744073709551616 ∧ l = p ++ (enc m ++ r) ∧ a = (p.length : Int) ∧ NumPure.get l a = ((m : Int), ((p.length + (enc m).length : Nat) : Int), 0) := by
  rcases get_ok l hl a with ⟨ho, _⟩ | ⟨ho, _⟩ | h2
  · rw [ho] at h; cases h
  · rw [ho] at h; cases h
  · exact h2
/-- 'l' has 'x' at the place 'a'. -/
def At (l : List Int) (a : Int) (x : List Int) (b : Int) : Prop := ∃ p r : List Int, l = p ++ (x ++ r) ∧ a = (p.length : Int) ∧ b = ((p.length + x.length : Nat) : Int)
theorem At.trans {l : List Int} {a b c : Int} {x y : List Int} (h : At l a x b) (h2 : At l b y c) : At l a (x ++ y) c := by
  obtain ⟨p, r, e1, e2, e3⟩ := h
  obtain ⟨p', r', f1, f2, f3⟩ := h2
  have hp : p' = p ++ x := by
    have hlen : p'.length = (p ++ x).length := by rw [List.length_append]; omega
    have h4 : p' ++ (y ++ r') = (p ++ x) ++ r := by rw [← f1, e1, List.append_assoc]
    exact (List.append_inj h4 hlen).1
  subst hp
  have hr : r = y ++ r' := by
    have h4 : (p ++ x) ++ (y ++ r') = (p ++ x) ++ r := by rw [← f1, e1, List.append_assoc]
    exact (List.append_cancel_left h4).symm
  subst hr
  refine ⟨p, r', by rw [e1, List.append_assoc], e2, ?_⟩
  rw [f3, List.length_append, List.length_append]
  omega
theorem At.nil {l : List Int} {a : Int} (h0 : 0 ≤ a) (h : a ≤ (l.length : Int)) : At l a [] a := by
  obtain ⟨n, rfl⟩ := Int.eq_ofNat_of_zero_le h0
  refine ⟨l.take n, l.drop n, by simp, by rw [List.length_take]; omega, by rw [List.length_take]; simp; omega⟩
theorem At.lt {l : List Int} {a b : Int} {x : List Int} (h : At l a x b) : 0 ≤ a ∧ a ≤ b ∧ b ≤ (l.length : Int) := by
  obtain ⟨p, r, e1, e2, e3⟩ := h
  have : l.length = p.length + (x.length + r.length) := by rw [e1, List.length_append, List.length_append]
  omega
theorem At.byte {l : List Int} {a b : Int} {x : List Int} (h : At l a x b) (hl : ∀ y ∈ l, 0 ≤ y ∧ y < 256) : ∀ y ∈ x, 0 ≤ y ∧ y < 256 := by
  obtain ⟨p, r, e1, _, _⟩ := h
  intro y hy
  exact hl y (by rw [e1]; simp [hy])
theorem At.one {l : List Int} {a : Int} (h0 : 0 ≤ a) (h : a < (l.length : Int)) : At l a [rd l a] (a + 1) := by
  obtain ⟨n, rfl⟩ := Int.eq_ofNat_of_zero_le h0
  have hn : n < l.length := by omega
  refine ⟨l.take n, l.drop (n + 1), ?_, by rw [List.length_take]; omega, by rw [List.length_take, List.length_singleton]; omega⟩
  have : rd l (n : Int) = l[n] := by unfold rd; rw [Int.toNat_natCast, List.getD_eq_getElem?_getD, List.getElem?_eq_getElem hn]; rfl
  rw [this]
  simp
theorem zig_zag (n : Int) (h0 : 0 ≤ n) (h1 : n < 18446744073709551616) : zig (zag n) = n.toNat ∧ (-9223372036854775808 ≤ zag n ∧ zag n ≤ 9223372036854775807) := by
  unfold zig zag
  constructor
  · split <;> split <;> omega
  · split <;> omega
theorem int_back (l : List Int) (hl : ∀ x ∈ l, 0 ≤ x ∧ x < 256) (a : Int) (h : (NumPure.get l a).2.2 = 0) : At l a (one (zag (NumPure.get l a).1)) (NumPure.get l a).2.1 ∧ (-9223372036854775808 ≤ zag (NumPure.get l a).1 ∧ zag (NumPure.get l a).1 ≤ 9223372036854775807) := by
  obtain ⟨m, p, r, hm, e1, e2, e3⟩ := get_back l hl a h
  have hz := zig_zag (m : Int) (by omega) (by omega)
  rw [e3]
  refine ⟨⟨p, r, ?_, e2, ?_⟩, hz.2⟩
  · show l = p ++ (enc (zig (zag (m : Int))) ++ r)
    rw [hz.1, Int.toNat_natCast]; exact e1
  · show _ = ((p.length + (enc (zig (zag (m : Int)))).length : Nat) : Int)
    rw [hz.1, Int.toNat_natCast]
theorem gtext_back (l : List Int) (hl : ∀ x ∈ l, 0 ≤ x ∧ x < 256) (a most : Int) (h : (gtext l a most).2.2 = 0) : At l a (txt (gtext l a most).1) (gtext l a most).2.1 ∧ ((gtext l a most).1.size : Int) ≤ most := by
  unfold gtext at h ⊢
  by_cases he : (NumPure.get l a).2.2 = 0
  · rw [if_pos he] at h ⊢
    obtain ⟨m, p, r, hm, f1, f2, f3⟩ := get_back l hl a he
    rw [f3] at h ⊢
    simp only at h ⊢
    by_cases h3 : most < (m : Int)
    · rw [if_pos h3] at h; cases h
    rw [if_neg h3] at h ⊢
    by_cases h4 : (l.length : Int) - ((p.length + (enc m).length : Nat) : Int) < (m : Int)
    · rw [if_pos h4] at h; cases h
    rw [if_neg h4] at h ⊢
    have hlen : l.length = p.length + ((enc m).length + r.length) := by rw [f1, List.length_append, List.length_append]
    have hcut : (l.take (((p.length + (enc m).length : Nat) : Int) + (m : Int)).toNat).drop ((p.length + (enc m).length : Nat) : Int).toNat = r.take m := by
      rw [f1, ← List.append_assoc, Int.toNat_natCast, show (((p.length + (enc m).length : Nat) : Int) + (m : Int)).toNat = (p ++ enc m).length + m by rw [List.length_append]; omega, List.take_length_add_append, show p.length + (enc m).length = (p ++ enc m).length by rw [List.length_append], List.drop_left]
    have hrl : (r.take m).length = m := by rw [List.length_take]; omega
    have hrb : ∀ x ∈ r.take m, 0 ≤ x ∧ x < 256 := fun x hx => hl x (by rw [f1]; simp [List.mem_of_mem_take hx])
    rw [hcut]
    refine ⟨⟨p, r.drop m, ?_, f2, ?_⟩, ?_⟩
    · rw [txt, bytes_str _ hrb, strOfNums_size, hrl, List.append_assoc, List.take_append_drop]; exact f1
    · show ((p.length + (enc m).length : Nat) : Int) + (m : Int) = _
      rw [txt, bytes_str _ hrb, strOfNums_size, hrl, List.length_append, hrl]; omega
    · rw [strOfNums_size, hrl]; omega
  · rw [if_neg he] at h; exact absurd h he
/-- A reading's end told: 'o' is what is to be read, 'b' whether something was wrong before. -/
def St {α : Type} (b : Bool) (o : Option (α × Int)) (v : α) (c : Int) (b' : Bool) : Prop := (b = true → b' = true) ∧ (b = false → (o = none ∧ b' = true) ∨ (o = some (v, c) ∧ b' = false))
theorem St.seq {α β : Type} {b b1 b2 : Bool} {o : Option (α × Int)} {v : α} {c c2 : Int} {q : α × Int → Option (β × Int)} {u : β} (h : St b o v c b1) (h2 : St b1 (q (v, c)) u c2 b2) : St b (o.bind q) u c2 b2 := by
  refine ⟨fun e => h2.1 (h.1 e), fun e => ?_⟩
  rcases h.2 e with ⟨e1, e2⟩ | ⟨e1, e2⟩
  · exact Or.inl ⟨by rw [e1]; rfl, h2.1 e2⟩
  · rcases h2.2 e2 with ⟨f1, f2⟩ | ⟨f1, f2⟩
    · exact Or.inl ⟨by rw [e1]; exact f1, f2⟩
    · exact Or.inr ⟨by rw [e1]; exact f1, f2⟩
theorem St.now {α : Type} {b : Bool} (v : α) (c : Int) : St b (some (v, c)) v c b := ⟨id, fun e => Or.inr ⟨rfl, e⟩⟩
theorem St.bad {α : Type} {b : Bool} {o : Option (α × Int)} (v : α) (c : Int) (h : b = false → o = none) : St b o v c true := ⟨fun _ => rfl, fun e => Or.inl ⟨h e, rfl⟩⟩
def pI (l : List Int) (a : Int) : Option (Int × Int) := if (NumPure.get l a).2.2 = 0 then some (zag (NumPure.get l a).1, (NumPure.get l a).2.1) else none
def pT (l : List Int) (a : Int) : Option (ByteArray × Int) := if (gtext l a 4096).2.2 = 0 then some ((gtext l a 4096).1, (gtext l a 4096).2.1) else none
def pN (l : List Int) (m : Nat) (a : Int) : Option (Nat × Int) := if (NumPure.get l a).2.2 = 0 ∧ (NumPure.get l a).1 ≤ (m : Int) then some ((NumPure.get l a).1.toNat, (NumPure.get l a).2.1) else none
def pLoop {α : Type} (P : Int → Option (α × Int)) : Nat → Int → Option (List α × Int)
  | 0, a => some ([], a)
  | n + 1, a => (P a).bind fun r => (pLoop P n r.2).bind fun s => some (r.1 :: s.1, s.2)
def pMany {α : Type} (l : List Int) (m : Nat) (P : Int → Option (α × Int)) (a : Int) : Option (List α × Int) := (pN l m a).bind fun r => pLoop P r.1 r.2
def pTerm (l : List Int) (a : Int) : Option (S52 × Int) := (pI l a).bind fun x => (pI l x.2).bind fun y => (pT l y.2).bind fun z => some (⟨x.1, y.1, z.1⟩, z.2)
def pExpr (l : List Int) (a : Int) : Option (List S52 × Int) := pMany l 64 (pTerm l) a
def pNode (l : List Int) (a : Int) : Option (S44 × Int) := (pI l a).bind fun x0 => (pMany l 8 (pI l) x0.2).bind fun x1 => (pMany l 16 (pI l) x1.2).bind fun x2 => (pMany l 16 (pExpr l) x2.2).bind fun x3 => (pMany l 16 (pI l) x3.2).bind fun x4 => (pI l x4.2).bind fun x5 => (pI l x5.2).bind fun x6 => (pI l x6.2).bind fun x7 => (pI l x7.2).bind fun x8 => some (⟨x0.1, x1.1, x2.1, x3.1, x4.1, x5.1, x6.1, x7.1, x8.1⟩, x8.2)
def pPlan (l : List Int) : Option ((List S44 × List Int × Int) × Int) := (pI l 1).bind fun r => (pMany l 8 (pI l) r.2).bind fun o => (pMany l 64 (pNode l) o.2).bind fun n => some ((n.1, o.1, r.1), n.2)
def sbad : List S44 × List Int × Int × Int := ([], [], 0, 6)
/-- What any bytes tell. -/
def sdec (l : List Int) : List S44 × List Int × Int × Int :=
  if 0 < l.length ∧ rd l 0 = 80 then (match pPlan l with | some p => if p.2 = (l.length : Int) then (p.1.1, p.1.2.1, p.1.2.2, 0) else sbad | none => sbad) else sbad
/-- How the reading ends. -/
def fin (l : List Int) (ns : List S44) (o : List Int) (rm a : Int) (b : Bool) : List S44 × List Int × Int × Int := if b = true then sbad else if a = (l.length : Int) then (ns, o, rm, 0) else sbad
section Read
variable (l : List Int) (hl : ∀ x ∈ l, 0 ≤ x ∧ x < 256) (hc : l.length + 10 ≤ capN)
include hl hc
theorem int_st (a : Int) (b : Bool) : ∃ r, Ev (fun k => sheet_reader_int.f k l a b) r ∧ St b (pI l a) r.1 r.2.1 r.2.2 := by
  have h : Ev (fun k => num_GetInt.f k l a) (zag (NumPure.get l a).1, (NumPure.get l a).2.1, (NumPure.get l a).2.2) := ⟨2 * l.length + 8, fun k hk => getInt_f l hl a hk hc⟩
  cases b with
  | true => exact ⟨(0, a, true), Ev.bind h (Ev.congr (fun k => if_pos rfl) (Ev.now _)), St.bad _ _ (fun e => by cases e)⟩
  | false =>
    by_cases h0 : (NumPure.get l a).2.2 = 0
    · refine ⟨(zag (NumPure.get l a).1, (NumPure.get l a).2.1, false), Ev.bind h (Ev.congr (fun k => ?_) (Ev.now _)), ?_⟩
      · simp only [Bool.false_eq_true, if_false]; rw [if_pos h0]
      · rw [pI, if_pos h0]; exact St.now _ _
    · refine ⟨(0, a, true), Ev.bind h (Ev.congr (fun k => ?_) (Ev.now _)), St.bad _ _ (fun _ => by rw [pI, if_neg h0])⟩
      simp only [Bool.false_eq_true, if_false]; rw [if_neg h0]
theorem text_st (a : Int) (b : Bool) : ∃ r, Ev (fun k => sheet_reader_text.f k l a b) r ∧ St b (pT l a) r.1 r.2.1 r.2.2 := by
  have h : Ev (fun k => num_GetText.f k l a 4096) (gtext l a 4096) := ⟨2 * l.length + 8, fun k hk => gtext_f l hl a 4096 hk hc (by decide) (by decide)⟩
  cases b with
  | true => exact ⟨(⟨#[]⟩, a, true), Ev.bind h (Ev.congr (fun k => if_pos rfl) (Ev.now _)), St.bad _ _ (fun e => by cases e)⟩
  | false =>
    by_cases h0 : (gtext l a 4096).2.2 = 0
    · refine ⟨((gtext l a 4096).1, (gtext l a 4096).2.1, false), Ev.bind h (Ev.congr (fun k => ?_) (Ev.now _)), ?_⟩
      · simp only [Bool.false_eq_true, if_false]; rw [if_pos h0]
      · rw [pT, if_pos h0]; exact St.now _ _
    · refine ⟨(⟨#[]⟩, a, true), Ev.bind h (Ev.congr (fun k => ?_) (Ev.now _)), St.bad _ _ (fun _ => by rw [pT, if_neg h0])⟩
      simp only [Bool.false_eq_true, if_false]; rw [if_neg h0]
theorem term_st (a : Int) (b : Bool) : ∃ r, Ev (fun k => sheet_reader_term.f k l a b) r ∧ St b (pTerm l a) (⟨r.1, r.2.1, r.2.2.1⟩ : S52) r.2.2.2.1 r.2.2.2.2 := by
  obtain ⟨x, e1, s1⟩ := int_st l hl hc a b
  obtain ⟨y, e2, s2⟩ := int_st l hl hc x.2.1 x.2.2
  obtain ⟨z, e3, s3⟩ := text_st l hl hc y.2.1 y.2.2
  exact ⟨(x.1, y.1, z.1, z.2.1, z.2.2), Ev.bind e1 (Ev.bind e2 (Ev.bind e3 (Ev.now _))), s1.seq (s2.seq (s3.seq (St.now _ _)))⟩
omit hl hc in
theorem loop_st {α ρ : Type} (M : Nat) (hM : 100 < M) (F : Int → Bool → Nat → Option ρ) (va : ρ → α) (at_ : ρ → Int) (ba : ρ → Bool) (P : Int → Option (α × Int)) (hF : ∀ a b, ∃ r, Ev (F a b) r ∧ St b (P a) (va r) (at_ r) (ba r))
    (G : Nat → List α → Int → Int → Int → Bool → Option (List α × Int × Bool))
    (hG : ∀ k acc n i a b, G (k + 1) acc n i a b = if i < n then (if b = true then some ([], a, b) else (F a b k).bind fun r => if acc.length < M then G k (acc ++ [va r]) n (IntKind.u64.wrap (i + 1)) (at_ r) (ba r) else none) else some (acc, a, b))
    (n : Nat) (hn : n ≤ 100) (d : Nat) : ∀ (i : Nat) (acc : List α) (a : Int) (b : Bool), i + d = n → acc.length = i → ∃ r, Ev (fun k => G k acc (n : Int) (i : Int) a b) r ∧ St b ((pLoop P d a).bind fun s => some (acc ++ s.1, s.2)) r.1 r.2.1 r.2.2 := by
  induction d with
  | zero =>
    intro i acc a b hi _
    refine ⟨(acc, a, b), Ev.step (fun k => ?_) (Ev.now _), ?_⟩
    · rw [hG, if_neg (by omega)]
    · show St b (some (acc ++ [], a)) acc a b
      rw [List.append_nil]; exact St.now _ _
  | succ d ih =>
    intro i acc a b hi ha
    cases b with
    | true =>
      refine ⟨([], a, true), Ev.step (fun k => ?_) (Ev.now _), St.bad _ _ (fun e => by cases e)⟩
      rw [hG, if_pos (by omega), if_pos rfl]
    | false =>
      obtain ⟨x, e1, s1⟩ := hF a false
      obtain ⟨r, e2, s2⟩ := ih (i + 1) (acc ++ [va x]) (at_ x) (ba x) (by omega) (by rw [List.length_append, ha]; rfl)
      refine ⟨r, Ev.step (f := fun k => (F a false k).bind fun x => if acc.length < M then G k (acc ++ [va x]) (n : Int) ((i + 1 : Nat) : Int) (at_ x) (ba x) else none) (fun k => ?_) (Ev.bind e1 (Ev.congr (fun k => if_pos (by omega)) e2)), ?_⟩
      · rw [hG, if_pos (by omega), if_neg (by decide), u64_in _ (by omega) (by omega), show ((i : Int) + 1) = ((i + 1 : Nat) : Int) by omega]
      · have h := s1.seq (q := fun r => (pLoop P d r.2).bind fun s => some ((acc ++ [r.1]) ++ s.1, s.2)) s2
        have e : ((pLoop P (d + 1) a).bind fun s => some (acc ++ s.1, s.2)) = ((P a).bind fun r => (pLoop P d r.2).bind fun s => some ((acc ++ [r.1]) ++ s.1, s.2)) := by
          rw [pLoop, Option.bind_assoc]
          congr 1; funext r
          rw [Option.bind_assoc]
          congr 1; funext s
          simp
        rw [e]; exact h
theorem many_st {α ρ : Type} (M : Nat) (hM : 100 < M) (F : Int → Bool → Nat → Option ρ) (va : ρ → α) (at_ : ρ → Int) (ba : ρ → Bool) (P : Int → Option (α × Int)) (hF : ∀ a b, ∃ r, Ev (F a b) r ∧ St b (P a) (va r) (at_ r) (ba r))
    (G : Nat → List α → Int → Int → Int → Bool → Option (List α × Int × Bool))
    (hG : ∀ k acc n i a b, G (k + 1) acc n i a b = if i < n then (if b = true then some ([], a, b) else (F a b k).bind fun r => if acc.length < M then G k (acc ++ [va r]) n (IntKind.u64.wrap (i + 1)) (at_ r) (ba r) else none) else some (acc, a, b))
    (J : Nat → Int → Int → Bool → Int → Bool → Option (List α × Int × Bool)) (hJ : ∀ k n c w a b, J (k + 1) n c w a b = if w = true then some ([], a, true) else G k [] n 0 c b)
    (m : Nat) (hm : m ≤ 100) (H : Int → Bool → Nat → Option (List α × Int × Bool))
    (hH : ∀ a b k, H a b k = (num_Get.f k l a).bind fun g => if b = true then J k g.1 g.2.1 true a b else if g.2.2 = 0 then J k g.1 g.2.1 (decide (g.1 > IntKind.u64.wrap (m : Int))) a b else J k g.1 g.2.1 true a b)
    (a : Int) (b : Bool) : ∃ r, Ev (H a b) r ∧ St b (pMany l m P a) r.1 r.2.1 r.2.2 := by
  have h : Ev (fun k => num_Get.f k l a) (NumPure.get l a) := ⟨2 * l.length + 8, fun k hk => get_f l hl a hk hc⟩
  have hj : ∀ n c, Ev (fun k => J k n c true a b) ([], a, true) := fun n c => Ev.step (fun k => by rw [hJ, if_pos rfl]) (Ev.now _)
  have hu : IntKind.u64.wrap (m : Int) = (m : Int) := u64_in _ (by omega) (by omega)
  cases b with
  | true => exact ⟨([], a, true), Ev.congr (fun k => hH a true k) (Ev.bind h (Ev.congr (fun k => if_pos rfl) (hj _ _))), St.bad _ _ (fun e => by cases e)⟩
  | false =>
    by_cases h0 : (NumPure.get l a).2.2 = 0
    · by_cases h1 : (NumPure.get l a).1 ≤ (m : Int)
      · have hr := got_range l hl a
        obtain ⟨n, hn⟩ := Int.eq_ofNat_of_zero_le hr.1
        obtain ⟨r, e, s⟩ := loop_st M hM F va at_ ba P hF G hG n (by omega) n 0 [] (NumPure.get l a).2.1 false (by omega) rfl
        refine ⟨r, Ev.congr (fun k => hH a false k) (Ev.bind h (Ev.congr (f := fun k => J k (NumPure.get l a).1 (NumPure.get l a).2.1 false a false) (fun k => ?_) (Ev.step (f := fun k => G k [] (n : Int) ((0 : Nat) : Int) (NumPure.get l a).2.1 false) (fun k => ?_) e))), ?_⟩
        · rw [if_neg (by decide), if_pos h0, hu, decide_eq_false (by omega)]
        · rw [hJ, if_neg (by decide), hn]; rfl
        · have e2 : pMany l m P a = (pLoop P n (NumPure.get l a).2.1).bind fun s => some ([] ++ s.1, s.2) := by
            rw [pMany, pN, if_pos ⟨h0, h1⟩, hn]
            show pLoop P (Int.toNat (n : Int)) _ = _
            rw [Int.toNat_natCast]
            cases pLoop P n (NumPure.get l a).2.1 <;> simp
          rw [e2]; exact s
      · refine ⟨([], a, true), Ev.congr (fun k => hH a false k) (Ev.bind h (Ev.congr (fun k => ?_) (hj (NumPure.get l a).1 (NumPure.get l a).2.1))), St.bad _ _ (fun _ => by rw [pMany, pN, if_neg (fun x => h1 x.2)]; rfl)⟩
        rw [if_neg (by decide), if_pos h0, hu, decide_eq_true (by omega)]
    · refine ⟨([], a, true), Ev.congr (fun k => hH a false k) (Ev.bind h (Ev.congr (fun k => ?_) (hj (NumPure.get l a).1 (NumPure.get l a).2.1))), St.bad _ _ (fun _ => by rw [pMany, pN, if_neg (fun x => h0 x.1)]; rfl)⟩
      rw [if_neg (by decide), if_neg h0]
theorem mi_st (m : Nat) (hm : m ≤ 100) (z : Bool) (a : Int) (b : Bool) : ∃ r, Ev (fun k => sheet_many_int.f k l a b (m : Int) z) r ∧ St b (pMany l m (pI l) a) r.1 r.2.1 r.2.2 :=
  many_st l hl hc 17592186044416 (by decide) (fun a b k => sheet_reader_int.f k l a b) (fun r => r.1) (fun r => r.2.1) (fun r => r.2.2) (pI l) (int_st l hl hc) (fun k acc n i a b => sheet_many_int.l0 k acc n i l a b) (fun k acc n i a b => by simp only [sheet_many_int.l0]) (fun k n c w a b => sheet_many_int.j0 k n c w l a b) (fun k n c w a b => by simp only [sheet_many_int.j0]) m hm (fun a b k => sheet_many_int.f k l a b (m : Int) z) (fun a b k => rfl) a b
theorem mt_st (m : Nat) (hm : m ≤ 100) (z : Bool) (a : Int) (b : Bool) : ∃ r, Ev (fun k => api_Term_61.f k l a b (m : Int) z) r ∧ St b (pMany l m (pTerm l) a) r.1 r.2.1 r.2.2 :=
  many_st l hl hc 4398046511104 (by decide) (fun a b k => sheet_reader_term.f k l a b) (fun r => (⟨r.1, r.2.1, r.2.2.1⟩ : S52)) (fun r => r.2.2.2.1) (fun r => r.2.2.2.2) (pTerm l) (term_st l hl hc) (fun k acc n i a b => api_Term_61.l0 k acc n i l a b) (fun k acc n i a b => by simp only [api_Term_61.l0]) (fun k n c w a b => api_Term_61.j0 k n c w l a b) (fun k n c w a b => by simp only [api_Term_61.j0]) m hm (fun a b k => api_Term_61.f k l a b (m : Int) z) (fun a b k => rfl) a b
theorem expr_st (a : Int) (b : Bool) : ∃ r, Ev (fun k => sheet_reader_node_1.f k l a b) r ∧ St b (pExpr l a) r.1 r.2.1 r.2.2 := by
  obtain ⟨r, e, s⟩ := mt_st l hl hc 64 (by decide) true a b
  exact ⟨(r.1, r.2.1, r.2.2), Ev.bind e (Ev.now _), s⟩
theorem me_st (m : Nat) (hm : m ≤ 100) (z : Bool) (a : Int) (b : Bool) : ∃ r, Ev (fun k => api_Term_59.f k l a b (m : Int) z) r ∧ St b (pMany l m (pExpr l) a) r.1 r.2.1 r.2.2 :=
  many_st l hl hc 5864062014805 (by decide) (fun a b k => sheet_reader_node_1.f k l a b) (fun r => r.1) (fun r => r.2.1) (fun r => r.2.2) (pExpr l) (expr_st l hl hc) (fun k acc n i a b => api_Term_59.l0 k acc n i l a b) (fun k acc n i a b => by simp only [api_Term_59.l0]) (fun k n c w a b => api_Term_59.j0 k n c w l a b) (fun k n c w a b => by simp only [api_Term_59.j0]) m hm (fun a b k => api_Term_59.f k l a b (m : Int) z) (fun a b k => rfl) a b
theorem node_st (a : Int) (b : Bool) : ∃ r, Ev (fun k => sheet_reader_node.f k l a b) r ∧ St b (pNode l a) (⟨r.1, r.2.1, r.2.2.1, r.2.2.2.1, r.2.2.2.2.1, r.2.2.2.2.2.1, r.2.2.2.2.2.2.1, r.2.2.2.2.2.2.2.1, r.2.2.2.2.2.2.2.2.1⟩ : S44) r.2.2.2.2.2.2.2.2.2.1 r.2.2.2.2.2.2.2.2.2.2 := by
  obtain ⟨x0, e0, s0⟩ := int_st l hl hc a b
  obtain ⟨x1, e1, s1⟩ := mi_st l hl hc 8 (by decide) true x0.2.1 x0.2.2
  obtain ⟨x2, e2, s2⟩ := mi_st l hl hc 16 (by decide) true x1.2.1 x1.2.2
  obtain ⟨x3, e3, s3⟩ := me_st l hl hc 16 (by decide) true x2.2.1 x2.2.2
  obtain ⟨x4, e4, s4⟩ := mi_st l hl hc 16 (by decide) true x3.2.1 x3.2.2
  obtain ⟨x5, e5, s5⟩ := int_st l hl hc x4.2.1 x4.2.2
  obtain ⟨x6, e6, s6⟩ := int_st l hl hc x5.2.1 x5.2.2
  obtain ⟨x7, e7, s7⟩ := int_st l hl hc x6.2.1 x6.2.2
  obtain ⟨x8, e8, s8⟩ := int_st l hl hc x7.2.1 x7.2.2
  exact ⟨(x0.1, x1.1, x2.1, x3.1, x4.1, x5.1, x6.1, x7.1, x8.1, x8.2.1, x8.2.2), Ev.bind e0 (Ev.bind e1 (Ev.bind e2 (Ev.bind e3 (Ev.bind e4 (Ev.bind e5 (Ev.bind e6 (Ev.bind e7 (Ev.bind e8 (Ev.now _))))))))), s0.seq (s1.seq (s2.seq (s3.seq (s4.seq (s5.seq (s6.seq (s7.seq (s8.seq (St.now _ _)))))))))⟩
theorem mn_st (m : Nat) (hm : m ≤ 100) (z : Bool) (a : Int) (b : Bool) : ∃ r, Ev (fun k => api_Node_37.f k l a b (m : Int) z) r ∧ St b (pMany l m (pNode l) a) r.1 r.2.1 r.2.2 :=
  many_st l hl hc 1034834473200 (by decide) (fun a b k => sheet_reader_node.f k l a b) (fun r => (⟨r.1, r.2.1, r.2.2.1, r.2.2.2.1, r.2.2.2.2.1, r.2.2.2.2.2.1, r.2.2.2.2.2.2.1, r.2.2.2.2.2.2.2.1, r.2.2.2.2.2.2.2.2.1⟩ : S44)) (fun r => r.2.2.2.2.2.2.2.2.2.1) (fun r => r.2.2.2.2.2.2.2.2.2.2) (pNode l) (node_st l hl hc) (fun k acc n i a b => api_Node_37.l0 k acc n i l a b) (fun k acc n i a b => by simp only [api_Node_37.l0]) (fun k n c w a b => api_Node_37.j0 k n c w l a b) (fun k n c w a b => by simp only [api_Node_37.j0]) m hm (fun a b k => api_Node_37.f k l a b (m : Int) z) (fun a b k => rfl) a b
theorem dec_any : Ev (fun k => sheet_Decode.f k l) (sdec l) := by
  by_cases h0 : 0 < l.length
  · by_cases h1 : rd l 0 = 80
    · obtain ⟨x, e1, s1⟩ := int_st l hl hc 1 false
      obtain ⟨y, e2, s2⟩ := mi_st l hl hc 8 (by decide) true x.2.1 x.2.2
      obtain ⟨z, e3, s3⟩ := mn_st l hl hc 64 (by decide) true y.2.1 y.2.2
      have s : St false (pPlan l) (z.1, y.1, x.1) z.2.1 z.2.2 := s1.seq (s2.seq (s3.seq (St.now _ _)))
      refine Ev.congr (f := fun k => sheet_Decode.j0 k l false) (fun k => by unfold sheet_Decode.f; rw [if_neg (by omega), if_pos (by omega), h1]; rfl) ?_
      refine Ev.step (f := fun k => (sheet_reader_int.f k l 1 false).bind fun b => (sheet_many_int.f k l b.2.1 b.2.2 8 true).bind fun c => (api_Node_37.f k l c.2.1 c.2.2 64 true).bind fun d => if d.2.2 = true then some (([] : List S44), ([] : List Int), 0, 6) else if d.2.1 = (l.length : Int) then some (d.1, c.1, b.1, 0) else some ([], [], 0, 6)) (fun k => by simp only [sheet_Decode.j0]; rfl) ?_
      refine Ev.bind e1 (Ev.bind e2 (Ev.bind e3 ?_))
      have h4 : fin l z.1 y.1 x.1 z.2.1 z.2.2 = sdec l := by
        rw [sdec, if_pos ⟨h0, h1⟩, fin]
        rcases s.2 rfl with ⟨f1, f2⟩ | ⟨f1, f2⟩
        · rw [if_pos f2, f1]
        · rw [if_neg (by rw [f2]; decide), f1]
      rw [← h4]
      refine Ev.congr (fun k => ?_) (Ev.now _)
      rw [fin]
      by_cases h5 : z.2.2 = true
      · rw [if_pos h5, if_pos h5]; rfl
      · rw [if_neg h5, if_neg h5]
        by_cases h6 : z.2.1 = (l.length : Int)
        · rw [if_pos h6, if_pos h6]
        · rw [if_neg h6, if_neg h6]; rfl
    · refine Ev.congr (f := fun k => sheet_Decode.j0 k l true) (fun k => by unfold sheet_Decode.f; rw [if_neg (by omega), if_pos (by omega), bne_iff_ne.mpr h1]) ?_
      refine Ev.step (fun k => ?_) (Ev.now _)
      rw [sdec, if_neg (fun x => h1 x.2)]; simp only [sheet_Decode.j0]; rfl
  · refine Ev.congr (f := fun k => sheet_Decode.j0 k l true) (fun k => by unfold sheet_Decode.f; rw [if_pos (by omega)]) ?_
    refine Ev.step (fun k => ?_) (Ev.now _)
    rw [sdec, if_neg (fun x => h0 x.1)]; simp only [sheet_Decode.j0]; rfl
/-! What was read is what would be written. -/
omit hc in
theorem pI_back (a : Int) (r : Int × Int) (h : pI l a = some r) : At l a (one r.1) r.2 ∧ i64 r.1 := by
  unfold pI at h
  split at h
  · rename_i h0; cases h; exact int_back l hl a h0
  · cases h
omit hc in
theorem pT_back (a : Int) (r : ByteArray × Int) (h : pT l a = some r) : At l a (txt r.1) r.2 ∧ r.1.size ≤ 4096 := by
  unfold pT at h
  split at h
  · rename_i h0; cases h; have := gtext_back l hl a 4096 h0; exact ⟨this.1, by show (gtext l a 4096).1.size ≤ 4096; have := this.2; omega⟩
  · cases h
omit hc in
theorem pN_back (m : Nat) (a : Int) (r : Nat × Int) (h : pN l m a = some r) : At l a (enc r.1) r.2 ∧ r.1 ≤ m := by
  unfold pN at h
  split at h
  · rename_i h0
    obtain ⟨n, p, q, hn, f1, f2, f3⟩ := get_back l hl a h0.1
    rw [f3] at h h0
    cases h
    refine ⟨⟨p, q, ?_, f2, ?_⟩, ?_⟩
    · show l = p ++ (enc (Int.toNat (n : Int)) ++ q)
      rw [Int.toNat_natCast]; exact f1
    · show _ = ((p.length + (enc (Int.toNat (n : Int))).length : Nat) : Int)
      rw [Int.toNat_natCast]
    · show Int.toNat (n : Int) ≤ m
      have := h0.2; rw [Int.toNat_natCast]; simp only at this; omega
  · cases h
omit hl hc in
theorem bind_some {α β : Type} {o : Option α} {f : α → Option β} {r : β} (h : o.bind f = some r) : ∃ x, o = some x ∧ f x = some r := Option.bind_eq_some_iff.mp h
omit hl hc in
theorem pLoop_back {α : Type} (P : Int → Option (α × Int)) (E : α → List Int) (Gd : α → Prop) (hP : ∀ a r, P a = some r → At l a (E r.1) r.2 ∧ Gd r.1) (n : Nat) : ∀ (a : Int) (r : List α × Int), 0 ≤ a → a ≤ (l.length : Int) → pLoop P n a = some r → At l a (flat E r.1) r.2 ∧ r.1.length = n ∧ ∀ x ∈ r.1, Gd x := by
  induction n with
  | zero => intro a r h0 h1 h; cases h; exact ⟨At.nil h0 h1, rfl, fun x hx => by cases hx⟩
  | succ n ih =>
    intro a r h0 h1 h
    obtain ⟨x, e1, h⟩ := bind_some h
    obtain ⟨y, e2, h⟩ := bind_some h
    cases h
    have b1 := hP a x e1
    have b2 := ih x.2 y (by have := b1.1.lt; omega) b1.1.lt.2.2 e2
    refine ⟨b1.1.trans b2.1, by rw [List.length_cons, b2.2.1], fun z hz => ?_⟩
    rcases List.mem_cons.1 hz with rfl | hz
    · exact b1.2
    · exact b2.2.2 z hz
omit hc in
theorem pMany_back {α : Type} (P : Int → Option (α × Int)) (E : α → List Int) (Gd : α → Prop) (hP : ∀ a r, P a = some r → At l a (E r.1) r.2 ∧ Gd r.1) (m : Nat) (a : Int) (r : List α × Int) (h : pMany l m P a = some r) : At l a (lst E r.1) r.2 ∧ r.1.length ≤ m ∧ ∀ x ∈ r.1, Gd x := by
  obtain ⟨x, e1, h⟩ := bind_some h
  have b1 := pN_back l hl m a x e1
  have b2 := pLoop_back l P E Gd hP x.1 x.2 r (by have := b1.1.lt; omega) b1.1.lt.2.2 h
  refine ⟨?_, by rw [b2.2.1]; exact b1.2, b2.2.2⟩
  rw [lst, b2.2.1]; exact b1.1.trans b2.1
omit hc in
theorem pTerm_back (a : Int) (r : S52 × Int) (h : pTerm l a = some r) : At l a (tbytes r.1) r.2 ∧ tgood r.1 := by
  obtain ⟨x, e1, h⟩ := bind_some h
  obtain ⟨y, e2, h⟩ := bind_some h
  obtain ⟨z, e3, h⟩ := bind_some h
  cases h
  have b1 := pI_back l hl _ _ e1; have b2 := pI_back l hl _ _ e2; have b3 := pT_back l hl _ _ e3
  exact ⟨b1.1.trans (b2.1.trans b3.1), b1.2, b2.2, b3.2⟩
omit hc in
theorem pExpr_back (a : Int) (r : List S52 × Int) (h : pExpr l a = some r) : At l a (ebytes r.1) r.2 ∧ egood r.1 :=
  pMany_back l hl (pTerm l) tbytes tgood (pTerm_back l hl) 64 a r h
omit hc in
theorem pNode_back (a : Int) (r : S44 × Int) (h : pNode l a = some r) : At l a (nbytes r.1) r.2 ∧ ngood r.1 := by
  obtain ⟨x0, e0, h⟩ := bind_some h
  obtain ⟨x1, e1, h⟩ := bind_some h
  obtain ⟨x2, e2, h⟩ := bind_some h
  obtain ⟨x3, e3, h⟩ := bind_some h
  obtain ⟨x4, e4, h⟩ := bind_some h
  obtain ⟨x5, e5, h⟩ := bind_some h
  obtain ⟨x6, e6, h⟩ := bind_some h
  obtain ⟨x7, e7, h⟩ := bind_some h
  obtain ⟨x8, e8, h⟩ := bind_some h
  cases h
  have b0 := pI_back l hl _ _ e0
  have b1 := pMany_back l hl (pI l) one i64 (pI_back l hl) 8 _ _ e1
  have b2 := pMany_back l hl (pI l) one i64 (pI_back l hl) 16 _ _ e2
  have b3 := pMany_back l hl (pExpr l) ebytes egood (pExpr_back l hl) 16 _ _ e3
  have b4 := pMany_back l hl (pI l) one i64 (pI_back l hl) 16 _ _ e4
  have b5 := pI_back l hl _ _ e5; have b6 := pI_back l hl _ _ e6; have b7 := pI_back l hl _ _ e7; have b8 := pI_back l hl _ _ e8
  exact ⟨b0.1.trans (b1.1.trans (b2.1.trans (b3.1.trans (b4.1.trans (b5.1.trans (b6.1.trans (b7.1.trans b8.1))))))), b0.2, b1.2.1, b1.2.2, b2.2.1, b2.2.2, b3.2.1, b3.2.2, b4.2.1, b4.2.2, b5.2, b6.2, b7.2, b8.2⟩
omit hc in
theorem sdec_back : sdec l = sbad ∨ (∃ ns o r, sdec l = (ns, o, r, 0) ∧ l = pbytes ns o r ∧ pgood ns o r) := by
  unfold sdec
  split
  · rename_i h0
    cases hp : pPlan l with
    | none => exact Or.inl rfl
    | some p =>
      by_cases hn : p.2 = (l.length : Int)
      · right
        obtain ⟨x, e1, h⟩ := bind_some hp
        obtain ⟨y, e2, h⟩ := bind_some h
        obtain ⟨z, e3, h⟩ := bind_some h
        cases h
        have b1 := pI_back l hl _ _ e1
        have b2 := pMany_back l hl (pI l) one i64 (pI_back l hl) 8 _ _ e2
        have b3 := pMany_back l hl (pNode l) nbytes ngood (pNode_back l hl) 64 _ _ e3
        have b := (At.one (l := l) (a := 0) (by omega) (by omega)).trans (b1.1.trans (b2.1.trans b3.1))
        refine ⟨z.1, y.1, x.1, by simp only [if_pos hn], ?_, b3.2.1, b3.2.2, b2.2.1, b2.2.2, b1.2⟩
        obtain ⟨q, t, f1, f2, f3⟩ := b
        have hq : q = [] := List.eq_nil_of_length_eq_zero (by omega)
        subst hq
        rw [h0.2] at f1 f3
        have ht : t = [] := by
          apply List.eq_nil_of_length_eq_zero
          have h5 := congrArg List.length f1
          simp only at hn
          rw [hn] at f3
          generalize [80] ++ (one x.1 ++ (lst one y.1 ++ lst nbytes z.1)) = u at f1 f3 h5
          rw [List.length_append, List.length_append] at h5
          simp only [List.length_nil] at f3 h5
          omega
        rw [ht, List.append_nil, List.nil_append] at f1
        exact f1
      · left; simp only [if_neg hn]
  · exact Or.inl rfl
end Read
section RRead
variable (l : List Int) (hl : ∀ x ∈ l, 0 ≤ x ∧ x < 256) (hc : l.length + 10 ≤ capN)
include hl hc
theorem Rnum_st (a : Int) (b : Bool) : ∃ r, Ev (fun k => runnelref17_number.f k l a b) r ∧ St b (pI l a) r.1 r.2.1 r.2.2 := by
  have h : Ev (fun k => runnelref01_GetInt.f k l a) (zag (NumPure.get l a).1, (NumPure.get l a).2.1, (NumPure.get l a).2.2) := ⟨2 * l.length + 16, fun k hk => RgetInt_f l hl a hk hc⟩
  cases b with
  | true => exact ⟨(0, a, true), Ev.bind h (Ev.congr (fun k => if_pos rfl) (Ev.now _)), St.bad _ _ (fun e => by cases e)⟩
  | false =>
    by_cases h0 : (NumPure.get l a).2.2 = 0
    · refine ⟨(zag (NumPure.get l a).1, (NumPure.get l a).2.1, false), Ev.bind h (Ev.congr (fun k => ?_) (Ev.now _)), ?_⟩
      · simp only [Bool.false_eq_true, if_false]; rw [if_pos h0]
      · rw [pI, if_pos h0]; exact St.now _ _
    · refine ⟨(0, a, true), Ev.bind h (Ev.congr (fun k => ?_) (Ev.now _)), St.bad _ _ (fun _ => by rw [pI, if_neg h0])⟩
      simp only [Bool.false_eq_true, if_false]; rw [if_neg h0]
def pC (l : List Int) (m : Nat) (a : Int) : Option (Int × Int) := (pN l m a).bind fun r => some ((r.1 : Int), r.2)
theorem Rcnt_st (m : Nat) (hm : m ≤ 100) (a : Int) (b : Bool) : ∃ r, Ev (fun k => runnelref17_count.f k l a b (m : Int)) r ∧ St b (pC l m a) r.1 r.2.1 r.2.2 ∧ (r.2.2 = false → ∃ n : Nat, n ≤ m ∧ r.1 = (n : Int)) := by
  have h : Ev (fun k => runnelref01_Get.f k l a) (NumPure.get l a) := ⟨2 * l.length + 16, fun k hk => Rget_f l hl a hk hc⟩
  have hu : IntKind.u64.wrap (m : Int) = (m : Int) := u64_in _ (by omega) (by omega)
  cases b with
  | true => exact ⟨(0, a, true), Ev.bind h (Ev.congr (fun k => if_pos rfl) (Ev.now _)), St.bad _ _ (fun e => by cases e), fun e => by cases e⟩
  | false =>
    by_cases h0 : (NumPure.get l a).2.2 = 0
    · by_cases h1 : (NumPure.get l a).1 ≤ (m : Int)
      · have hr := got_range l hl a
        obtain ⟨n, hn⟩ := Int.eq_ofNat_of_zero_le hr.1
        refine ⟨((n : Int), (NumPure.get l a).2.1, false), Ev.bind h (Ev.congr (fun k => ?_) (Ev.now _)), ?_, fun _ => ⟨n, by omega, rfl⟩⟩
        · simp only [Bool.false_eq_true, if_false]; rw [if_pos h0, hu, if_neg (by omega), wrap_in _ (by omega) (by omega), hn]
        · rw [pC, pN, if_pos ⟨h0, h1⟩, hn]; exact St.now _ _
      · refine ⟨(0, a, true), Ev.bind h (Ev.congr (fun k => ?_) (Ev.now _)), St.bad _ _ (fun _ => by rw [pC, pN, if_neg (fun x => h1 x.2)]; rfl), fun e => by cases e⟩
        simp only [Bool.false_eq_true, if_false]; rw [if_pos h0, hu, if_pos (by omega)]
    · refine ⟨(0, a, true), Ev.bind h (Ev.congr (fun k => ?_) (Ev.now _)), St.bad _ _ (fun _ => by rw [pC, pN, if_neg (fun x => h0 x.1)]; rfl), fun e => by cases e⟩
      simp only [Bool.false_eq_true, if_false]; rw [if_neg h0]
omit hl hc in
theorem pMany_C {α : Type} (m : Nat) (P : Int → Option (α × Int)) (a : Int) : pMany l m P a = (pC l m a).bind fun r => pLoop P r.1.toNat r.2 := by
  rw [pMany, pC, Option.bind_assoc]; rfl
omit hl hc in
theorem pLoop_acc {α : Type} (P : Int → Option (α × Int)) (d : Nat) (a : Int) (acc : List α) : ((pLoop P (d + 1) a).bind fun s => some (acc ++ s.1, s.2)) = ((P a).bind fun r => (pLoop P d r.2).bind fun s => some ((acc ++ [r.1]) ++ s.1, s.2)) := by
  rw [pLoop, Option.bind_assoc]
  congr 1; funext r
  rw [Option.bind_assoc]
  congr 1; funext s
  simp
omit hl hc in
theorem pLoop_nil {α : Type} (P : Int → Option (α × Int)) (d : Nat) (a : Int) : ((pLoop P d a).bind fun s => some (([] : List α) ++ s.1, s.2)) = pLoop P d a := by
  cases pLoop P d a <;> simp
theorem Rnums_l0 (d : Nat) : ∀ (acc : List Int) (a : Int) (b : Bool), acc.length + d ≤ 100 → ∃ r, Ev (fun k => runnelref17_numbers.l0 k acc (d : Int) l a b) r ∧ St b ((pLoop (pI l) d a).bind fun s => some (acc ++ s.1, s.2)) r.1 r.2.1 r.2.2 := by
  induction d with
  | zero =>
    intro acc a b _
    refine ⟨(acc, a, b), Ev.step (fun k => ?_) (Ev.now _), ?_⟩
    · simp only [runnelref17_numbers.l0]; rw [if_neg (by omega)]
    · show St b (some (acc ++ [], a)) acc a b
      rw [List.append_nil]; exact St.now _ _
  | succ d ih =>
    intro acc a b hn
    cases b with
    | true =>
      refine ⟨(acc, a, true), Ev.step (fun k => ?_) (Ev.now _), St.bad _ _ (fun e => by cases e)⟩
      simp only [runnelref17_numbers.l0]; rw [if_pos (by omega), if_pos trivial]
    | false =>
      obtain ⟨x, e1, s1⟩ := Rnum_st l hl hc a false
      obtain ⟨r, e2, s2⟩ := ih (acc ++ [x.1]) x.2.1 x.2.2 (by rw [List.length_append, List.length_singleton]; omega)
      refine ⟨r, Ev.step (f := fun k => (runnelref17_number.f k l a false).bind fun x => if acc.length < 17592186044416 then runnelref17_numbers.l0 k (acc ++ [x.1]) (d : Int) l x.2.1 x.2.2 else none) (fun k => ?_) (Ev.bind e1 (Ev.congr (fun k => if_pos (by omega)) e2)), ?_⟩
      · simp only [runnelref17_numbers.l0]
        rw [if_pos (by omega), if_neg (by decide), show wrap64 (((d + 1 : Nat) : Int) - 1) = (d : Int) by rw [wrap_in _ (by omega) (by omega)]; omega]
      · rw [pLoop_acc]
        exact s1.seq (q := fun r => (pLoop (pI l) d r.2).bind fun s => some ((acc ++ [r.1]) ++ s.1, s.2)) s2
omit hl hc in
theorem Rnums_bad (acc : List Int) (n a : Int) : Ev (fun k => runnelref17_numbers.l0 k acc n l a true) (acc, a, true) := by
  refine Ev.step (fun k => ?_) (Ev.now _)
  simp only [runnelref17_numbers.l0]
  by_cases h : n > 0
  · rw [if_pos h, if_pos trivial]
  · rw [if_neg h]
theorem Rnums_st (m : Nat) (hm : m ≤ 100) (a : Int) (b : Bool) : ∃ r, Ev (fun k => runnelref17_numbers.f k l a b (m : Int)) r ∧ St b (pMany l m (pI l) a) r.1 r.2.1 r.2.2 := by
  obtain ⟨c, e1, s1, h1⟩ := Rcnt_st l hl hc m hm a b
  rw [pMany_C]
  cases hb : c.2.2 with
  | true =>
    refine ⟨([], c.2.1, true), Ev.bind e1 (Ev.congr (fun k => by rw [hb]) (Rnums_bad l [] c.1 c.2.1)), ?_⟩
    rw [hb] at s1
    exact s1.seq (q := fun r => pLoop (pI l) r.1.toNat r.2) (St.bad _ _ (fun e => by cases e))
  | false =>
    obtain ⟨n, hn, e⟩ := h1 hb
    obtain ⟨r, e2, s2⟩ := Rnums_l0 l hl hc n [] c.2.1 false (by rw [List.length_nil]; omega)
    rw [pLoop_nil] at s2
    refine ⟨r, Ev.bind e1 (Ev.congr (fun k => by rw [hb, e]) e2), ?_⟩
    rw [hb] at s1
    refine s1.seq (q := fun r => pLoop (pI l) r.1.toNat r.2) ?_
    show St false (pLoop (pI l) c.1.toNat c.2.1) _ _ _
    rw [e, Int.toNat_natCast]; exact s2
omit hl hc in
theorem Rsteps_end (acc : List S52) (n a : Int) (b : Bool) (h : ¬ n > 0 ∨ b = true) : Ev (fun k => runnelref17_steps.l0 k acc n l a b) (acc, a, b) := by
  refine Ev.step (f := fun k => runnelref17_steps.j1 k acc n false l a b) (fun k => ?_) (Ev.step (fun k => ?_) (Ev.now _))
  · simp only [runnelref17_steps.l0]
    by_cases h0 : n > 0
    · have : b = true := by rcases h with h | h; exact absurd h0 h; exact h
      subst this
      rw [if_pos h0]; rfl
    · rw [if_neg h0]
  · simp only [runnelref17_steps.j1]; rfl
theorem Rsteps_l0 (d : Nat) : ∀ (acc : List S52) (a : Int) (b : Bool), acc.length + d ≤ 100 → ∃ r, Ev (fun k => runnelref17_steps.l0 k acc (d : Int) l a b) r ∧ St b ((pLoop (pTerm l) d a).bind fun s => some (acc ++ s.1, s.2)) r.1 r.2.1 r.2.2 := by
  induction d with
  | zero =>
    intro acc a b _
    refine ⟨(acc, a, b), Rsteps_end l acc _ a b (Or.inl (by omega)), ?_⟩
    show St b (some (acc ++ [], a)) acc a b
    rw [List.append_nil]; exact St.now _ _
  | succ d ih =>
    intro acc a b hn
    cases b with
    | true => exact ⟨(acc, a, true), Rsteps_end l acc _ a true (Or.inr rfl), St.bad _ _ (fun e => by cases e)⟩
    | false =>
      obtain ⟨x, e1, s1⟩ := Rnum_st l hl hc a false
      obtain ⟨y, e2, s2⟩ := Rnum_st l hl hc x.2.1 x.2.2
      have e3 : Ev (fun k => runnelref01_GetText.f k l y.2.1 4096) (gtext l y.2.1 4096) := ⟨2 * l.length + 16, fun k hk => Rgtext_f l hl y.2.1 4096 hk hc (by decide) (by decide)⟩
      have s : St false ((pI l a).bind fun x => (pI l x.2).bind fun y => some ((x.1, y.1), y.2)) (x.1, y.1) y.2.1 y.2.2 := s1.seq (s2.seq (St.now _ _))
      have hp : pTerm l a = ((pI l a).bind fun x => (pI l x.2).bind fun y => some ((x.1, y.1), y.2)).bind fun r => (pT l r.2).bind fun z => some (⟨r.1.1, r.1.2, z.1⟩, z.2) := by
        rw [pTerm, Option.bind_assoc]; congr 1; funext x; rw [Option.bind_assoc]; rfl
      have go : ∀ res, Ev (fun k => if y.2.2 = true then some (acc, y.2.1, true) else if (gtext l y.2.1 4096).2.2 = 0 then (if acc.length < 4398046511104 then runnelref17_steps.l0 k (acc ++ [(⟨x.1, y.1, (gtext l y.2.1 4096).1⟩ : S52)]) (d : Int) l (gtext l y.2.1 4096).2.1 y.2.2 else none) else some (acc, y.2.1, true)) res → Ev (fun k => runnelref17_steps.l0 k acc ((d + 1 : Nat) : Int) l a false) res := by
        intro res h
        refine Ev.step (f := fun k => runnelref17_steps.j1 k acc ((d + 1 : Nat) : Int) true l a false) (fun k => ?_) ?_
        · simp only [runnelref17_steps.l0]; rw [if_pos (by omega)]; rfl
        refine Ev.step (f := fun k => (runnelref17_number.f k l a false).bind fun x => (runnelref17_number.f k l x.2.1 x.2.2).bind fun y => (runnelref01_GetText.f k l y.2.1 4096).bind fun z => if y.2.2 = true then some (acc, y.2.1, true) else if z.2.2 = 0 then (if acc.length < 4398046511104 then runnelref17_steps.l0 k (acc ++ [(⟨x.1, y.1, z.1⟩ : S52)]) (d : Int) l z.2.1 y.2.2 else none) else some (acc, y.2.1, true)) (fun k => ?_) ?_
        · simp only [runnelref17_steps.j1]
          rw [if_pos trivial, show wrap64 (((d + 1 : Nat) : Int) - 1) = (d : Int) by rw [wrap_in _ (by omega) (by omega)]; omega]
        exact Ev.bind e1 (Ev.bind e2 (Ev.bind e3 h))
      rw [pLoop_acc, hp]
      rcases s.2 rfl with ⟨f1, f2⟩ | ⟨f1, f2⟩
      · exact ⟨(acc, y.2.1, true), go _ (Ev.congr (fun k => if_pos f2) (Ev.now _)), St.bad _ _ (fun _ => by rw [f1]; rfl)⟩
      · by_cases h0 : (gtext l y.2.1 4096).2.2 = 0
        · obtain ⟨r, e4, s4⟩ := ih (acc ++ [(⟨x.1, y.1, (gtext l y.2.1 4096).1⟩ : S52)]) (gtext l y.2.1 4096).2.1 false (by rw [List.length_append, List.length_singleton]; omega)
          refine ⟨r, go _ (Ev.congr (fun k => by rw [f2, if_neg (by decide), if_pos h0, if_pos (by omega)]) e4), ?_⟩
          rw [f1]
          show St false (((pT l y.2.1).bind fun z => some ((⟨x.1, y.1, z.1⟩ : S52), z.2)).bind _) _ _ _
          rw [pT, if_pos h0]
          exact s4
        · refine ⟨(acc, y.2.1, true), go _ (Ev.congr (fun k => by rw [f2, if_neg (by decide), if_neg h0]) (Ev.now _)), St.bad _ _ (fun _ => ?_)⟩
          rw [f1]
          show ((pT l y.2.1).bind fun z => some ((⟨x.1, y.1, z.1⟩ : S52), z.2)).bind _ = none
          rw [pT, if_neg h0]; rfl
theorem Rsteps_st (a : Int) (b : Bool) : ∃ r, Ev (fun k => runnelref17_steps.f k l a b) r ∧ St b (pExpr l a) r.1 r.2.1 r.2.2 := by
  obtain ⟨c, e1, s1, h1⟩ := Rcnt_st l hl hc 64 (by decide) a b
  rw [pExpr, pMany_C]
  cases hb : c.2.2 with
  | true =>
    refine ⟨([], c.2.1, true), Ev.bind e1 (Ev.congr (fun k => by rw [hb]) (Rsteps_end l [] c.1 c.2.1 true (Or.inr rfl))), ?_⟩
    rw [hb] at s1
    exact s1.seq (q := fun r => pLoop (pTerm l) r.1.toNat r.2) (St.bad _ _ (fun e => by cases e))
  | false =>
    obtain ⟨n, hn, e⟩ := h1 hb
    obtain ⟨r, e2, s2⟩ := Rsteps_l0 l hl hc n [] c.2.1 false (by rw [List.length_nil]; omega)
    rw [pLoop_nil] at s2
    refine ⟨r, Ev.bind e1 (Ev.congr (fun k => by rw [hb, e]) e2), ?_⟩
    rw [hb] at s1
    refine s1.seq (q := fun r => pLoop (pTerm l) r.1.toNat r.2) ?_
    show St false (pLoop (pTerm l) c.1.toNat c.2.1) _ _ _
    rw [e, Int.toNat_natCast]; exact s2
/-- The loop over a node's expressions: what it leaves behind. -/
theorem Rex_l1 (x6 : Int) (ns : List S44) (o : List Int) (rm kd : Int) (i1 i2 : List Int) (d : Nat) : ∀ (ex : List (List S52)) (a : Int) (b : Bool), ex.length + d ≤ 100 → ∃ r : List (List S52) × Int × Bool,
    St b ((pLoop (pExpr l) d a).bind fun s => some (ex ++ s.1, s.2)) r.1 r.2.1 r.2.2 ∧ ∀ res, Ev (fun k => runnelref17_Decode.j4 k l x6 l r.2.1 r.2.2 ns o rm kd i1 i2 r.1 0 0 0 0) res → Ev (fun k => runnelref17_Decode.l1 k l x6 (d : Int) l a b ns o rm kd i1 i2 ex 0 0 0 0) res := by
  induction d with
  | zero =>
    intro ex a b _
    refine ⟨(ex, a, b), ?_, fun res h => Ev.step (f := fun k => runnelref17_Decode.j4 k l x6 l a b ns o rm kd i1 i2 ex 0 0 0 0) (fun k => ?_) h⟩
    · show St b (some (ex ++ [], a)) ex a b
      rw [List.append_nil]; exact St.now _ _
    · simp only [runnelref17_Decode.l1]; rw [if_neg (by omega)]
  | succ d ih =>
    intro ex a b hn
    cases b with
    | true =>
      refine ⟨(ex, a, true), St.bad _ _ (fun e => by cases e), fun res h => Ev.step (f := fun k => runnelref17_Decode.j4 k l x6 l a true ns o rm kd i1 i2 ex 0 0 0 0) (fun k => ?_) h⟩
      simp only [runnelref17_Decode.l1]; rw [if_pos (by omega), if_pos trivial]
    | false =>
      obtain ⟨x, e1, s1⟩ := Rsteps_st l hl hc a false
      obtain ⟨r, s2, h2⟩ := ih (ex ++ [x.1]) x.2.1 x.2.2 (by rw [List.length_append, List.length_singleton]; omega)
      refine ⟨r, ?_, fun res h => Ev.step (f := fun k => (runnelref17_steps.f k l a false).bind fun x => if ex.length < 5864062014805 then runnelref17_Decode.l1 k l x6 (d : Int) l x.2.1 x.2.2 ns o rm kd i1 i2 (ex ++ [x.1]) 0 0 0 0 else none) (fun k => ?_) (Ev.bind e1 (Ev.congr (fun k => if_pos (by omega)) (h2 res h)))⟩
      · rw [pLoop_acc]
        exact s1.seq (q := fun r => (pLoop (pExpr l) d r.2).bind fun s => some ((ex ++ [r.1]) ++ s.1, s.2)) s2
      · simp only [runnelref17_Decode.l1]
        rw [if_pos (by omega), if_neg (by decide), show wrap64 (((d + 1 : Nat) : Int) - 1) = (d : Int) by rw [wrap_in _ (by omega) (by omega)]; omega]
omit hl hc in
theorem Rex_bad (x6 n a : Int) (ns : List S44) (o : List Int) (rm kd : Int) (i1 i2 : List Int) (ex : List (List S52)) (res : List S44 × List Int × Int × Int) (h : Ev (fun k => runnelref17_Decode.j4 k l x6 l a true ns o rm kd i1 i2 ex 0 0 0 0) res) : Ev (fun k => runnelref17_Decode.l1 k l x6 n l a true ns o rm kd i1 i2 ex 0 0 0 0) res := by
  refine Ev.step (f := fun k => runnelref17_Decode.j4 k l x6 l a true ns o rm kd i1 i2 ex 0 0 0 0) (fun k => ?_) h
  simp only [runnelref17_Decode.l1]
  by_cases h0 : n > 0
  · rw [if_pos h0, if_pos trivial]
  · rw [if_neg h0]
theorem Rex_st (x6 : Int) (ns : List S44) (o : List Int) (rm kd : Int) (i1 i2 : List Int) (a : Int) (b : Bool) : ∃ (c : Int × Int × Bool) (r : List (List S52) × Int × Bool), Ev (fun k => runnelref17_count.f k l a b 16) c ∧ St b (pMany l 16 (pExpr l) a) r.1 r.2.1 r.2.2 ∧
    ∀ res, Ev (fun k => runnelref17_Decode.j4 k l x6 l r.2.1 r.2.2 ns o rm kd i1 i2 r.1 0 0 0 0) res → Ev (fun k => runnelref17_Decode.l1 k l x6 c.1 l c.2.1 c.2.2 ns o rm kd i1 i2 [] 0 0 0 0) res := by
  obtain ⟨c, e1, s1, h1⟩ := Rcnt_st l hl hc 16 (by decide) a b
  rw [pMany_C]
  cases hb : c.2.2 with
  | true =>
    refine ⟨c, ([], c.2.1, true), e1, ?_, fun res h => ?_⟩
    · rw [hb] at s1
      exact s1.seq (q := fun r => pLoop (pExpr l) r.1.toNat r.2) (St.bad _ _ (fun e => by cases e))
    · rw [hb]; exact Rex_bad l x6 c.1 c.2.1 ns o rm kd i1 i2 [] res h
  | false =>
    obtain ⟨n, hn, e⟩ := h1 hb
    obtain ⟨r, s2, h2⟩ := Rex_l1 l hl hc x6 ns o rm kd i1 i2 n [] c.2.1 false (by rw [List.length_nil]; omega)
    rw [pLoop_nil] at s2
    refine ⟨c, r, e1, ?_, fun res h => ?_⟩
    · rw [hb] at s1
      refine s1.seq (q := fun r => pLoop (pExpr l) r.1.toNat r.2) ?_
      show St false (pLoop (pExpr l) c.1.toNat c.2.1) _ _ _
      rw [e, Int.toNat_natCast]; exact s2
    · rw [hb, e]; exact h2 res h
omit hl hc in
theorem Rend (x6 a : Int) (b : Bool) (ns : List S44) (o : List Int) (rm : Int) (h : ¬ x6 > 0 ∨ b = true) : Ev (fun k => runnelref17_Decode.l0 k l x6 l a b ns o rm) (fin l ns o rm a b) := by
  refine Ev.step (f := fun k => runnelref17_Decode.j2 k l x6 false l a b ns o rm) (fun k => ?_) (Ev.step (fun k => ?_) (Ev.now _))
  · simp only [runnelref17_Decode.l0]
    by_cases h0 : x6 > 0
    · have : b = true := by rcases h with h | h; exact absurd h0 h; exact h
      subst this
      rw [if_pos h0]; rfl
    · rw [if_neg h0]
  · simp only [runnelref17_Decode.j2]
    rw [if_neg (by decide), fin]
    by_cases h0 : b = true
    · rw [if_pos h0, if_pos h0]; rfl
    · rw [if_neg h0, if_neg h0]
      by_cases h1 : a = (l.length : Int)
      · rw [if_pos h1, if_pos h1]
      · rw [if_neg h1, if_neg h1]; rfl
theorem Rnodes (o : List Int) (rm : Int) (d : Nat) : ∀ (ns : List S44) (a : Int) (b : Bool), ns.length + d ≤ 100 → ∃ r : List S44 × Int × Bool,
    St b ((pLoop (pNode l) d a).bind fun s => some (ns ++ s.1, s.2)) r.1 r.2.1 r.2.2 ∧ Ev (fun k => runnelref17_Decode.l0 k l (d : Int) l a b ns o rm) (fin l r.1 o rm r.2.1 r.2.2) := by
  induction d with
  | zero =>
    intro ns a b _
    refine ⟨(ns, a, b), ?_, Rend l _ a b ns o rm (Or.inl (by omega))⟩
    show St b (some (ns ++ [], a)) ns a b
    rw [List.append_nil]; exact St.now _ _
  | succ d ih =>
    intro ns a b hn
    cases b with
    | true => exact ⟨(ns, a, true), St.bad _ _ (fun e => by cases e), Rend l _ a true ns o rm (Or.inr rfl)⟩
    | false =>
      obtain ⟨x0, e0, s0⟩ := Rnum_st l hl hc a false
      obtain ⟨x1, e1, s1⟩ := Rnums_st l hl hc 8 (by decide) x0.2.1 x0.2.2
      obtain ⟨x2, e2, s2⟩ := Rnums_st l hl hc 16 (by decide) x1.2.1 x1.2.2
      obtain ⟨c, x3, e3, s3, h3⟩ := Rex_st l hl hc ((d + 1 : Nat) : Int) ns o rm x0.1 x1.1 x2.1 x2.2.1 x2.2.2
      obtain ⟨x4, e4, s4⟩ := Rnums_st l hl hc 16 (by decide) x3.2.1 x3.2.2
      obtain ⟨x5, e5, s5⟩ := Rnum_st l hl hc x4.2.1 x4.2.2
      obtain ⟨x6, e6, s6⟩ := Rnum_st l hl hc x5.2.1 x5.2.2
      obtain ⟨x7, e7, s7⟩ := Rnum_st l hl hc x6.2.1 x6.2.2
      obtain ⟨x8, e8, s8⟩ := Rnum_st l hl hc x7.2.1 x7.2.2
      have s : St false (pNode l a) (⟨x0.1, x1.1, x2.1, x3.1, x4.1, x5.1, x6.1, x7.1, x8.1⟩ : S44) x8.2.1 x8.2.2 := s0.seq (s1.seq (s2.seq (s3.seq (s4.seq (s5.seq (s6.seq (s7.seq (s8.seq (St.now _ _)))))))))
      obtain ⟨r, s9, e9⟩ := ih (ns ++ [(⟨x0.1, x1.1, x2.1, x3.1, x4.1, x5.1, x6.1, x7.1, x8.1⟩ : S44)]) x8.2.1 x8.2.2 (by rw [List.length_append, List.length_singleton]; omega)
      refine ⟨r, ?_, ?_⟩
      · rw [pLoop_acc]
        exact s.seq (q := fun r => (pLoop (pNode l) d r.2).bind fun s => some ((ns ++ [r.1]) ++ s.1, s.2)) s9
      · refine Ev.step (f := fun k => runnelref17_Decode.j2 k l ((d + 1 : Nat) : Int) true l a false ns o rm) (fun k => ?_) ?_
        · simp only [runnelref17_Decode.l0]; rw [if_pos (by omega)]; rfl
        refine Ev.step (f := fun k => (runnelref17_number.f k l a false).bind fun y0 => (runnelref17_numbers.f k l y0.2.1 y0.2.2 8).bind fun y1 => (runnelref17_numbers.f k l y1.2.1 y1.2.2 16).bind fun y2 => (runnelref17_count.f k l y2.2.1 y2.2.2 16).bind fun c => runnelref17_Decode.l1 k l ((d + 1 : Nat) : Int) c.1 l c.2.1 c.2.2 ns o rm y0.1 y1.1 y2.1 [] 0 0 0 0) (fun k => ?_) ?_
        · simp only [runnelref17_Decode.j2]; rfl
        refine Ev.bind e0 (Ev.bind e1 (Ev.bind e2 (Ev.bind e3 (h3 _ ?_))))
        refine Ev.step (f := fun k => (runnelref17_numbers.f k l x3.2.1 x3.2.2 16).bind fun y4 => (runnelref17_number.f k l y4.2.1 y4.2.2).bind fun y5 => (runnelref17_number.f k l y5.2.1 y5.2.2).bind fun y6 => (runnelref17_number.f k l y6.2.1 y6.2.2).bind fun y7 => (runnelref17_number.f k l y7.2.1 y7.2.2).bind fun y8 => if ns.length < 1034834473200 then runnelref17_Decode.l0 k l (d : Int) l y8.2.1 y8.2.2 (ns ++ [(⟨x0.1, x1.1, x2.1, x3.1, y4.1, y5.1, y6.1, y7.1, y8.1⟩ : S44)]) o rm else none) (fun k => ?_) ?_
        · simp only [runnelref17_Decode.j4]
          rw [show wrap64 (((d + 1 : Nat) : Int) - 1) = (d : Int) by rw [wrap_in _ (by omega) (by omega)]; omega]
        exact Ev.bind e4 (Ev.bind e5 (Ev.bind e6 (Ev.bind e7 (Ev.bind e8 (Ev.congr (fun k => if_pos (by omega)) e9)))))
theorem Rdec_any : Ev (fun k => runnelref17_Decode.f k l) (sdec l) := by
  by_cases h0 : 0 < l.length
  · by_cases h1 : rd l 0 = 80
    · obtain ⟨x, e1, s1⟩ := Rnum_st l hl hc 1 false
      obtain ⟨y, e2, s2⟩ := Rnums_st l hl hc 8 (by decide) x.2.1 x.2.2
      obtain ⟨c, e3, s3, h3⟩ := Rcnt_st l hl hc 64 (by decide) y.2.1 y.2.2
      refine Ev.congr (f := fun k => runnelref17_Decode.j0 k l false) (fun k => by unfold runnelref17_Decode.f; rw [if_neg (by omega), if_pos (by omega), h1]; rfl) ?_
      refine Ev.step (f := fun k => (runnelref17_number.f k l 1 false).bind fun b => (runnelref17_numbers.f k l b.2.1 b.2.2 8).bind fun d => (runnelref17_count.f k l d.2.1 d.2.2 64).bind fun c => runnelref17_Decode.l0 k l c.1 l c.2.1 c.2.2 [] d.1 b.1) (fun k => by simp only [runnelref17_Decode.j0]; rfl) ?_
      refine Ev.bind e1 (Ev.bind e2 (Ev.bind e3 ?_))
      have hp : ∀ z : List S44 × Int × Bool, St y.2.2 (pMany l 64 (pNode l) y.2.1) z.1 z.2.1 z.2.2 → fin l z.1 y.1 x.1 z.2.1 z.2.2 = sdec l := by
        intro z s3
        have s : St false (pPlan l) (z.1, y.1, x.1) z.2.1 z.2.2 := s1.seq (s2.seq (s3.seq (St.now _ _)))
        rw [sdec, if_pos ⟨h0, h1⟩, fin]
        rcases s.2 rfl with ⟨f1, f2⟩ | ⟨f1, f2⟩
        · rw [if_pos f2, f1]
        · rw [if_neg (by rw [f2]; decide), f1]
      cases hb : c.2.2 with
      | true =>
        have h4 := hp ([], c.2.1, true) (by
          rw [pMany_C]
          rw [hb] at s3
          exact s3.seq (q := fun r => pLoop (pNode l) r.1.toNat r.2) (St.bad _ _ (fun e => by cases e)))
        rw [← h4]
        exact Rend l c.1 c.2.1 true [] y.1 x.1 (Or.inr rfl)
      | false =>
        obtain ⟨n, hn, e⟩ := h3 hb
        obtain ⟨r, s4, e4⟩ := Rnodes l hl hc y.1 x.1 n [] c.2.1 false (by rw [List.length_nil]; omega)
        rw [pLoop_nil] at s4
        have h4 := hp r (by
          rw [pMany_C]
          rw [hb] at s3
          refine s3.seq (q := fun r => pLoop (pNode l) r.1.toNat r.2) ?_
          show St false (pLoop (pNode l) c.1.toNat c.2.1) _ _ _
          rw [e, Int.toNat_natCast]; exact s4)
        rw [← h4, e]
        exact e4
    · refine Ev.congr (f := fun k => runnelref17_Decode.j0 k l true) (fun k => by unfold runnelref17_Decode.f; rw [if_neg (by omega), if_pos (by omega), bne_iff_ne.mpr h1]) ?_
      refine Ev.step (fun k => ?_) (Ev.now _)
      rw [sdec, if_neg (fun x => h1 x.2)]; simp only [runnelref17_Decode.j0]; rfl
  · refine Ev.congr (f := fun k => runnelref17_Decode.j0 k l true) (fun k => by unfold runnelref17_Decode.f; rw [if_pos (by omega)]) ?_
    refine Ev.step (fun k => ?_) (Ev.now _)
    rw [sdec, if_neg (fun x => h0 x.1)]; simp only [runnelref17_Decode.j0]; rfl
end RRead
end Go.Proofs.Ytbdpnecnnokkkaa.BSheetDecodes
