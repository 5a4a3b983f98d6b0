/- NumTexts: what the printed functions of the numbers' layer answer, for each input: by the plain mathematics of NumPure. -/
import Derived.Test.YtocgcnmlgkhgpaaONumTextsx3
import Derived.Test.YtocgcnmlgkhgpaaNumPure
namespace Go.Proofs.Ytocgcnmlgkhgpaa.BNumTexts
open Go.RowKit Go.Proofs.Ytocgcnmlgkhgpaa.PNumTexts Go.Proofs.Ytocgcnmlgkhgpaa.NumPure Go.Proofs.YtocgcnmlgkhgpaaW.PrintWords Go.Proofs.YtocgcnmlgkhgpaaW.PrintLast Go.Proofs.YtocgcnmlgkhgpaaW.PrintMore
set_option linter.unusedVariables false
attribute [local irreducible] IntKind.wrap Go.bits shr shl str maxLen
theorem size_l0 (d : Nat) : ∀ (k n : Nat) (c : Int), (hi n).length = d → d < k → 0 ≤ c → c + d ≤ 100 → num_Size.l0 k n c = some (c + d) := by
  induction d with
  | zero =>
    intro k n c hd hk _ _
    obtain ⟨k, rfl⟩ : ∃ m, k = m + 1 := ⟨k - 1, by omega⟩
    have h0 : n = 0 := by
      rcases Nat.eq_zero_or_pos n with h | h
      · exact h
      · rw [hi_pos h] at hd; simp at hd
    subst h0
    simp only [num_Size.l0]
    rw [if_neg (by omega)]
    simp
  | succ d ih =>
    intro k n c hd hk h0 h1
    obtain ⟨k, rfl⟩ : ∃ m, k = m + 1 := ⟨k - 1, by omega⟩
    rcases Nat.eq_zero_or_pos n with h | h
    · subst h; rw [hi_zero] at hd; simp at hd
    · rw [hi_pos h] at hd
      simp only [List.length_append, List.length_singleton] at hd
      simp only [num_Size.l0]
      rw [if_pos (by omega), show ((n : Int) / 128) = ((n / 128 : Nat) : Int) by omega]
      rw [wrap_in _ (by omega) (by omega), ih k _ _ (by omega) (by omega) (by omega) (by omega)]
      congr 1
      omega
theorem size_f {k n : Nat} (hn : n < 18446744073709551616) (hk : 12 ≤ k) : num_Size.f k n = some ((enc n).length : Int) := by
  have h := hi_ten hn
  unfold num_Size.f
  rw [show ((n : Int) / 128) = ((n / 128 : Nat) : Int) by omega, size_l0 _ k _ 1 rfl (by omega) (by omega) (by omega), enc_length]
  congr 1
  omega
theorem shr128 (n e : Nat) (he : e ≤ 9) : shr .u64 (n : Int) (7 * (e : Int)) = ((n / 128 ^ e : Nat) : Int) := by
  have h1 : (7 * (e : Int)).toNat = 7 * e := by omega
  have h2 : min (7 * e) IntKind.u64.bits = 7 * e := Nat.min_eq_left (by simp only [IntKind.bits]; omega)
  have h3 : (128 : Nat) ^ e = 2 ^ (7 * e) := by rw [Nat.pow_mul]
  have h4 : shr .u64 (n : Int) (7 * (e : Int)) = (n : Int) / 2 ^ min (7 * (e : Int)).toNat IntKind.u64.bits := by with_unfolding_all rfl
  rw [h4, h1, h2, h3, Int.natCast_ediv, Int.natCast_pow]
  rfl
theorem put_l0 (n m : Nat) (e : List Int) (hm : m ≤ 9) (h1 : ∀ j, j < m → e.drop j = (((n / 128 ^ (m - j) % 128 : Nat) : Int) + 128) :: e.drop (j + 1)) (h2 : e.drop m = [((n % 128 : Nat) : Int)])
    (h3 : e.drop (m + 1) = []) (d : Nat) : ∀ (k j : Nat) (acc : List Int), j + d = m + 1 → d < k → acc.length + d ≤ capN →
    num_put.l0 k acc n ((m + 1 : Nat) : Int) ((m + 1 : Nat) : Int) j = some (acc ++ e.drop j) := by
  induction d with
  | zero =>
    intro k j acc hj hk _
    obtain ⟨k, rfl⟩ : ∃ m, k = m + 1 := ⟨k - 1, by omega⟩
    simp only [num_put.l0]
    rw [if_neg (by omega), show j = m + 1 by omega, h3, List.append_nil]
  | succ d ih =>
    intro k j acc hj hk ha
    obtain ⟨k, rfl⟩ : ∃ m, k = m + 1 := ⟨k - 1, by omega⟩
    have hd9 : d ≤ 9 := by omega
    have hc : acc.length < 140737488355328 := cap_lt (Nat.le_trans (Nat.le_add_right _ _) ha)
    have hi0 : ∀ x : Int, (acc ++ [x]).length + d ≤ capN := fun x => by rw [List.length_append, List.length_singleton]; omega
    clear ha
    have e1 : wrap64 (((m + 1 : Nat) : Int) - 1) = (m : Int) := by rw [wrap_in _ (by omega) (by omega)]; omega
    have e2 : wrap64 ((m : Int) - (j : Int)) = (d : Int) := by rw [wrap_in _ (by omega) (by omega)]; omega
    have e3 : wrap64 (7 * (d : Int)) = 7 * (d : Int) := wrap_in _ (by omega) (by omega)
    have e4 : wrap64 ((j : Int) + 1) = ((j + 1 : Nat) : Int) := by rw [wrap_in _ (by omega) (by omega)]; omega
    have e5 : bits .and .u8 (((n / 128 ^ d : Nat) : Int) % 256) 127 = ((n / 128 ^ d % 128 : Nat) : Int) := by
      generalize n / 128 ^ d = q
      rw [u8_and127 _ (by omega) (by omega)]; omega
    have e6 : bits .or .u8 ((n / 128 ^ d % 128 : Nat) : Int) 128 = ((n / 128 ^ d % 128 : Nat) : Int) + 128 := by
      generalize n / 128 ^ d = q
      rw [u8_or_128 _ (by omega) (by omega)]
    have hlt : (j : Int) < ((m + 1 : Nat) : Int) := by omega
    simp only [num_put.l0]
    rw [if_pos hlt, e1, e2, e3, if_pos (by omega), shr128 n d hd9, e4, e5, e6, if_pos hc, if_pos hc]
    by_cases hd : d = 0
    · subst hd
      obtain rfl : j = m := by omega
      rw [if_neg (Int.lt_irrefl _), ih k (j + 1) _ (by omega) (by omega) (hi0 _), List.append_assoc, h3, h2]
      simp
    · have hjm : j < m := by omega
      rw [if_pos (by omega), ih k (j + 1) _ (by omega) (by omega) (hi0 _), List.append_assoc, h1 j hjm, show m - j = d by omega]
      rfl
theorem put_f {k n : Nat} (l : List Int) (hn : n < 18446744073709551616) (hk : 12 ≤ k) (hl : l.length + 10 ≤ capN) : num_put.f k l n = some (l ++ enc n) := by
  have h10 := hi_ten hn
  unfold num_put.f
  rw [size_f hn hk, enc_length]
  simp only [Option.bind_some]
  have h := put_l0 n (hi (n / 128)).length (enc n) h10 (fun j hj => enc_drop hj) (enc_last n) (List.drop_of_length_le (by rw [enc_length]; exact Nat.le_refl _)) _ k 0 l (Nat.zero_add _) (by omega) (by omega)
  exact h
theorem fresh_f (l : List Int) (hl : l.length + 10 ≤ capN) : num_fresh.f l = some l := by
  unfold num_fresh.f
  simp only [Option.bind_some]
  rw [if_pos (cap_lt (by simp; omega))]
  rfl
theorem Put_f {k n : Nat} (l : List Int) (hn : n < 18446744073709551616) (hk : 12 ≤ k) (hl : l.length + 10 ≤ capN) : num_Put.f k l n = some (l ++ enc n) := by
  unfold num_Put.f
  rw [fresh_f l hl]
  simp only [Option.bind_some]
  rw [put_f l hn hk hl]
  rfl
theorem Bytes_l0 (n : Nat) : ∀ (k : Nat) (acc : List Int), (hi n).length < k → n < 18446744073709551616 → acc.length + (hi n).length ≤ capN → runnelref01_Bytes.l0 k n acc = some (hi n ++ acc) := by
  induction n using Nat.strongRecOn with
  | ind n ih =>
    intro k acc hk hn ha
    obtain ⟨k, rfl⟩ : ∃ m, k = m + 1 := ⟨k - 1, by omega⟩
    simp only [runnelref01_Bytes.l0]
    rcases Nat.eq_zero_or_pos n with h | h
    · subst h
      rw [if_neg (by omega), hi_zero]
      rfl
    · rw [if_pos (by omega)]
      simp only [Option.bind_some]
      rw [hi_pos h] at hk ha
      simp only [List.length_append, List.length_singleton] at hk ha
      rw [if_pos (cap_lt (by simp; omega))]
      have e1 : IntKind.u64.wrap (Int.tmod (n : Int) 128 + 128) = ((n % 128 : Nat) : Int) + 128 := by
        rw [Int.tmod_eq_emod_of_nonneg (by omega), u64_in _ (by omega) (by omega)]; omega
      have e2 : IntKind.u64.wrap (Int.tdiv (n : Int) 128) = ((n / 128 : Nat) : Int) := by
        rw [Int.tdiv_eq_ediv_of_nonneg (by omega), u64_in _ (by omega) (by omega)]; omega
      rw [e1, e2, ih (n / 128) (by omega) k _ (by omega) (by omega) (by simp; omega)]
      rw [hi_pos h, show (((n % 128 : Nat) : Int) + 128) % 256 = ((n % 128 : Nat) : Int) + 128 by omega]
      simp
theorem Bytes_f {k n : Nat} (hn : n < 18446744073709551616) (hk : 12 ≤ k) : runnelref01_Bytes.f k n = some (enc n) := by
  have h := hi_ten hn
  have hc := cap_ge
  unfold runnelref01_Bytes.f
  have e1 : Int.tmod (n : Int) 128 % 256 = ((n % 128 : Nat) : Int) := by rw [Int.tmod_eq_emod_of_nonneg (by omega)]; omega
  have e2 : IntKind.u64.wrap (Int.tdiv (n : Int) 128) = ((n / 128 : Nat) : Int) := by rw [Int.tdiv_eq_ediv_of_nonneg (by omega), u64_in _ (by omega) (by omega)]; omega
  rw [e1, e2, Bytes_l0 _ k _ (by omega) (by omega) (by simp; omega), enc]
theorem Get_l0 (l : List Int) (hl : ∀ x ∈ l, 0 ≤ x ∧ x < 256) (at0 : Int) (d : Nat) : ∀ (k i : Nat) (n : Int), 2 * d < k → (l.length : Int) < i + d → i ≤ l.length → l.length + 10 ≤ capN → 0 ≤ n → n < 18446744073709551616 →
    num_Get.l0 k l at0 n i = some (Get l i n at0 d) := by
  induction d with
  | zero => intro k i n hk hd hi _ _ _; omega
  | succ d ih =>
    intro k i n hk hd hi hc hn0 hn1
    obtain ⟨k, rfl⟩ : ∃ m, k = m + 1 := ⟨k - 1, by omega⟩
    obtain ⟨k, rfl⟩ : ∃ m, k = m + 1 := ⟨k - 1, by omega⟩
    simp only [num_Get.l0, num_Get.j2, Get]
    by_cases h : (i : Int) < (l.length : Int)
    · rw [if_pos h, if_pos h]
      have h0 : (0 : Int) ≤ (i : Int) := by omega
      have hb := hl (l.getD i 0) (by rw [List.getD_eq_getElem?_getD, List.getElem?_eq_getElem (by omega)]; exact List.getElem_mem _)
      have hcap : (i : Int) + 1 ≤ 9223372036854775807 := by have := cap_lt (Nat.le_trans (Nat.le_add_right _ _) hc); omega
      have e0 : rd l (i : Int) = l.getD i 0 := rfl
      have e1 : (l.getD (i : Int).toNat 0) = l.getD i 0 := rfl
      have e2 : wrap64 ((i : Int) + 1) = ((i + 1 : Nat) : Int) := by rw [wrap_in _ (by omega) (by omega)]; omega
      have e3 : ((i : Int) + 1) = ((i + 1 : Nat) : Int) := by omega
      rw [e0, e1, if_pos h0, if_pos h0, if_pos h]
      generalize l.getD i 0 = b at hb ⊢
      have e4 : bits .and .u8 b 127 = b % 128 := u8_and127 b hb.1 hb.2
      by_cases g : 144115188075855872 ≤ n
      · have g1 : decide (n / 144115188075855872 > 0) = true := decide_eq_true (by omega)
        rw [g1, if_pos (Or.inr g)]
        simp only [if_true]
        split
        · split <;> rfl
        · rfl
      · have g1 : decide (n / 144115188075855872 > 0) = false := decide_eq_false (by omega)
        rw [g1]
        simp only [if_true, Bool.false_eq_true, if_false]
        have e5 : bits .or .u64 (IntKind.u64.wrap (n * 128)) (IntKind.u64.wrap (b % 128)) = n * 128 + b % 128 := u64_or_low n (b % 128) hn0 (by omega) (by omega) (by omega)
        rw [e4, e5, e2, e3]
        have rest : (if b < 128 then some (n * 128 + b % 128, ((i + 1 : Nat) : Int), (0 : Int)) else num_Get.l0 k l at0 (n * 128 + b % 128) ((i + 1 : Nat) : Int)) =
            some (if b < 128 then (n * 128 + b % 128, ((i + 1 : Nat) : Int), (0 : Int)) else Get l ((i + 1 : Nat) : Int) (n * 128 + b % 128) at0 d) := by
          by_cases hb1 : b < 128
          · rw [if_pos hb1, if_pos hb1]
          · rw [if_neg hb1, if_neg hb1, ih k (i + 1) _ (by omega) (by omega) (by omega) hc (by omega) (by omega)]
        by_cases ha : (i : Int) = at0
        · rw [if_pos ha]
          by_cases hb2 : b = 128
          · rw [if_pos hb2, if_pos (Or.inl ⟨ha, hb2⟩)]
          · rw [if_neg hb2, if_neg (show ¬ (((i : Int) = at0 ∧ b = 128) ∨ 144115188075855872 ≤ n) from fun o => o.elim (fun o => hb2 o.2) g)]
            exact rest
        · rw [if_neg ha, if_neg (show ¬ (((i : Int) = at0 ∧ b = 128) ∨ 144115188075855872 ≤ n) from fun o => o.elim (fun o => ha o.1) g)]
          exact rest
    · rw [if_neg h, if_neg h]
theorem get_f {k : Nat} (l : List Int) (hl : ∀ x ∈ l, 0 ≤ x ∧ x < 256) (at0 : Int) (hk : 2 * l.length + 8 ≤ k) (hc : l.length + 10 ≤ capN) : num_Get.f k l at0 = some (NumPure.get l at0) := by
  obtain ⟨k, rfl⟩ : ∃ m, k = m + 1 := ⟨k - 1, by omega⟩
  unfold num_Get.f NumPure.get
  simp only [num_Get.j0]
  by_cases h0 : at0 < 0
  · rw [if_pos h0, if_pos (Or.inl h0)]
    rfl
  · rw [if_neg h0]
    by_cases h1 : (l.length : Int) < at0
    · rw [decide_eq_true (show at0 > (l.length : Int) from h1), if_pos (Or.inr h1)]
      rfl
    · rw [decide_eq_false (show ¬ at0 > (l.length : Int) from h1), if_neg (show ¬ (false = true) by decide), if_neg (show ¬ (at0 < 0 ∨ (l.length : Int) < at0) from fun o => o.elim h0 h1)]
      obtain ⟨a, rfl⟩ := Int.eq_ofNat_of_zero_le (by omega : 0 ≤ at0)
      exact Get_l0 l hl _ _ k a 0 (by omega) (by omega) (by omega) hc (by omega) (by omega)
theorem live_40 : runnellaw01_live.f 40 = some true := by decide +kernel
theorem live_f {k : Nat} (hk : 40 ≤ k) : runnellaw01_live.f k = some true := at_rounds runnellaw01_live.mono hk live_40
theorem cut_mid (p f r : List Int) (j a : Int) (hj : j = ((p.length + f.length : Nat) : Int)) (ha : a = (p.length : Int)) : ((p ++ (f ++ r)).take j.toNat).drop a.toNat = f := by
  subst hj; subst ha
  rw [Int.toNat_natCast, Int.toNat_natCast, ← List.append_assoc, show p.length + f.length = (p ++ f).length by simp, List.take_left, List.drop_left]
theorem getD_mid (p f r : List Int) (b : Int) : (p ++ (f ++ b :: r)).getD ((p.length + f.length : Nat) : Int).toNat 0 = b := by
  rw [Int.toNat_natCast, List.getD_eq_getElem?_getD, List.getElem?_append_right (by omega), List.getElem?_append_right (by omega)]
  simp
/-- What a number's reading tells: a fault, or the number whose bytes these are. -/
theorem Get_ok (p r : List Int) : ∀ (f : List Int) (d : Nat), r.length < d → (∀ x ∈ f, 128 ≤ x ∧ x < 256) → (∀ x t, f = x :: t → x ≠ 128) → (∀ x ∈ r, 0 ≤ x ∧ x < 256) →
    Get (p ++ (f ++ r)) ((p.length + f.length : Nat) : Int) (valF 0 f) (p.length : Int) d = (0, 0, 6) ∨
    ∃ (m : Nat) (t : List Int) (r' : List Int), m < 18446744073709551616 ∧ f ++ r = enc m ++ r' ∧ Get (p ++ (f ++ r)) ((p.length + f.length : Nat) : Int) (valF 0 f) (p.length : Int) d = ((m : Int), ((p.length + (enc m).length : Nat) : Int), 0) := by
  induction r with
  | nil =>
    intro f d hd hf hh _
    obtain ⟨d, rfl⟩ : ∃ m, d = m + 1 := ⟨d - 1, by omega⟩
    left
    rw [Get, if_neg (by simp)]
  | cons b r ih =>
    intro f d hd hf hh hr
    obtain ⟨d, rfl⟩ : ∃ m, d = m + 1 := ⟨d - 1, by omega⟩
    have hb := hr b (by simp)
    rw [Get, if_pos (by simp; omega), getD_mid]
    have hv0 := valF_nonneg 0 (Int.le_refl 0) f
    by_cases hbad : (((p.length + f.length : Nat) : Int) = (p.length : Int) ∧ b = 128) ∨ 144115188075855872 ≤ valF 0 f
    · rw [if_pos hbad]; exact .inl rfl
    · rw [if_neg hbad]
      have h57 : valF 0 f < 144115188075855872 := by
        rcases Int.lt_or_le (valF 0 f) 144115188075855872 with h | h
        · exact h
        · exact absurd (Or.inr h) hbad
      by_cases h : b < 128
      · rw [if_pos h]
        right
        have hce := canon_enc f hf hh b hb.1 h
        rw [valF_snoc] at hce
        refine ⟨(valF 0 f * 128 + b % 128).toNat, [], r, by omega, by rw [hce]; simp, ?_⟩
        rw [hce]
        simp only [List.length_append, List.length_singleton, Prod.mk.injEq, and_true]
        exact ⟨by omega, by omega⟩
      · rw [if_neg h, show valF 0 f * 128 + b % 128 = valF 0 (f ++ [b]) from (valF_snoc _ _ _).symm]
        have h1 := ih (f ++ [b]) d (by simp at hd; omega) (fun x hx => by
          rcases List.mem_append.1 hx with hx | hx
          · exact hf x hx
          · rw [List.mem_singleton] at hx; omega) (fun x t e => by
          rcases f with _ | ⟨y, s⟩
          · simp only [List.nil_append, List.cons.injEq] at e
            rw [← e.1]
            intro hb2
            exact hbad (.inl ⟨by simp, hb2⟩)
          · simp only [List.cons_append, List.cons.injEq] at e
            rw [← e.1]
            exact hh y s rfl) (fun x hx => hr x (by simp [hx]))
        rw [show (p ++ ((f ++ [b]) ++ r)) = p ++ (f ++ b :: r) by simp, show ((p.length + (f ++ [b]).length : Nat) : Int) = ((p.length + f.length : Nat) : Int) + 1 by simp; omega] at h1
        rcases h1 with h1 | ⟨m, t, r', h2, h3, h4⟩
        · exact .inl h1
        · exact .inr ⟨m, t, r', h2, by rw [← h3]; simp, h4⟩
/-- P1.4: whatever is got: a fault tells noughts; else these bytes are the number's own. -/
theorem get_ok (l : List Int) (hl : ∀ x ∈ l, 0 ≤ x ∧ x < 256) (at0 : Int) : (NumPure.get l at0 = (0, 0, 9) ∧ (at0 < 0 ∨ (l.length : Int) < at0)) ∨ (NumPure.get l at0 = (0, 0, 6) ∧ 0 ≤ at0 ∧ at0 ≤ l.length) ∨
    ∃ (m : Nat) (p r : List Int), m < 18446744073709551616 ∧ l = p ++ (enc m ++ r) ∧ at0 = p.length ∧ NumPure.get l at0 = ((m : Int), ((p.length + (enc m).length : Nat) : Int), 0) := by
  unfold NumPure.get
  by_cases h : at0 < 0 ∨ (l.length : Int) < at0
  · rw [if_pos h]; exact .inl ⟨rfl, h⟩
  · rw [if_neg h]
    have h0 : 0 ≤ at0 := by omega
    obtain ⟨a, rfl⟩ := Int.eq_ofNat_of_zero_le h0
    have hp : (l.take a).length = a := by rw [List.length_take]; omega
    have e : l.take a ++ ([] ++ l.drop a) = l := by simp
    have h2 := Get_ok (l.take a) (l.drop a) [] (l.length + 1 - a) (by rw [List.length_drop]; omega) (by simp) (by simp) (fun x hx => hl x (List.mem_of_mem_drop hx))
    rw [e, hp] at h2
    rcases h2 with h2 | ⟨m, t, r', h3, h4, h5⟩
    · exact .inr (.inl ⟨h2, h0, by omega⟩)
    · refine .inr (.inr ⟨m, l.take a, r', h3, ?_, by rw [hp], ?_⟩)
      · rw [← h4, e]
      · rw [hp]; exact h5
theorem Get_flags (p r : List Int) (b : Int) (hb0 : 0 ≤ b) (hb : b < 128) (g : List Int) : ∀ (f : List Int) (d : Nat), g.length < d → (∀ x ∈ f ++ g, 128 ≤ x ∧ x < 256) → (∀ x t, f ++ g = x :: t → x ≠ 128) → valF 0 (f ++ g) < 144115188075855872 →
    Get (p ++ (f ++ (g ++ b :: r))) ((p.length + f.length : Nat) : Int) (valF 0 f) (p.length : Int) d = (valF 0 (f ++ g ++ [b]), ((p.length + f.length + g.length + 1 : Nat) : Int), 0) := by
  induction g with
  | nil =>
    intro f d hd hf hh hv
    obtain ⟨d, rfl⟩ : ∃ m, d = m + 1 := ⟨d - 1, by omega⟩
    rw [List.nil_append, Get, if_pos (by simp; omega), getD_mid, if_neg, if_pos hb, valF_snoc, List.append_nil]
    · simp
    · rw [List.append_nil] at hv
      rintro (⟨_, h⟩ | h) <;> omega
  | cons x g ih =>
    intro f d hd hf hh hv
    obtain ⟨d, rfl⟩ : ∃ m, d = m + 1 := ⟨d - 1, by omega⟩
    have hx := hf x (by simp)
    have hle : valF 0 f ≤ valF 0 (f ++ x :: g) := by rw [valF_append]; exact valF_ge _ (valF_nonneg 0 (Int.le_refl 0) f) _
    rw [List.cons_append, Get, if_pos (by simp; omega), getD_mid, if_neg, if_neg (by omega), show valF 0 f * 128 + x % 128 = valF 0 (f ++ [x]) from (valF_snoc _ _ _).symm]
    · have h1 := ih (f ++ [x]) d (by simp at hd; omega) (by simpa using hf) (by simpa using hh) (by simpa using hv)
      rw [show (p ++ ((f ++ [x]) ++ (g ++ b :: r))) = p ++ (f ++ x :: (g ++ b :: r)) by simp, show ((p.length + (f ++ [x]).length : Nat) : Int) = ((p.length + f.length : Nat) : Int) + 1 by simp; omega] at h1
      rw [h1, show f ++ [x] ++ g ++ [b] = f ++ x :: g ++ [b] by simp, show ((p.length + (f ++ [x]).length + g.length + 1 : Nat) : Int) = ((p.length + f.length + (x :: g).length + 1 : Nat) : Int) by simp; omega]
    · rintro (⟨h1, h2⟩ | h)
      · have hf0 : f = [] := List.eq_nil_of_length_eq_zero (by omega)
        subst hf0
        exact hh x g rfl h2
      · omega
/-- P1.4: what is put is got, whatever stands ahead and behind. -/
theorem get_enc (p r : List Int) (n : Nat) (hn : n < 18446744073709551616) (at0 : Int) (ha : at0 = (p.length : Int)) : NumPure.get (p ++ (enc n ++ r)) at0 = ((n : Int), ((p.length + (enc n).length : Nat) : Int), 0) := by
  subst ha
  unfold NumPure.get
  rw [if_neg (by simp; omega)]
  have h1 := Get_flags p r ((n % 128 : Nat) : Int) (by omega) (by omega) (hi (n / 128)) [] ((p ++ (enc n ++ r)).length + 1 - (p.length : Int).toNat) (by rw [List.length_append, List.length_append, enc_length]; omega) (by simpa using hi_flag _) (by simpa using hi_head _) (by rw [List.nil_append, val_hi]; omega)
  have e : enc n = hi (n / 128) ++ [((n % 128 : Nat) : Int)] := rfl
  have e2 : valF 0 ([] ++ hi (n / 128) ++ [((n % 128 : Nat) : Int)]) = (n : Int) := by rw [List.nil_append, ← e, val_enc]
  rw [e2, show p ++ ([] ++ (hi (n / 128) ++ ((n % 128 : Nat) : Int) :: r)) = p ++ (enc n ++ r) by rw [e]; simp] at h1
  rw [enc_length]
  exact h1
theorem bytesOf_byte (s : ByteArray) : ∀ x ∈ bytesOf s, 0 ≤ x ∧ x < 256 := by
  intro x hx
  unfold bytesOf at hx
  obtain ⟨u, _, rfl⟩ := List.mem_map.1 hx
  have := u.toNat_lt
  omega
theorem str_bytesOf (s : ByteArray) : str (bytesOf s) = s.toList := by
  have e : ∀ l : List UInt8, str (l.map fun b => (b.toNat : Int)) = l := by
    intro l
    have e0 : ∀ m : List Int, str m = m.map fun n => UInt8.ofNat n.toNat := fun m => by with_unfolding_all rfl
    rw [e0]
    induction l with
    | nil => rfl
    | cons u l ih => rw [List.map_cons, List.map_cons, ih, Int.toNat_natCast, UInt8.ofNat_toNat]
  unfold bytesOf
  rw [e, toList_eq]
/-- P1.3: a text's bytes. -/
def txt (s : ByteArray) : List Int := enc s.size ++ bytesOf s
theorem PutText_f {k : Nat} (l : List Int) (s : ByteArray) (hk : 12 ≤ k) (hl : l.length + 10 + s.size ≤ capN) : num_PutText.f k l s = some (l ++ txt s) := by
  have h1 := cap_lt hl
  have hn : s.size < 18446744073709551616 := by omega
  have h10 := enc_ten hn
  unfold num_PutText.f
  rw [fresh_f l (by omega)]
  simp only [Option.bind_some]
  rw [u64_in _ (by omega) (by omega), put_f l hn hk (by omega)]
  simp only [Option.bind_some]
  rw [if_pos (by rw [List.length_append]; generalize (enc s.size).length = E at h10 ⊢; omega), txt, List.append_assoc]
theorem GetText_f {k : Nat} (l : List Int) (hl : ∀ x ∈ l, 0 ≤ x ∧ x < 256) (at0 most : Int) (hk : 2 * l.length + 8 ≤ k) (hc : l.length + 10 ≤ capN) (hm : most ≤ 9223372036854775807) :
    num_GetText.f k l at0 most = some (if most < 0 then ((⟨#[]⟩ : ByteArray), 0, 1) else if (NumPure.get l at0).2.2 = 0 then
      (if most < (NumPure.get l at0).1 then ((⟨#[]⟩ : ByteArray), 0, 2) else if (l.length : Int) - (NumPure.get l at0).2.1 < (NumPure.get l at0).1 then ((⟨#[]⟩ : ByteArray), 0, 6)
       else (strOfNums ((l.take ((NumPure.get l at0).2.1 + (NumPure.get l at0).1).toNat).drop (NumPure.get l at0).2.1.toNat), (NumPure.get l at0).2.1 + (NumPure.get l at0).1, 0))
      else ((⟨#[]⟩ : ByteArray), 0, (NumPure.get l at0).2.2)) := by
  have hcc := cap_lt (Nat.le_trans (Nat.le_add_right _ _) hc)
  unfold num_GetText.f
  by_cases h0 : most < 0
  · rw [if_pos h0, if_pos h0]
  · rw [if_neg h0, if_neg h0, get_f l hl at0 hk hc]
    simp only [Option.bind_some]
    have ho := get_ok l hl at0
    have hin : (NumPure.get l at0).2.2 = 0 → 0 ≤ (NumPure.get l at0).1 ∧ (NumPure.get l at0).1 < 18446744073709551616 ∧ 0 ≤ (NumPure.get l at0).2.1 ∧ (NumPure.get l at0).2.1 ≤ (l.length : Int) := by
      intro he
      rcases ho with ⟨ho, _⟩ | ⟨ho, _⟩ | ⟨m, p, r, h1, h2, h3, ho⟩
      · rw [ho] at he; cases he
      · rw [ho] at he; cases he
      · rw [ho, h2]
        simp only [List.length_append]
        generalize (enc m).length = E
        exact ⟨by omega, by omega, by omega, by omega⟩
    generalize NumPure.get l at0 = g at hin ⊢
    obtain ⟨n, b, e⟩ := g
    simp only at hin ⊢
    by_cases he : e = 0
    · obtain ⟨h1, h2, h3, h4⟩ := hin he
      rw [if_pos he, if_pos he, u64_in most (by omega) (by omega)]
      by_cases h5 : most < n
      · rw [if_pos (show n > most from h5), if_pos h5]
      · rw [if_neg (show ¬ n > most from h5), if_neg h5, wrap_in ((l.length : Int) - b) (by omega) (by omega), u64_in ((l.length : Int) - b) (by omega) (by omega)]
        by_cases h6 : (l.length : Int) - b < n
        · rw [if_pos (show n > (l.length : Int) - b from h6), if_pos h6]
        · rw [if_neg (show ¬ n > (l.length : Int) - b from h6), if_neg h6, wrap_in n (by omega) (by omega), wrap_in (b + n) (by omega) (by omega), if_pos h3, if_pos (by omega), if_pos (by omega)]
    · rw [if_neg he, if_neg he]
theorem RText_f {k : Nat} (s : ByteArray) (hk : 12 ≤ k) (hl : s.size + 10 ≤ capN) : runnelref01_Text.f k s = some (txt s) := by
  have h1 := cap_lt hl
  have hn : s.size < 18446744073709551616 := by omega
  have h10 := enc_ten hn
  unfold runnelref01_Text.f
  rw [u64_in _ (by omega) (by omega), Bytes_f hn hk]
  simp only [Option.bind_some]
  rw [if_pos (by generalize (enc s.size).length = E at h10 ⊢; omega), txt]
end Go.Proofs.Ytocgcnmlgkhgpaa.BNumTexts
