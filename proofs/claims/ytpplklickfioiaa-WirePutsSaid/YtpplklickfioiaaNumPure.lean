/- Numbers told in groups of seven bits: the plain mathematics, no program in sight. -/
import Derived.Laws.BitsLemmas
import Derived.Laws.BitsAllLaws
import Derived.Laws.BytesArg
import Derived.IntWalk
import Derived.WalkKit
namespace Go.Proofs.Ytpplklickfioiaa.NumPure
open Go.RowKit

theorem snoc_ind {α : Type} {p : List α → Prop} (nil : p []) (append_singleton : ∀ l x, p l → p (l ++ [x])) (l : List α) : p l := by
  have h : ∀ m : List α, p m.reverse := by
    intro m
    induction m with
    | nil => exact nil
    | cons x m ih => rw [List.reverse_cons]; exact append_singleton _ _ ih
  have := h l.reverse
  rwa [List.reverse_reverse] at this
/-- The groups of a number, each with 128 added. -/
def hi (n : Nat) : List Int := if _h : n = 0 then [] else hi (n / 128) ++ [((n % 128 : Nat) : Int) + 128]
termination_by n
decreasing_by omega
/-- A number's bytes. -/
def enc (n : Nat) : List Int := hi (n / 128) ++ [((n % 128 : Nat) : Int)]
theorem hi_zero : hi 0 = [] := by rw [hi]; rfl
theorem hi_pos {n : Nat} (h : 0 < n) : hi n = hi (n / 128) ++ [((n % 128 : Nat) : Int) + 128] := by rw [hi]; rw [dif_neg (by omega)]
theorem hi_snoc (n d : Nat) (hd : d < 128) (hp : 0 < n ∨ 0 < d) : hi (n * 128 + d) = hi n ++ [(d : Int) + 128] := by
  rw [hi_pos (by omega)]
  rw [show (n * 128 + d) / 128 = n by omega, show (n * 128 + d) % 128 = d by omega]
theorem hi_flag (n : Nat) : ∀ x ∈ hi n, 128 ≤ x ∧ x < 256 := by
  induction n using Nat.strongRecOn with
  | ind n ih =>
    intro x hx
    rcases Nat.eq_zero_or_pos n with h | h
    · subst h; rw [hi_zero] at hx; cases hx
    · rw [hi_pos h] at hx
      rcases List.mem_append.1 hx with hx | hx
      · exact ih _ (by omega) x hx
      · rw [List.mem_singleton] at hx; omega
theorem hi_head (n : Nat) : ∀ x t, hi n = x :: t → x ≠ 128 := by
  induction n using Nat.strongRecOn with
  | ind n ih =>
    intro x t hx
    rcases Nat.eq_zero_or_pos n with h | h
    · subst h; rw [hi_zero] at hx; cases hx
    · rw [hi_pos h] at hx
      rcases hl : hi (n / 128) with _ | ⟨y, s⟩
      · rw [hl] at hx
        simp only [List.nil_append, List.cons.injEq] at hx
        have h0 : n / 128 = 0 := by
          rcases Nat.eq_zero_or_pos (n / 128) with h0 | h0
          · exact h0
          · rw [hi_pos h0] at hl; simp at hl
        omega
      · rw [hl] at hx
        simp only [List.cons_append, List.cons.injEq] at hx
        rw [← hx.1]
        exact ih _ (by omega) y s hl
/-- What groups tell, behind a number. -/
def valF (a : Int) (l : List Int) : Int := l.foldl (fun a b => a * 128 + b % 128) a
theorem valF_snoc (a : Int) (l : List Int) (x : Int) : valF a (l ++ [x]) = valF a l * 128 + x % 128 := by simp [valF]
theorem valF_nonneg (a : Int) (h : 0 ≤ a) (l : List Int) : 0 ≤ valF a l := by
  induction l using snoc_ind with
  | nil => exact h
  | append_singleton l x ih => rw [valF_snoc]; omega
theorem valF_append (a : Int) (l m : List Int) : valF a (l ++ m) = valF (valF a l) m := by simp [valF]
theorem valF_ge (a : Int) (h : 0 ≤ a) (l : List Int) : a ≤ valF a l := by
  induction l using snoc_ind with
  | nil => exact Int.le_refl _
  | append_singleton l x ih => rw [valF_snoc]; omega
theorem val_hi (n : Nat) : valF 0 (hi n) = n := by
  induction n using Nat.strongRecOn with
  | ind n ih =>
    rcases Nat.eq_zero_or_pos n with h | h
    · subst h; rw [hi_zero]; rfl
    · rw [hi_pos h, valF_snoc, ih _ (by omega)]; omega
theorem val_enc (n : Nat) : valF 0 (enc n) = n := by rw [enc, valF_snoc, val_hi]; omega
/-- Flagged groups, the first of which is not nought, are those of what they tell. -/
theorem canon (f : List Int) (hf : ∀ x ∈ f, 128 ≤ x ∧ x < 256) (hh : ∀ x t, f = x :: t → x ≠ 128) : hi (valF 0 f).toNat = f ∧ (f ≠ [] → 0 < valF 0 f) := by
  induction f using snoc_ind with
  | nil => exact ⟨hi_zero, fun h => absurd rfl h⟩
  | append_singleton g x ih =>
    have hx := hf x (by simp)
    obtain ⟨ih1, ih2⟩ := ih (fun y hy => hf y (by simp [hy])) (fun y t e => hh y (t ++ [x]) (by rw [e]; rfl))
    have hn := valF_nonneg 0 (Int.le_refl 0) g
    rw [valF_snoc]
    have hp : 0 < valF 0 g ∨ 128 < x := by
      rcases hg : g with _ | ⟨y, s⟩
      · right
        have := hh x [] (by rw [hg]; rfl)
        omega
      · left
        rw [← hg]
        exact ih2 (by rw [hg]; simp)
    refine ⟨?_, fun _ => by omega⟩
    rw [show (valF 0 g * 128 + x % 128).toNat = (valF 0 g).toNat * 128 + (x - 128).toNat by omega]
    rw [hi_snoc _ _ (by omega) (by omega), ih1]
    rw [show (((x - 128).toNat : Nat) : Int) + 128 = x by omega]
theorem canon_enc (f : List Int) (hf : ∀ x ∈ f, 128 ≤ x ∧ x < 256) (hh : ∀ x t, f = x :: t → x ≠ 128) (b : Int) (h0 : 0 ≤ b) (h1 : b < 128) : enc (valF 0 (f ++ [b])).toNat = f ++ [b] := by
  have hn := valF_nonneg 0 (Int.le_refl 0) f
  rw [valF_snoc, enc]
  rw [show (valF 0 f * 128 + b % 128).toNat / 128 = (valF 0 f).toNat by omega, (canon f hf hh).1]
  rw [show (((valF 0 f * 128 + b % 128).toNat % 128 : Nat) : Int) = b by omega]
/-- As many groups, as great a number. -/
theorem val_low (f : List Int) (hf : ∀ x ∈ f, 128 ≤ x ∧ x < 256) (hh : ∀ x t, f = x :: t → x ≠ 128) (d : Nat) (h : d < f.length) : (128 : Int) ^ d ≤ valF 0 f := by
  induction f using snoc_ind generalizing d with
  | nil => exact absurd h (by simp)
  | append_singleton g x ih =>
    have hx := hf x (by simp)
    have hp := (canon (g ++ [x]) hf hh).2 (by simp)
    rw [valF_snoc] at hp ⊢
    cases d with
    | zero => simp only [Int.pow_zero]; omega
    | succ d =>
      have hg := ih (fun y hy => hf y (by simp [hy])) (fun y t e => hh y (t ++ [x]) (by rw [e]; rfl)) d (by simp at h; omega)
      rw [Int.pow_succ]
      omega
theorem hi_length {n d : Nat} (h : n < 128 ^ d) : (hi n).length ≤ d := by
  rcases Nat.lt_or_ge d (hi n).length with h1 | h1
  · have h2 := val_low (hi n) (hi_flag n) (hi_head n) d h1
    rw [val_hi] at h2
    have h3 : ((128 ^ d : Nat) : Int) ≤ n := by rw [Int.natCast_pow]; exact h2
    omega
  · exact h1
theorem hi_ten {n : Nat} (h : n < 18446744073709551616) : (hi (n / 128)).length ≤ 9 := hi_length (d := 9) (by omega)
theorem enc_length (n : Nat) : (enc n).length = (hi (n / 128)).length + 1 := by simp [enc]
theorem enc_ten {n : Nat} (h : n < 18446744073709551616) : (enc n).length ≤ 10 := by rw [enc_length]; have := hi_ten h; omega
theorem enc_byte (n : Nat) : ∀ x ∈ enc n, 0 ≤ x ∧ x < 256 := by
  intro x hx
  rcases List.mem_append.1 hx with hx | hx
  · have := hi_flag _ x hx; omega
  · rw [List.mem_singleton] at hx; omega
/-- The groups by their places. -/
theorem hi_at (n : Nat) : ∀ j, j < (hi n).length → (hi n)[j]? = some (((n / 128 ^ ((hi n).length - 1 - j) % 128 : Nat) : Int) + 128) := by
  induction n using Nat.strongRecOn with
  | ind n ih =>
    intro j hj
    rcases Nat.eq_zero_or_pos n with h | h
    · subst h; rw [hi_zero] at hj; exact absurd hj (by simp)
    · rw [hi_pos h] at hj ⊢
      rw [List.length_append, List.length_singleton] at hj ⊢
      rcases Nat.lt_or_ge j (hi (n / 128)).length with h1 | h1
      · rw [List.getElem?_append_left h1, ih _ (by omega) j h1]
        rw [Nat.div_div_eq_div_mul, show (hi (n / 128)).length + 1 - 1 - j = ((hi (n / 128)).length - 1 - j) + 1 by omega, Nat.pow_succ, Nat.mul_comm 128]
      · obtain rfl : j = (hi (n / 128)).length := by omega
        rw [List.getElem?_append_right (Nat.le_refl _)]
        simp
theorem enc_drop {n j : Nat} (h : j < (hi (n / 128)).length) : (enc n).drop j = (((n / 128 ^ ((hi (n / 128)).length - j) % 128 : Nat) : Int) + 128) :: (enc n).drop (j + 1) := by
  have h1 := hi_at (n / 128) j h
  have h2 : (enc n)[j]? = some (((n / 128 ^ ((hi (n / 128)).length - j) % 128 : Nat) : Int) + 128) := by
    rw [enc, List.getElem?_append_left h, h1, Nat.div_div_eq_div_mul, show (hi (n / 128)).length - j = ((hi (n / 128)).length - 1 - j) + 1 by omega, Nat.pow_succ, Nat.mul_comm 128]
  have h3 : j < (enc n).length := by rw [enc_length]; omega
  rw [List.drop_eq_getElem_cons h3]
  rw [List.getElem?_eq_getElem h3] at h2
  rw [Option.some.inj h2]
theorem enc_last (n : Nat) : (enc n).drop (hi (n / 128)).length = [((n % 128 : Nat) : Int)] := by rw [enc, List.drop_left]

/-! ### the machine's words -/
theorem u8_and127 (x : Int) (h₀ : 0 ≤ x) (h₁ : x < 256) : bits .and .u8 x 127 = x % 128 := bits_mask .u8 8 (by decide) wraps_u8 7 (by decide) x h₀ h₁
theorem u8_or_128 (x : Int) (h₀ : 0 ≤ x) (h₁ : x < 128) : bits .or .u8 x 128 = x + 128 := by
  rw [u8_or x 128 h₀ (by omega) (by omega) (by omega)]
  rw [show ((128 : Int).toNat) = 128 from rfl, Nat.or_comm, nat_join 7 128 x.toNat (by decide) (by omega)]
  omega
theorem u64_or_low (a b : Int) (h0 : 0 ≤ a) (h1 : a < 144115188075855872) (hb : 0 ≤ b) (hb1 : b < 128) : bits .or .u64 (IntKind.u64.wrap (a * 128)) (IntKind.u64.wrap b) = a * 128 + b := by
  have w1 : IntKind.u64.wrap (a * 128) = a * 128 := by simp [IntKind.wrap, IntKind.bits, IntKind.signed]; omega
  have w2 : IntKind.u64.wrap b = b := by simp [IntKind.wrap, IntKind.bits, IntKind.signed]; omega
  rw [w1, w2, u64_or _ _ (by omega) (by omega) (by omega) (by omega)]
  rw [nat_join 7 _ _ (by omega) (by omega)]
  omega
theorem u64_in (a : Int) (h0 : 0 ≤ a) (h1 : a < 18446744073709551616) : IntKind.u64.wrap a = a := by simp [IntKind.wrap, IntKind.bits, IntKind.signed]; omega
theorem u64_mod (a : Int) : IntKind.u64.wrap a = a % 18446744073709551616 := by simp [IntKind.wrap, IntKind.bits, IntKind.signed]
theorem wrap_in (n : Int) (h : -9223372036854775808 ≤ n) (h' : n ≤ 9223372036854775807) : wrap64 n = n := by unfold wrap64; omega
theorem wf_i64 {a : Int} (h : (Lit.int .i64 a).wf = true) : -9223372036854775808 ≤ a ∧ a ≤ 9223372036854775807 := by
  simp [Lit.wf, IntKind.min, IntKind.max, IntKind.bits, IntKind.signed] at h; omega
theorem wf_u8 {a : Int} (h : (Lit.int .u8 a).wf = true) : 0 ≤ a ∧ a < 256 := by
  simp [Lit.wf, IntKind.min, IntKind.max, IntKind.bits, IntKind.signed] at h; omega
theorem wf_bytes {l : List Int} (h : ∀ x ∈ l, (Lit.int .u8 x).wf = true) : ∀ x ∈ l, 0 ≤ x ∧ x < 256 := fun x hx => wf_u8 (h x hx)
/-- A length that an append still bears (kept behind a name: a great numeral is dear to omega). -/
def capN : Nat := 140737488300000
theorem cap_lt {n : Nat} (h : n ≤ capN) : n < 140737488355328 := Nat.lt_of_le_of_lt h (by decide)
theorem cap_ge : 1000000000 ≤ capN := by decide
attribute [irreducible] capN
/-- Texts of bytes. -/
def str (l : List Int) : List UInt8 := l.map fun n => UInt8.ofNat n.toNat
theorem toList_eq (b : ByteArray) : b.toList = b.data.toList := by
  have h : ∀ (b : ByteArray) (i : Nat) (r : List UInt8), ByteArray.toList.loop b i r = r.reverse ++ b.data.toList.drop i := by
    intro b i r
    induction hk : b.size - i generalizing i r with
    | zero =>
      unfold ByteArray.toList.loop
      rw [if_neg (by omega), List.drop_of_length_le (by rw [Array.length_toList]; exact Nat.sub_eq_zero_iff_le.1 hk)]; simp
    | succ k ih =>
      unfold ByteArray.toList.loop
      have hi : i < b.data.toList.length := by rw [Array.length_toList]; exact Nat.lt_of_sub_pos (by rw [show b.data.size - i = b.size - i from rfl]; omega)
      rw [if_pos (by omega), ih _ _ (by omega), List.drop_eq_getElem_cons hi]
      have hg : b.get! i = b.data.toList[i] := by
        show b.data[i]! = _
        rw [getElem!_pos b.data i (by simpa using hi)]
        rfl
      rw [hg]; simp
  rw [ByteArray.toList, h]; rfl
theorem str_of (l : List Int) : (strOfNums l).toList = str l := by rw [toList_eq, strOfNums_data]; rfl
theorem str_append (l m : List Int) : str (l ++ m) = str l ++ str m := by simp [str]
theorem toList_append (a b : ByteArray) : (a ++ b).toList = a.toList ++ b.toList := by
  rw [toList_eq, toList_eq, toList_eq]; simp
theorem str_inj {l m : List Int} (hl : ∀ x ∈ l, 0 ≤ x ∧ x < 256) (hm : ∀ x ∈ m, 0 ≤ x ∧ x < 256) (h : str l = str m) : l = m := by
  induction l generalizing m with
  | nil => cases m with | nil => rfl | cons y m => simp [str] at h
  | cons x l ih =>
    cases m with
    | nil => simp [str] at h
    | cons y m =>
      simp only [str, List.map_cons, List.cons.injEq] at h
      have hx := hl x (by simp)
      have hy := hm y (by simp)
      have h1 := congrArg UInt8.toNat h.1
      simp only [UInt8.toNat_ofNat'] at h1
      rw [ih (fun z hz => hl z (by simp [hz])) (fun z hz => hm z (by simp [hz])) h.2]
      rw [show x = y by omega]

/-! ### what is read -/
/-- The number that stands in bytes from a place on; the place behind; the error. -/
def Get (l : List Int) (i : Int) (n : Int) (at0 : Int) : Nat → Int × Int × Int
  | 0 => (0, 0, 6)
  | d + 1 =>
    if i < (l.length : Int) then
      if (i = at0 ∧ l.getD i.toNat 0 = 128) ∨ 144115188075855872 ≤ n then (0, 0, 6)
      else if l.getD i.toNat 0 < 128 then (n * 128 + l.getD i.toNat 0 % 128, i + 1, 0) else Get l (i + 1) (n * 128 + l.getD i.toNat 0 % 128) at0 d
    else (0, 0, 6)
/-- P1.1: Get. -/
def get (l : List Int) (at0 : Int) : Int × Int × Int := if at0 < 0 ∨ (l.length : Int) < at0 then (0, 0, 9) else Get l at0 0 at0 (l.length + 1 - at0.toNat)
end Go.Proofs.Ytpplklickfioiaa.NumPure
