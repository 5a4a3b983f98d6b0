/- The order of values and rows: the plain mathematics, no program in sight. -/
import Derived.WalkKit
import Derived.Test.YtednmkmhileikaaStr
namespace Go.Proofs.Ytednmkmhileikaa.RowPure
set_option linter.unusedVariables false
/-- What an order is: it tells -1, 0, 1; it turns round; it goes on over three. -/
structure Ok {α : Type} (c : α → α → Int) : Prop where
  rng : ∀ a b, c a b = -1 ∨ c a b = 0 ∨ c a b = 1
  anti : ∀ a b, c b a = -c a b
  trans : ∀ a b d, c a b ≤ 0 → c b d ≤ 0 → c a d ≤ 0
namespace Ok
variable {α : Type} {c : α → α → Int} (h : Ok c)
include h
theorem refl (a : α) : c a a = 0 := by have := h.anti a a; omega
theorem zero_left {a b : α} (e : c a b = 0) (d : α) : c a d = c b d := by
  have h1 := h.anti a b
  have h2 := h.trans a b d (by omega)
  have h3 := h.trans b a d (by omega)
  have h4 := h.trans d a b
  have h5 := h.trans d b a
  have h6 := h.anti a d
  have h7 := h.anti b d
  have h8 := h.rng a d
  have h9 := h.rng b d
  omega
theorem zero_right {a b : α} (e : c a b = 0) (d : α) : c d a = c d b := by
  have h1 := h.zero_left e d
  have h2 := h.anti a d
  have h3 := h.anti b d
  omega
theorem lt_trans {a b d : α} (h1 : c a b < 0) (h2 : c b d ≤ 0) : c a d < 0 := by
  have h3 := h.trans a b d (by omega) h2
  have h4 := h.rng a d
  rcases Int.lt_or_le (c a d) 0 with h5 | h5
  · exact h5
  · have h6 : c a d = 0 := by omega
    have h7 := h.zero_left h6 b
    have h8 := h.anti b d
    omega
end Ok
/-- One value behind the other. -/
def lex {α : Type} (c : α → α → Int) : List α → List α → Int
  | [], [] => 0
  | [], _ :: _ => -1
  | _ :: _, [] => 1
  | a :: l, b :: m => if c a b = 0 then lex c l m else c a b
theorem lex_ok {α : Type} {c : α → α → Int} (h : Ok c) : Ok (lex c) where
  rng := by
    intro a
    induction a with
    | nil => intro b; cases b <;> simp [lex]
    | cons x a ih =>
      intro b
      cases b with
      | nil => simp [lex]
      | cons y b =>
        rw [lex]
        have := h.rng x y
        have := ih b
        split <;> omega
  anti := by
    intro a
    induction a with
    | nil => intro b; cases b <;> simp [lex]
    | cons x a ih =>
      intro b
      cases b with
      | nil => simp [lex]
      | cons y b =>
        rw [lex, lex]
        have := h.anti x y
        have := ih b
        split <;> split <;> omega
  trans := by
    intro a
    induction a with
    | nil => intro b d h1 h2; cases d <;> simp [lex]
    | cons x a ih =>
      intro b d h1 h2
      cases b with
      | nil => simp [lex] at h1
      | cons y b =>
        cases d with
        | nil => simp [lex] at h2
        | cons z d =>
          rw [lex] at h1 h2 ⊢
          have t1 := h.trans x y z
          have t2 := h.rng x y
          have t3 := h.rng y z
          have t4 := h.rng x z
          by_cases e1 : c x y = 0
          · rw [if_pos e1] at h1
            have e3 := h.zero_left e1 z
            by_cases e2 : c y z = 0
            · rw [if_pos e2] at h2
              rw [if_pos (by omega)]
              exact ih b d h1 h2
            · rw [if_neg e2] at h2
              rw [if_neg (by omega)]
              omega
          · rw [if_neg e1] at h1
            by_cases e2 : c y z = 0
            · have e3 := h.zero_right e2 x
              rw [if_neg (by omega)]
              omega
            · rw [if_neg e2] at h2
              have e3 := h.lt_trans (a := x) (b := y) (d := z) (by omega) h2
              rw [if_neg (by omega)]
              omega
/-- The order of numbers. -/
def cmpI (a b : Int) : Int := if a < b then -1 else if b < a then 1 else 0
theorem cmpI_ok : Ok cmpI where
  rng := by intro a b; unfold cmpI; split <;> (try split) <;> omega
  anti := by intro a b; unfold cmpI; split <;> split <;> (try split) <;> omega
  trans := by intro a b d; unfold cmpI; intro h1 h2; split <;> (try split) <;> (try omega) <;> (split at h1 <;> split at h2 <;> (try split at h1) <;> (try split at h2) <;> omega)
/-- The order of texts. -/
def cmpB (a b : UInt8) : Int := cmpI a.toNat b.toNat
theorem cmpB_ok : Ok cmpB where
  rng a b := cmpI_ok.rng _ _
  anti a b := cmpI_ok.anti _ _
  trans a b d := cmpI_ok.trans _ _ _
def cmpS : List UInt8 → List UInt8 → Int := lex cmpB
theorem cmpS_ok : Ok cmpS := lex_ok cmpB_ok
theorem cmpB_zero {a b : UInt8} : cmpB a b = 0 ↔ a = b := by
  unfold cmpB cmpI
  constructor
  · intro h
    apply UInt8.toNat_inj.1
    split at h
    · omega
    · split at h <;> omega
  · intro h; subst h; simp
theorem less_lex : ∀ a b : List UInt8, Op.bytesLess a b = decide (cmpS a b = -1)
  | [], [] => rfl
  | [], _ :: _ => rfl
  | _ :: _, [] => rfl
  | x :: a, y :: b => by
    have ih := less_lex a b
    unfold cmpS at ih ⊢
    rw [Op.bytesLess, lex]
    by_cases h : x = y
    · subst h
      rw [if_pos (cmpB_zero.2 rfl), show decide (x < x) = false by simp, show (x == x) = true by simp, ih]; rfl
    · rw [if_neg (fun e => h (cmpB_zero.1 e)), show (x == y) = false from beq_eq_false_iff_ne.mpr h]
      unfold cmpB cmpI
      have hne : x.toNat ≠ y.toNat := fun e => h (UInt8.toNat_inj.1 e)
      by_cases hlt : x < y
      · have h2 := UInt8.lt_iff_toNat_lt.1 hlt
        rw [decide_eq_true hlt, if_pos (by omega)]; rfl
      · have h2 : ¬ x.toNat < y.toNat := fun e => hlt (UInt8.lt_iff_toNat_lt.2 e)
        rw [decide_eq_false hlt, if_neg (by omega), if_pos (by omega)]; rfl
theorem cmpS_eq (a b : List UInt8) : cmpS a b = if Op.bytesLess a b = true then -1 else if Op.bytesLess b a = true then 1 else 0 := by
  have h1 := less_lex a b
  have h2 := less_lex b a
  have h3 := cmpS_ok.rng a b
  have h4 := cmpS_ok.anti a b
  rw [h1, h2]
  by_cases e1 : cmpS a b = -1
  · simp [e1]
  · by_cases e2 : cmpS b a = -1
    · simp [e1, e2]; omega
    · simp [e1, e2]; omega
/-- A value. -/
structure V where
  kind : Int
  int : Int
  str : List UInt8
/-- P3.1: the order of two values. -/
def vcmp (a b : V) : Int := if a.kind = b.kind then (if a.kind = 0 then cmpI a.int b.int else if a.kind = 1 then cmpS a.str b.str else 0) else cmpI a.kind b.kind
theorem cmpI_zero {a b : Int} : cmpI a b = 0 ↔ a = b := by
  unfold cmpI
  constructor
  · intro h
    split at h
    · omega
    · split at h <;> omega
  · intro h
    subst h
    rw [if_neg (Int.lt_irrefl _), if_neg (Int.lt_irrefl _)]
theorem vcmp_ok : Ok vcmp where
  rng := by
    intro a b; unfold vcmp
    have h1 := cmpI_ok.rng a.int b.int
    have h2 := cmpS_ok.rng a.str b.str
    have h3 := cmpI_ok.rng a.kind b.kind
    split
    · split
      · exact h1
      · split
        · exact h2
        · exact .inr (.inl rfl)
    · exact h3
  anti := by
    intro a b; unfold vcmp
    have h1 := cmpI_ok.anti a.int b.int
    have h2 := cmpS_ok.anti a.str b.str
    have h3 := cmpI_ok.anti a.kind b.kind
    by_cases e : a.kind = b.kind
    · rw [if_pos e, if_pos e.symm, ← e]
      split
      · exact h1
      · split
        · exact h2
        · rfl
    · rw [if_neg e, if_neg (fun e' => e e'.symm)]
      exact h3
  trans := by
    intro a b d; unfold vcmp
    intro h1 h2
    by_cases e1 : a.kind = b.kind
    · rw [if_pos e1] at h1
      by_cases e2 : b.kind = d.kind
      · rw [if_pos e2] at h2
        rw [if_pos (e1.trans e2)]
        rw [← e1] at h2
        by_cases k0 : a.kind = 0
        · rw [if_pos k0] at h1 h2 ⊢; exact cmpI_ok.trans _ _ _ h1 h2
        · rw [if_neg k0] at h1 h2 ⊢
          by_cases k1 : a.kind = 1
          · rw [if_pos k1] at h1 h2 ⊢; exact cmpS_ok.trans _ _ _ h1 h2
          · rw [if_neg k1]; exact Int.le_refl _
      · rw [if_neg e2] at h2
        rw [if_neg (by rw [e1]; exact e2), e1]; exact h2
    · rw [if_neg e1] at h1
      by_cases e2 : b.kind = d.kind
      · rw [if_neg (by rw [← e2]; exact e1), ← e2]; exact h1
      · rw [if_neg e2] at h2
        have h3 := cmpI_ok.trans _ _ _ h1 h2
        by_cases e3 : a.kind = d.kind
        · exfalso
          rw [e3] at h1
          have h4 := cmpI_ok.anti b.kind d.kind
          have h5 : cmpI b.kind d.kind = 0 := by omega
          exact e2 (cmpI_zero.1 h5)
        · rw [if_neg e3]; exact h3
/-- P3.1: the order of two rows. -/
def ord : List V → List V → Int := lex vcmp
theorem ord_ok : Ok ord := lex_ok vcmp_ok
end Go.Proofs.Ytednmkmhileikaa.RowPure
