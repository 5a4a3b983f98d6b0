/- How an argument that reads as data is told in the words of the walks: for numbers, bools, texts, slices and structs of these, to any depth. -/
import Derived.WalkKit
import Derived.ProofKit
import Derived.Test.YtednmkmhileikaaWWords
namespace Go.Proofs.Ytednmkmhileikaa.Opens
open Go.RowKit Go.Proofs.YtednmkmhileikaaW.PrintWords
set_option linter.unusedVariables false
variable {P : Program}
/-- What reads as a datum of type t is an element of kind d, of which wf holds. -/
def Tells (P : Program) (t : TypeId) {α : Type} (d : Kd α) (wf : α → Prop) : Prop :=
  ∀ {H : Type} (enc : TypeId × Value → H) (W : World) (base : Nat) (spare : Nat → Bool) (held : Bool) (fuel : Nat) (cs : List Value) (r : DataW H × List MemPlace),
    DataW.trod enc P W base spare held fuel t cs = some r → ∃ x : α, d.K W x cs ∧ wf x
theorem op_int {t : TypeId} {k : IntKind} (ht : P.underlying t = some (.int k)) : Tells P t (Kd.int k) (fun x => (Lit.int k x).wf = true) := by
  intro H enc W base spare held fuel cs r h
  cases fuel with
  | zero => simp [DataW.trod] at h
  | succ f =>
    unfold DataW.trod at h
    rw [ht] at h
    match cs, h with
    | [.int k' n], h =>
      simp only at h
      split at h
      · rename_i hk
        obtain ⟨rfl, hw⟩ := hk
        exact ⟨n, rfl, hw⟩
      · cases h
theorem op_bool {t : TypeId} (ht : P.underlying t = some .bool) : Tells P t Kd.bool (fun _ => True) := by
  intro H enc W base spare held fuel cs r h
  cases fuel with
  | zero => simp [DataW.trod] at h
  | succ f =>
    unfold DataW.trod at h
    rw [ht] at h
    match cs, h with
    | [.bool b], h => exact ⟨b, rfl, trivial⟩
theorem op_string {t : TypeId} (ht : P.underlying t = some .string) : Tells P t Kd.string (fun s => s.size ≤ maxLen) := by
  intro H enc W base spare held fuel cs r h
  cases fuel with
  | zero => simp [DataW.trod] at h
  | succ f =>
    unfold DataW.trod at h
    rw [ht] at h
    match cs, h with
    | [.string s], h =>
      simp only at h
      split at h
      · rename_i hs
        exact ⟨s, rfl, hs⟩
      · cases h
theorem mapM_at {α β : Type} {f : α → Option β} : ∀ {l : List α} {ys : List β}, l.mapM f = some ys → ys.length = l.length ∧ ∀ (i : Nat) (a : α), l[i]? = some a → ∃ y, f a = some y ∧ ys[i]? = some y
  | [], ys, h => by
    simp only [List.mapM_nil, Option.pure_def, Option.some.injEq] at h
    subst h
    exact ⟨rfl, fun i a h => by simp at h⟩
  | x :: l, ys, h => by
    simp only [List.mapM_cons, Option.bind_eq_bind, Option.bind_eq_some_iff, Option.pure_def, Option.some.injEq] at h
    obtain ⟨y, hy, zs, hz, rfl⟩ := h
    obtain ⟨h1, h2⟩ := mapM_at hz
    refine ⟨by simp [h1], fun i a hi => ?_⟩
    cases i with
    | zero => simp at hi; subst hi; exact ⟨y, hy, rfl⟩
    | succ i => simp at hi; obtain ⟨z, h3, h4⟩ := h2 i a hi; exact ⟨z, h3, by simpa using h4⟩
theorem cells_at {w : World} {base : Nat} {a : Addr} {n : Nat} {cs : List Value} (h : w.cells? base a n = some cs) : cs.length = n ∧ ∀ i u, cs[i]? = some u → w.cell? (a.add i) = some u := by
  unfold World.cells? at h
  split at h
  · obtain ⟨h1, h2⟩ := mapM_at h
    rw [List.length_range] at h1
    refine ⟨h1, fun i u hi => ?_⟩
    have hlt : i < n := by have := (List.getElem?_eq_some_iff.1 hi).1; omega
    obtain ⟨y, h3, h4⟩ := h2 i i (List.getElem?_range hlt)
    rw [hi] at h4
    rw [h3]; exact h4.symm
  · cases h
theorem choose_list {α : Type} (n : Nat) (p : Nat → α → Prop) (h : ∀ i, i < n → ∃ x, p i x) : ∃ l : List α, l.length = n ∧ ∀ i x, l[i]? = some x → p i x := by
  induction n with
  | zero => exact ⟨[], rfl, fun i x h => by simp at h⟩
  | succ n ih =>
    obtain ⟨l, hl, hp⟩ := ih (fun i hi => h i (by omega))
    obtain ⟨x, hx⟩ := h n (by omega)
    refine ⟨l ++ [x], by simp [hl], fun i y hy => ?_⟩
    rcases Nat.lt_or_ge i l.length with hlt | hge
    · rw [List.getElem?_append_left hlt] at hy; exact hp i y hy
    · rw [List.getElem?_append_right hge] at hy
      have : i = n := by
        have := (List.getElem?_eq_some_iff.1 hy).1
        simp at this; omega
      subst this
      simp [hl] at hy
      subst hy; exact hx
theorem op_slice {t e : TypeId} {α : Type} {d : Kd α} {wf : α → Prop} (ht : P.underlying t = some (.slice e)) (hs : P.cellsOf e = d.sz) (he : Tells P e d wf) :
    Tells P t (Kd.slice e d) (fun xs => xs.length ≤ maxLen ∧ ∀ x ∈ xs, wf x) := by
  intro H enc W base spare held fuel cs r h
  cases fuel with
  | zero => simp [DataW.trod] at h
  | succ f =>
    unfold DataW.trod at h
    rw [ht] at h
    match cs, h with
    | [.slice none 0 0], h =>
      exact ⟨[], ⟨none, 0, rfl, Nat.le_refl _, rfl, by simp, fun hp => absurd hp (Nat.lt_irrefl _)⟩, by simp, by simp⟩
    | [.slice (some a) len cap], h =>
      simp only at h
      split at h
      · rename_i hb
        obtain ⟨hb0, hlc, hcm⟩ := hb
        rw [Option.bind_eq_some_iff] at h
        obtain ⟨elems, hm, _⟩ := h
        obtain ⟨h1, h2⟩ := mapM_at hm
        have key : ∀ i, i < len → ∃ x, ∃ c : List Value, c.length = d.sz ∧ d.K W x c ∧ (∀ j u, c[j]? = some u → W.cell? (a.add (i * d.sz + j)) = some u) ∧ wf x := by
          intro i hi
          obtain ⟨y, h3, _⟩ := h2 i i (List.getElem?_range hi)
          rw [Option.bind_eq_some_iff] at h3
          obtain ⟨c, hc, hy⟩ := h3
          obtain ⟨hcl, hcc⟩ := cells_at hc
          obtain ⟨x, hK, hw⟩ := he enc W base spare held f c y hy
          refine ⟨x, c, by rw [hcl, hs], hK, fun j u hj => ?_, hw⟩
          have := hcc j u hj
          rw [hs, Addr.add_add] at this
          exact this
        obtain ⟨xs, hl, hx⟩ := choose_list len _ key
        subst hl
        refine ⟨xs, ⟨some a, cap, rfl, hlc, rfl, ?_, fun _ => ⟨a, rfl, fun j p hj => ?_⟩⟩, Nat.le_trans hlc hcm, fun x hxm => ?_⟩
        · have : xs.length ≤ maxLen := Nat.le_trans hlc hcm
          unfold maxLen at this; omega
        · obtain ⟨c, h4, h5, h6, _⟩ := hx j p hj
          exact ⟨c, h4, h5, h6⟩
        · obtain ⟨i, hi, rfl⟩ := List.getElem_of_mem hxm
          obtain ⟨_, _, _, _, h7⟩ := hx i _ (List.getElem?_eq_getElem hi)
          exact h7
      · cases h
/-- A struct's fields from a place on. -/
def Fs (P : Program) (fs : List Field) (o : Nat) {α : Type} (d : Kd α) (wf : α → Prop) : Prop :=
  ∀ {H : Type} (enc : TypeId × Value → H) (W : World) (base : Nat) (spare : Nat → Bool) (held : Bool) (fuel : Nat) (cs : List Value) (xs : List (DataW H × List MemPlace)), cs.length = o + d.sz →
    fs.mapM (fun f => DataW.trod enc P W base spare held fuel f.type ((cs.drop f.offset).take (P.cellsOf f.type))) = some xs → ∃ x : α, d.K W x (cs.drop o) ∧ wf x
theorem fs_last {f : Field} {o : Nat} {α : Type} {d : Kd α} {wf : α → Prop} (ho : f.offset = o) (hs : P.cellsOf f.type = d.sz) (h : Tells P f.type d wf) : Fs P [f] o d wf := by
  intro H enc W base spare held fuel cs xs hl hm
  simp only [List.mapM_cons, List.mapM_nil, Option.bind_eq_bind, Option.bind_eq_some_iff] at hm
  obtain ⟨y, hy, _⟩ := hm
  rw [ho, hs, List.take_of_length_le (by rw [List.length_drop]; omega)] at hy
  exact h enc W base spare held fuel _ y hy
theorem fs_cons {f : Field} {fs : List Field} {o : Nat} {α β : Type} {d : Kd α} {d' : Kd β} {wf : α → Prop} {wf' : β → Prop} (ho : f.offset = o) (hs : P.cellsOf f.type = d.sz) (h : Tells P f.type d wf) (h' : Fs P fs (o + d.sz) d' wf') :
    Fs P (f :: fs) o (Kd.pair d d') (fun x => wf x.1 ∧ wf' x.2) := by
  intro H enc W base spare held fuel cs xs hl hm
  simp only [List.mapM_cons, Option.bind_eq_bind, Option.bind_eq_some_iff] at hm
  obtain ⟨y, hy, ys, hys, _⟩ := hm
  rw [ho, hs] at hy
  obtain ⟨x, hx, hw⟩ := h enc W base spare held fuel _ y hy
  have hl2 : cs.length = (o + d.sz) + d'.sz := by have : (Kd.pair d d').sz = d.sz + d'.sz := rfl; omega
  obtain ⟨z, hz, hw'⟩ := h' enc W base spare held fuel cs ys hl2 hys
  refine ⟨(x, z), ⟨(cs.drop o).take d.sz, cs.drop (o + d.sz), ?_, hx, hz⟩, hw, hw'⟩
  rw [← List.drop_drop, List.take_append_drop]
theorem op_struct {t : TypeId} {fs : Array Field} {α : Type} {d : Kd α} {wf : α → Prop} (ht : P.underlying t = some (.struct fs)) (hs : P.cellsOf t = d.sz) (h : Fs P fs.toList 0 d wf) : Tells P t d wf := by
  intro H enc W base spare held fuel cs r hr
  cases fuel with
  | zero => simp [DataW.trod] at hr
  | succ f =>
    unfold DataW.trod at hr
    rw [ht] at hr
    simp only at hr
    split at hr
    · rename_i hl
      rw [Option.map_eq_some_iff] at hr
      obtain ⟨xs, hm, _⟩ := hr
      obtain ⟨x, hx, hw⟩ := h enc W base spare held f cs xs (by omega) hm
      exact ⟨x, by simpa using hx, hw⟩
    · cases hr
theorem op_iso {t : TypeId} {α β : Type} {d : Kd α} {wf : α → Prop} (f : β → α) (g : α → β) (hfg : ∀ a, f (g a) = a) (h : Tells P t d wf) : Tells P t (Kd.iso d f) (fun x => wf (f x)) := by
  intro H enc W base spare held fuel cs r hr
  obtain ⟨x, hx, hw⟩ := h enc W base spare held fuel cs r hr
  exact ⟨g x, by show d.K W (f (g x)) cs; rw [hfg]; exact hx, by show wf (f (g x)); rw [hfg]; exact hw⟩
/-- An argument that is a slice. -/
theorem slice_arg {e t : TypeId} {α : Type} {d : Kd α} {wf : α → Prop} (h : Tells P t (Kd.slice e d) (fun xs => xs.length ≤ maxLen ∧ ∀ x ∈ xs, wf x)) {H : Type} {enc : TypeId × Value → H} {W : World} {base : Nat} {spare : Nat → Bool} {held : Bool} {A : Option Addr} {n c : Nat} {x : DataW H} {ps : List MemPlace}
    (hr : DataW.Trod enc P W base spare held t (.slice A n c) x ps) : ∃ l : List α, n = l.length ∧ d.C W A l.length l ∧ l.length ≤ c ∧ l.length ≤ maxLen ∧ ∀ x ∈ l, wf x := by
  obtain ⟨fuel, hf⟩ := hr
  obtain ⟨l, ⟨A', c', he, hle, hC⟩, hw⟩ := h enc W base spare held fuel _ _ hf
  simp only [Value.cells, List.cons.injEq, Value.slice.injEq, and_true] at he
  obtain ⟨rfl, rfl, rfl⟩ := he
  exact ⟨l, rfl, hC, hle, hw.1, hw.2⟩
/-- Any other argument. -/
theorem any_arg {t : TypeId} {α : Type} {d : Kd α} {wf : α → Prop} (h : Tells P t d wf) {H : Type} {enc : TypeId × Value → H} {W : World} {base : Nat} {spare : Nat → Bool} {held : Bool} {v : Value} {x : DataW H} {ps : List MemPlace}
    (hr : DataW.Trod enc P W base spare held t v x ps) : ∃ y : α, d.K W y v.cells.toList ∧ wf y := by
  obtain ⟨fuel, hf⟩ := hr
  exact h enc W base spare held fuel _ _ hf
end Go.Proofs.Ytednmkmhileikaa.Opens
