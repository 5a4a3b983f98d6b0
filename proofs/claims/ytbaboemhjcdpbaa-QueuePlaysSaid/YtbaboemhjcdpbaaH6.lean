/- A queue and what waits in it: each method's contract. -/
import Derived.Test.YtbaboemhjcdpbaaH5P
namespace Go.Proofs.Ytbaboemhjcdpbaa.Q
open Go.RowKit Go.Proofs.YtbaboemhjcdpbaaW.PrintWords Go.Proofs.YtbaboemhjcdpbaaW.PrintLast Go.Proofs.YtbaboemhjcdpbaaW.PrintMore Go.Proofs.Ytbaboemhjcdpbaa.PQueuePlays
set_option linter.unusedVariables false
set_option linter.unusedSimpArgs false
/-- At block g lies a queue in which us wait. -/
def Qs (w : World) (g : Nat) (ro : Option Nat) (us : List S42) (room i o : Int) : Prop :=
 ∃ (l first : Nat) (es : List (List Value)), l ≤ 131072 ∧ w.heap[g]? = some (.cells (qcells (ro.map fun r => ⟨r, 0, none⟩) l l first us.length room i o) 56 (0, 0)) ∧ Ring w ro l first es ∧ Tells w 0 (fun b => ¬ Own g ro b) us es ∧ ∀ u ∈ us, u.f0.length < 4398046511104
section
variable {w w' : World} {g : Nat} {ro : Option Nat} {us : List S42} {room i o : Int}
theorem Qs.lt (h : Qs w g ro us room i o) : ∀ b, Own g ro b → b < w.heap.size := by
 obtain ⟨l, first, es, hl, hg, hR, hT, hr⟩ := h
 rintro b (rfl | hb)
 · exact blk_lt hg
 · obtain ⟨_, ⟨h0, _⟩ | ⟨r2, cur, hr2, _, hc, _⟩⟩ := hR
   · rw [h0] at hb; cases hb
   · rw [hr2] at hb; injection hb with hb; subst hb; exact blk_lt hc
theorem Qs.keep (h : Qs w g ro us room i o) (hk : ∀ b, b < w.heap.size → w'.heap[b]? = w.heap[b]?) : Qs w' g ro us room i o := by
 have hlt := h.lt
 obtain ⟨l, first, es, hl, hg, hR, hT, hr⟩ := h
 refine ⟨l, first, es, hl, (hk g (blk_lt hg)).trans hg, hR.keep (fun r hr => hk r (hlt r (.inr hr.symm))), ⟨hT.1, fun j u t hj ht => ?_⟩, hr⟩
 exact Kd.M_step (hT.2 j u t hj ht) (fun b _ hlt => hk b hlt)
theorem Qs.below (h : Qs w g ro us room i o) (hb : Below w.heap.size w w') : Qs w' g ro us room i o := h.keep hb.block
theorem Qs.drewN (h : Qs w g ro us room i o) (n : Nat) : Qs (w.drewN n) g ro us room i o := h.keep (fun _ _ => rfl)
theorem Qs.far (h : Qs w g ro us room i o) {p : Addr} (hp : w.heap.size ≤ p.block) (v : Value) : Qs (w.setCell p v) g ro us room i o := h.keep (fun b hb => Below.heap_setCell _ _ _ _ (by omega))
theorem qnew (room : Int) (h1 : 1 ≤ room) (h2 : room ≤ 65536) (w : World) : Calls Try.prog 6 #[.int .i64 room] w fun e w' => ∃ g, e = .returned (.tuple #[.pointer (some ⟨g, 0, none⟩), .int .i64 0]) ∧ Qs w' g none [] room 0 0 ∧ w.heap.size ≤ g ∧ Below w.heap.size w w' := by
 refine (new_calls room h1 h2 w).mono ?_
 rintro e w' ⟨g, rfl, hg, hc, hB⟩
 exact ⟨g, rfl, ⟨0, 0, [], by omega, hc, ⟨Nat.le_refl _, .inl ⟨rfl, rfl, rfl⟩⟩, ⟨rfl, fun j u t hj => by simp at hj⟩, fun u hu => by simp at hu⟩, hg, hB⟩
theorem qlen (h : Qs w g ro us room i o) : Calls Try.prog 9 #[.pointer (some ⟨g, 0, none⟩)] w fun e w' => e = .returned (.int .i64 us.length) ∧ ∃ nd, w' = w.drewN nd := by
 obtain ⟨l, first, es, hl, hg, hR, hT, hr⟩ := h
 exact len_calls hg
theorem qopen (h : Qs w g ro us room i o) : Calls Try.prog 15 #[.pointer (some ⟨g, 0, none⟩)] w fun e w' => e = .returned (.bool (decide ((us.length : Int) < room))) ∧ ∃ nd, w' = w.drewN nd := by
 obtain ⟨l, first, es, hl, hg, hR, hT, hr⟩ := h
 exact open_calls hg
theorem qpassed (h : Qs w g ro us room i o) : Calls Try.prog 14 #[.pointer (some ⟨g, 0, none⟩)] w fun e w' => e = .returned (.tuple #[.int .i64 i, .int .i64 o]) ∧ ∃ nd, w' = w.drewN nd := by
 obtain ⟨l, first, es, hl, hg, hR, hT, hr⟩ := h
 exact passed_calls hg
def QPushed (w : World) (g : Nat) (ro : Option Nat) (us xs : List S42) (room i o : Int) (e : Ending) (w' : World) : Prop := e = .returned (.int .i64 0) ∧ ∃ ro', Qs w' g ro' (us ++ xs) room (i + xs.length) o ∧ Fr w w' (Own g ro) ∧ (ro' = ro ∨ ∃ r, ro' = some r ∧ w.heap.size ≤ r)
theorem qpush (xs : List S42) (A : Option Addr) (c : Nat) (h : Qs w g ro us room i o) (hk : us.length + xs.length ≤ 65536) (hi0 : 0 ≤ i) (hi1 : i < 2 ^ 60) (hC : ∀ w', Fr w w' (Own g ro) → Kd.C k42 w' A xs.length xs) (hc : xs.length ≤ c) (hrow : ∀ u ∈ xs, u.f0.length < 4398046511104) :
  Calls Try.prog 8 #[.pointer (some ⟨g, 0, none⟩), .slice A xs.length c] w (QPushed w g ro us xs room i o) := by
 obtain ⟨l, first, es, hl, hg, hR, hT, hr⟩ := h
 have hel : us.length = es.length := hT.1.symm
 refine (push_calls ro es xs A c hl (by rw [hel]) (by omega) hi0 hi1 hg hR hC hc hrow).mono ?_
 rintro e w' ⟨rfl, ro', l', first', ts, hl', hg', hR', hT', hF, ha⟩
 refine ⟨rfl, ro', ⟨l', first', es ++ ts, hl', by simpa using hg', hR', ⟨by simp [hT.1, hT'.1], fun j u t hj ht => ?_⟩, fun u hu => ?_⟩, hF, ha⟩
 · rcases Nat.lt_or_ge j us.length with hlt | hge
   · rw [List.getElem?_append_left hlt] at hj
     rw [List.getElem?_append_left (by omega)] at ht
     have hm := Kd.M_step (w1 := w') (hT.2 j u t hj ht) (fun b hb hlt => hF.block b hlt hb)
     have hm2 := k42.M_bound (hT.2 j u t hj ht)
     have hm3 := k42.M_move (w1 := w') (fun b hb => hF.block b hb.2.2.1 hb.1) hm2
     refine k42.M_mono (fun b hb => ?_) hm3
     obtain ⟨hb1, _, hb2, _⟩ := hb
     rintro (h | h)
     · exact hb1 (.inl h)
     · rcases ha with rfl | ⟨r, rfl, hle⟩
       · exact hb1 (.inr h)
       · injection h with h; omega
   · rw [List.getElem?_append_right hge] at hj
     rw [List.getElem?_append_right (by omega), ← hel] at ht
     exact k42.M_lower (Nat.zero_le _) (hT'.2 _ u t hj ht)
 · rcases List.mem_append.1 hu with hu | hu
   · exact hr u hu
   · exact hrow u hu
theorem qpeek (j : Nat) (u : S42) (h : Qs w g ro us room i o) (hj : us[j]? = some u) : Calls Try.prog 19 #[.pointer (some ⟨g, 0, none⟩), .int .i64 j] w (Peeked w u) := by
 obtain ⟨l, first, es, hl, hg, hR, hT, hr⟩ := h
 have hjl := (List.getElem?_eq_some_iff.1 hj).1
 have hel := hT.1
 obtain ⟨t, ht⟩ : ∃ t, es[j]? = some t := ⟨_, List.getElem?_eq_getElem (by omega)⟩
 cases ro with
 | none =>
   obtain ⟨hf, ⟨_, h0, _⟩ | ⟨r, cur, h0, _⟩⟩ := hR
   · omega
   · cases h0
 | some r => exact peek_calls es j u t (by rw [hel]) hl hg hR ht (k42.K_of_M (hT.2 j u t hj ht)) (hr u (List.mem_of_getElem? hj))
theorem qpeek_none (j : Int) (h : Qs w g ro us room i o) (hj : j < 0 ∨ (us.length : Int) ≤ j) : Calls Try.prog 19 #[.pointer (some ⟨g, 0, none⟩), .int .i64 j] w (PeekNone w) := by
 obtain ⟨l, first, es, hl, hg, hR, hT, hr⟩ := h
 exact peek_none _ _ j hg hj
def QPopped (w : World) (g : Nat) (ro : Option Nat) (u : S42) (us : List S42) (room i o : Int) (e : Ending) (w' : World) : Prop := ∃ B d, e = .returned (.tuple #[.agg #[.slice B u.f0.length d, .int .i64 u.f1.f0, .int .i64 u.f1.f1, .int .i64 u.f2], .bool true]) ∧ k65.R 65 w' w.heap.size (fun _ => True) (.slice B u.f0.length d) u.f0 ∧ Qs w' g ro us room i (o + 1) ∧ Fr w w' (Own g ro)
theorem qpop (u : S42) (h : Qs w g ro (u :: us) room i o) (hn : (u :: us).length ≤ 65536) (ho : 0 ≤ o) (ho2 : o < 2 ^ 60) : Calls Try.prog 12 #[.pointer (some ⟨g, 0, none⟩)] w (QPopped w g ro u us room i o) := by
 obtain ⟨l, first, es, hl, hg, hR, hT, hr⟩ := h
 have hel := hT.1
 cases es with
 | nil => simp at hel
 | cons t es =>
 cases ro with
 | none =>
   obtain ⟨hf, ⟨_, h0, _⟩ | ⟨r, cur, h0, _⟩⟩ := hR
   · simp at hf; omega
   · cases h0
 | some r =>
   refine (pop_calls es u t (by rw [hel]) (by omega) ho ho2 hl hg hR (k42.K_of_M (hT.2 0 u t rfl rfl)) (hr u (List.mem_cons_self))).mono ?_
   rintro e w' ⟨B, d, first', rfl, hRr, hg', hR', hF⟩
   refine ⟨B, d, rfl, hRr, ⟨l, first', es, hl, ?_, hR', ⟨by simpa using hel, fun j x t' hj ht' => ?_⟩, fun x hx => hr x (List.mem_cons_of_mem _ hx)⟩, hF⟩
   · rw [hg']
     simp
   · exact Kd.M_step (hT.2 (j + 1) x t' (by simpa using hj) (by simpa using ht')) (fun b hb hlt => hF.block b hlt hb)
theorem qpop_none (h : Qs w g ro [] room i o) : Calls Try.prog 12 #[.pointer (some ⟨g, 0, none⟩)] w (PeekNone w) := by
 obtain ⟨l, first, es, hl, hg, hR, hT, hr⟩ := h
 exact pop_none _ _ hg rfl
end
end Go.Proofs.Ytbaboemhjcdpbaa.Q
