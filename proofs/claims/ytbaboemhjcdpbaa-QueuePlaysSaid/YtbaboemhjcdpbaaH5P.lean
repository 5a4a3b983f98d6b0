/- (*queue.Queue).Pop. -/
import Derived.Test.YtbaboemhjcdpbaaH5
namespace Go.Proofs.Ytbaboemhjcdpbaa.Q
open Go.RowKit Go.Proofs.YtbaboemhjcdpbaaW.PrintWords Go.Proofs.YtbaboemhjcdpbaaW.PrintLast Go.Proofs.YtbaboemhjcdpbaaW.PrintMore Go.Proofs.Ytbaboemhjcdpbaa.PQueuePlays
attribute [local go_sem] max2_int min2_int max_two min_two max_three min_three max_four min_four
set_option linter.unusedVariables false
set_option linter.unusedSimpArgs false
section
variable {g r l first : Nat} {n room i o : Int} {w : World}
theorem Ring.keep1 {w w' : World} {r l first : Nat} {es : List (List Value)} (h : Ring w (some r) l first es) (hk : w'.heap[r]? = w.heap[r]?) : Ring w' (some r) l first es := h.keep (fun r' hr' => by
 injection hr' with hr'
 subst hr'
 exact hk)
theorem ring_pop {W : World} {r l first : Nat} {cur : Array Value} {t : List Value} {es : List (List Value)} {v0 v1 v2 v3 : Value} (hf : first < l) (hlen : (t :: es).length ≤ l) (hc : W.heap[r]? = some (.cells cur 42 (0, 0))) (hs : cur.size = l * 4) (h1 : ∀ v ∈ cur.toList, v.oneCell' = true)
  (he : ∀ (j : Nat) (e : List Value), (t :: es)[j]? = some e → e.length = 4 ∧ ∀ t, t < 4 → cur[((first + j) % l) * 4 + t]? = e[t]?) (h0 : v0.oneCell' = true) (h1' : v1.oneCell' = true) (h2 : v2.oneCell' = true) (h3 : v3.oneCell' = true) :
  Ring ((((W.setCell ⟨r, first * 4, none⟩ v0).setCell ⟨r, first * 4 + 1, none⟩ v1).setCell ⟨r, first * 4 + 2, none⟩ v2).setCell ⟨r, first * 4 + 3, none⟩ v3) (some r) l ((first + 1) % l) es := by
 have hlen' : es.length + 1 ≤ l := by simpa using hlen
 refine ⟨by omega, .inr ⟨r, (((cur.setIfInBounds (first * 4) v0).setIfInBounds (first * 4 + 1) v1).setIfInBounds (first * 4 + 2) v2).setIfInBounds (first * 4 + 3) v3, rfl, Nat.mod_lt _ (by omega), blk_set (blk_set (blk_set (blk_set hc _ _) _ _) _ _) _ _, by simpa using hs, ?_, ?_⟩⟩
 · intro v hv
   have hset : ∀ (c : Array Value) (n : Nat) (x : Value), (∀ v ∈ c.toList, v.oneCell' = true) → x.oneCell' = true → ∀ v ∈ (c.setIfInBounds n x).toList, v.oneCell' = true := by
    intro c n x hcx hx v hv
    rw [Array.toList_setIfInBounds] at hv
    rcases List.mem_or_eq_of_mem_set hv with hv | rfl
    · exact hcx v hv
    · exact hx
   exact hset _ _ _ (hset _ _ _ (hset _ _ _ (hset _ _ _ h1 h0) h1') h2) h3 v hv
 · intro j e hj
   have hjl : j < es.length := (List.getElem?_eq_some_iff.1 hj).1
   obtain ⟨a, b⟩ := he (j + 1) e (by simpa using hj)
   refine ⟨a, fun t ht => ?_⟩
   have hne := mod_ne first (j + 1) 0 l hf (by omega) (by omega) (by omega)
   replace hne : (first + (j + 1)) % l ≠ first := fun h0 => hne (by rw [h0]; exact (Nat.mod_eq_of_lt hf).symm)
   have hmod : ((first + 1) % l + j) % l = (first + (j + 1)) % l := by rw [Nat.mod_add_mod]; congr 1; omega
   rw [← b t ht, hmod]
   have hx : ∀ (c : Array Value) (n : Nat) (x : Value), ((first + (j + 1)) % l) * 4 + t ≠ n → (c.setIfInBounds n x)[((first + (j + 1)) % l) * 4 + t]? = c[((first + (j + 1)) % l) * 4 + t]? := by
     intro c n x hn
     rw [Array.getElem?_setIfInBounds, if_neg (Ne.symm hn)]
   rw [hx _ _ _ (by omega), hx _ _ _ (by omega), hx _ _ _ (by omega), hx _ _ _ (by omega)]
/-- What Pop leaves where one waits. -/
def Popped (w : World) (g r l : Nat) (n room i o : Int) (es : List (List Value)) (u : S42) (e : Ending) (w' : World) : Prop := ∃ (B : Option Addr) (d first' : Nat), e = .returned (.tuple #[.agg #[.slice B u.f0.length d, .int .i64 u.f1.f0, .int .i64 u.f1.f1, .int .i64 u.f2], .bool true]) ∧ k65.R 65 w' w.heap.size (fun _ => True) (.slice B u.f0.length d) u.f0 ∧
 w'.heap[g]? = some (.cells (qcells (some ⟨r, 0, none⟩) l l first' (n - 1) room i (o + 1)) 56 (0, 0)) ∧ Ring w' (some r) l first' es ∧ Fr w w' (Own g (some r))
set_option maxHeartbeats 1000000 in
theorem pop_none (A : Option Addr) (c : Nat) (h : w.heap[g]? = some (.cells (qcells A l c first n room i o) 56 (0, 0))) (hn : n = 0) : Calls Try.prog 12 #[.pointer (some ⟨g, 0, none⟩)] w (PeekNone w) := by
 have HP := fun (W : World) (hW : Below w.heap.size w W) => peek_none (w := W) A c 0 (blk_below h hW) (.inr (by omega))
 have HP := Aside0.mk HP
 clear hn
 go_enter Try.func12, Try.ntmps12
 go_wp2_with (first
  | ((with_reducible refine gate_dst (N := 2) rfl ?_); refine box_event ?hg (N := 2) ?hd (cs := #[.slice none 0 0, .int .i64 0, .int .i64 0, .int .i64 0]) (t := 42) ?hr ?_; (case hd => rfl); (case hg => rfl); (case hr => first | (go_simp; done) | (go_simp; rfl)); intro g0 hg0 w0 BK hb; have hB := hb; have GE : w.heap.size ≤ g0 := (by rw [hg0]; exact Nat.le_refl _); clear hb hg0)
  | (go_at_call 19; (with_reducible refine (HP.out _ hB).mono ?_); rintro e w1 ⟨rfl, hb⟩; have BK1 := blk_below (g := g0) (o := .cells #[.slice none 0 0, .int .i64 0, .int .i64 0, .int .i64 0] 42 (0, 0)) BK hb; have hB1 : Below w.heap.size w w1 := below_step hB hb; clear hb BK hB)
  | ((with_reducible refine gate_dst (N := 4) rfl ?_); refine box_event ?hg (N := 4) ?hd (cs := #[.slice none 0 0, .int .i64 0, .int .i64 0, .int .i64 0]) (t := 42) ?hr ?_; (case hd => rfl); (case hg => rfl); (case hr => first | (go_simp; done) | (go_simp; rfl)); intro g1 hg1 w2 BG hb; have BK2 := blk_below (g := g0) (o := .cells #[.slice none 0 0, .int .i64 0, .int .i64 0, .int .i64 0] 42 (0, 0)) BK1 hb; have hB2 : Below w.heap.size w w2 := below_step hB1 hb; have GE1 : w.heap.size ≤ g1 := (by rw [hg1]; exact below_size hB1); have hn : g0 ≠ g1 := (by rw [hg1]; exact Nat.ne_of_lt (blk_lt BK1)); have hn' : g1 ≠ g0 := (Ne.symm hn); clear hb hg1 BK1 hB1; have ac0 : w2.cell? ⟨g0, 0, none⟩ = some (.slice none 0 0) := (blk_cell BK2 0).trans rfl; have af0 := blk_frozen BK2 0; have ac1 : w2.cell? ⟨g0, 1, none⟩ = some (.int .i64 0) := (blk_cell BK2 1).trans rfl; have af1 := blk_frozen BK2 1; have ac2 : w2.cell? ⟨g0, 2, none⟩ = some (.int .i64 0) := (blk_cell BK2 2).trans rfl; have af2 := blk_frozen BK2 2; have ac3 : w2.cell? ⟨g0, 3, none⟩ = some (.int .i64 0) := (blk_cell BK2 3).trans rfl; have af3 := blk_frozen BK2 3; have bc0 : w2.cell? ⟨g1, 0, none⟩ = some (.slice none 0 0) := (blk_cell BG 0).trans rfl; have bf0 := blk_frozen BG 0; have bc1 : w2.cell? ⟨g1, 1, none⟩ = some (.int .i64 0) := (blk_cell BG 1).trans rfl; have bf1 := blk_frozen BG 1; have bc2 : w2.cell? ⟨g1, 2, none⟩ = some (.int .i64 0) := (blk_cell BG 2).trans rfl; have bf2 := blk_frozen BG 2; have bc3 : w2.cell? ⟨g1, 3, none⟩ = some (.int .i64 0) := (blk_cell BG 3).trans rfl; have bf3 := blk_frozen BG 3))
 (try simp only [Exit.inBlock, Exit.then])
 refine bodyPost_ret (v := .tuple #[.agg #[.slice none 0 0, .int .i64 0, .int .i64 0, .int .i64 0], .bool false]) ?_ rfl ⟨rfl, ?_⟩
 · rw [results_cell_tmp rfl]
   go_simp
 · iterate 4 refine below_set ?_ GE
   iterate 4 refine below_set ?_ GE1
   exact hB2
set_option maxHeartbeats 4000000 in
set_option maxRecDepth 100000 in
theorem pop_calls (es : List (List Value)) (u : S42) (t : List Value) (hn : n = (t :: es).length) (hn2 : n ≤ 65536) (ho : 0 ≤ o) (ho2 : o < 2 ^ 60) (hl2 : l ≤ 131072) (h : w.heap[g]? = some (.cells (qcells (some ⟨r, 0, none⟩) l l first n room i o) 56 (0, 0))) (hR : Ring w (some r) l first (t :: es)) (hK : k42.K w u t) (hul : u.f0.length < 4398046511104) :
  Calls Try.prog 12 #[.pointer (some ⟨g, 0, none⟩)] w (Popped w g r l n room i o es u) := by
 have HP := Aside0.mk (show ∀ W, Below w.heap.size w W → Calls Try.prog 19 #[.pointer (some ⟨g, 0, none⟩), .int .i64 0] W (Peeked W u) from fun (W : World) (hW : Below w.heap.size w W) => peek_calls (w := W) (g := g) (r := r) (first := first) (room := room) (i := i) (o := o) (t :: es) 0 u t hn hl2 (blk_below h hW) (hR.keep (fun r' hr' => hW.block r' (by
   obtain ⟨_, ⟨h0, _⟩ | ⟨r2, cur, hr2, _, hc, _⟩⟩ := hR
   · rw [h0] at hr'; cases hr'
   · rw [hr2] at hr'; injection hr' with hr'; subst hr'; exact blk_lt hc))) rfl (k42.K_below hW hK) hul)
 have HR := Aside0.mk hR
 have HN := Aside0.mk hn
 have H := Aside0.mk h
 clear hR hn hK h
 go_enter Try.func12, Try.ntmps12
 go_wp2_with (first
  | ((with_reducible refine gate_dst (N := 2) rfl ?_); refine box_event ?hg (N := 2) ?hd (cs := #[.slice none 0 0, .int .i64 0, .int .i64 0, .int .i64 0]) (t := 42) ?hr ?_; (case hd => rfl); (case hg => rfl); (case hr => first | (go_simp; done) | (go_simp; rfl)); intro g0 hg0 w0 BK hb; have hB := hb; have GE : w.heap.size ≤ g0 := (by rw [hg0]; exact Nat.le_refl _); clear hb hg0)
  | (go_at_call 19; (with_reducible refine (HP.out _ hB).mono ?_); rintro e w1 ⟨B, d, rfl, hR1, hb⟩; have RR1 := Aside0.mk hR1; have BK1 := blk_below (g := g0) (o := .cells #[.slice none 0 0, .int .i64 0, .int .i64 0, .int .i64 0] 42 (0, 0)) BK hb; have NB : Aside0 (w0.heap.size ≤ w1.heap.size ∧ g0 < w0.heap.size ∧ w.heap.size ≤ w0.heap.size) := ⟨⟨hb.size, blk_lt BK, hB.size⟩⟩; have hB1 : Below w.heap.size w w1 := below_step hB hb; clear hb BK hB hR1)
  | ((with_reducible refine gate_dst (N := 4) rfl ?_); refine box_event ?hg (N := 4) ?hd (cs := #[.slice none 0 0, .int .i64 0, .int .i64 0, .int .i64 0]) (t := 42) ?hr ?_; (case hd => rfl); (case hg => rfl); (case hr => first | (go_simp; done) | (go_simp; rfl)); intro g1 hg1 w2 BG hb; have BK2 := blk_below (g := g0) (o := .cells #[.slice none 0 0, .int .i64 0, .int .i64 0, .int .i64 0] 42 (0, 0)) BK1 hb; have R2 := Aside0.mk (Kd.R_below RR1.out hb); have hB2 : Below w.heap.size w w2 := below_step hB1 hb; have GE1 : w.heap.size ≤ g1 := (by rw [hg1]; exact below_size hB1); have hn : g0 ≠ g1 := (by rw [hg1]; exact Nat.ne_of_lt (blk_lt BK1)); have hn' : g1 ≠ g0 := (Ne.symm hn); clear hb hg1 BK1 hB1; have ac0 : w2.cell? ⟨g0, 0, none⟩ = some (.slice none 0 0) := (blk_cell BK2 0).trans rfl; have af0 := blk_frozen BK2 0; have ac1 : w2.cell? ⟨g0, 1, none⟩ = some (.int .i64 0) := (blk_cell BK2 1).trans rfl; have af1 := blk_frozen BK2 1; have ac2 : w2.cell? ⟨g0, 2, none⟩ = some (.int .i64 0) := (blk_cell BK2 2).trans rfl; have af2 := blk_frozen BK2 2; have ac3 : w2.cell? ⟨g0, 3, none⟩ = some (.int .i64 0) := (blk_cell BK2 3).trans rfl; have af3 := blk_frozen BK2 3; have bc0 : w2.cell? ⟨g1, 0, none⟩ = some (.slice none 0 0) := (blk_cell BG 0).trans rfl; have bf0 := blk_frozen BG 0; have bc1 : w2.cell? ⟨g1, 1, none⟩ = some (.int .i64 0) := (blk_cell BG 1).trans rfl; have bf1 := blk_frozen BG 1; have bc2 : w2.cell? ⟨g1, 2, none⟩ = some (.int .i64 0) := (blk_cell BG 2).trans rfl; have bf2 := blk_frozen BG 2; have bc3 : w2.cell? ⟨g1, 3, none⟩ = some (.int .i64 0) := (blk_cell BG 3).trans rfl; have bf3 := blk_frozen BG 3))
 have gg0 : g ≠ g0 := Nat.ne_of_lt (Nat.lt_of_lt_of_le (blk_lt H.out) GE)
 have gg1 : g ≠ g1 := Nat.ne_of_lt (Nat.lt_of_lt_of_le (blk_lt H.out) GE1)
 obtain ⟨hfit, ⟨h0, _⟩ | ⟨r', cur, hr', hf, hc, hcs, h1c, hes⟩⟩ := HR.out
 · cases h0
 injection hr' with hr'
 subst hr'
 have rg0 : r ≠ g0 := Nat.ne_of_lt (Nat.lt_of_lt_of_le (blk_lt hc) GE)
 have rg1 : r ≠ g1 := Nat.ne_of_lt (Nat.lt_of_lt_of_le (blk_lt hc) GE1)
 have gr : g ≠ r := by
  intro h0
  have h1 := H.out
  rw [h0, hc] at h1
  injection h1 with h1
  injection h1 with _ h1
  cases h1
 have NE := Aside0.mk (And.intro gg0 (And.intro gg1 (And.intro rg0 (And.intro rg1 gr))))
 obtain ⟨w3, hw3⟩ : ∃ w3, w3 = ((((w2.setCell ⟨g1, 0, none⟩ (.slice B u.f0.length d)).setCell ⟨g1, 1, none⟩ (.int .i64 u.f1.f0)).setCell ⟨g1, 2, none⟩ (.int .i64 u.f1.f1)).setCell ⟨g1, 3, none⟩ (.int .i64 u.f2)) := ⟨_, rfl⟩
 rw [← hw3]
 have hB3 : Below w.heap.size w w3 := by
  rw [hw3]
  iterate 4 refine below_set ?_ GE1
  exact hB2
 have G3 := Aside0.mk (blk_below H.out hB3)
 have C3 := Aside0.mk (blk_below hc hB3)
 have A3 : Aside0 (w3.heap[g0]? = some (.cells #[.slice none 0 0, .int .i64 0, .int .i64 0, .int .i64 0] 42 (0, 0))) := ⟨by rw [hw3]; exact blk_far (blk_far (blk_far (blk_far BK2 hn _) hn _) hn _) hn _⟩
 have B3 : Aside0 (w3.heap[g1]? = some (.cells #[.slice B u.f0.length d, .int .i64 u.f1.f0, .int .i64 u.f1.f1, .int .i64 u.f2] 42 (0, 0))) := ⟨by
  rw [hw3]
  refine blk_put (cs := #[.slice B u.f0.length d, .int .i64 u.f1.f0, .int .i64 u.f1.f1, .int .i64 0]) ?_ 3 _ rfl
  refine blk_put (cs := #[.slice B u.f0.length d, .int .i64 u.f1.f0, .int .i64 0, .int .i64 0]) ?_ 2 _ rfl
  refine blk_put (cs := #[.slice B u.f0.length d, .int .i64 0, .int .i64 0, .int .i64 0]) ?_ 1 _ rfl
  refine blk_put (cs := #[.slice none 0 0, .int .i64 0, .int .i64 0, .int .i64 0]) ?_ 0 _ rfl
  exact BG⟩
 have R3 : Aside0 (k65.R 65 w3 w.heap.size (fun _ => True) (.slice B u.f0.length d) u.f0) := ⟨by
  rw [hw3]
  exact Kd.R_mono (Kd.R_far (p := ⟨g1, 3, none⟩) (Kd.R_far (p := ⟨g1, 2, none⟩) (Kd.R_far (p := ⟨g1, 1, none⟩) (Kd.R_far (p := ⟨g1, 0, none⟩) (Kd.R_types (Kd.R_lower R2.out NB.out.2.2) BG (by decide)) (fun _ hk => hk.2) _) (fun _ hk => hk.2) _) (fun _ hk => hk.2) _) (fun _ hk => hk.2) _) (fun _ _ => trivial)⟩
 have HB3 := Aside0.mk hB3
 have HES := Aside0.mk hes
 have H1C := Aside0.mk h1c
 have HCS := Aside0.mk hcs
 have HC := Aside0.mk hc
 have HNN := Aside0.mk (And.intro hn hn')
 clear hw3 hB3 hB2 BK2 BG R2 RR1 NB hes h1c hcs hc hfit HP gg0 gg1 rg0 rg1 gr hn hn' ac0 af0 ac1 af1 ac2 af2 ac3 af3 bc0 bf0 bc1 bf1 bc2 bf2 bc3 bf3
 have x0 : w3.cell? ⟨g, 0, none⟩ = some (.slice (some ⟨r, 0, none⟩) l l) := (blk_cell G3.out 0).trans rfl
 have x1 : w3.cell? ⟨g, 1, none⟩ = some (.int .i64 first) := (blk_cell G3.out 1).trans rfl
 have hfz : (first : Int) < (l : Int) := by omega
 have hf0 : (0 : Int) ≤ (first : Int) := by omega
 go_still_tail 10, (by kernel_rfl)
 change wpList _ _ _ _ _ w3.drew
 have G4 := Aside0.mk (blk_drew G3.out)
 have C4 := Aside0.mk (blk_drew C3.out)
 have A4 := Aside0.mk (blk_drew A3.out)
 have B4 := Aside0.mk (blk_drew B3.out)
 have R4 := Aside0.mk (Kd.R_drew R3.out)
 have F4 := Aside0.mk (Fr.of_below (below_drew HB3.out) (Own g (some r)))
 clear x0 x1 G3 C3 A3 B3 R3 HB3
 generalize w3.drew = w4 at G4 C4 A4 B4 R4 F4 ⊢
 obtain ⟨v0, hv0⟩ : ∃ v, cur[first * 4]? = some v := ⟨_, Array.getElem?_eq_getElem (by have := HCS.out; omega)⟩
 obtain ⟨v1, hv1⟩ : ∃ v, cur[first * 4 + 1]? = some v := ⟨_, Array.getElem?_eq_getElem (by have := HCS.out; omega)⟩
 obtain ⟨v2, hv2⟩ : ∃ v, cur[first * 4 + 2]? = some v := ⟨_, Array.getElem?_eq_getElem (by have := HCS.out; omega)⟩
 obtain ⟨v3, hv3⟩ : ∃ v, cur[first * 4 + 3]? = some v := ⟨_, Array.getElem?_eq_getElem (by have := HCS.out; omega)⟩
 have z0 : w4.cell? ⟨r, first * 4, none⟩ = some v0 := (blk_cell C4.out _).trans hv0
 have z1 : w4.cell? ⟨r, first * 4 + 1, none⟩ = some v1 := (blk_cell C4.out _).trans hv1
 have z2 : w4.cell? ⟨r, first * 4 + 2, none⟩ = some v2 := (blk_cell C4.out _).trans hv2
 have z3 : w4.cell? ⟨r, first * 4 + 3, none⟩ = some v3 := (blk_cell C4.out _).trans hv3
 have f0 := blk_frozen C4.out (first * 4)
 have f1 := blk_frozen C4.out (first * 4 + 1)
 have f2 := blk_frozen C4.out (first * 4 + 2)
 have f3 := blk_frozen C4.out (first * 4 + 3)
 clear hv0 hv1 hv2 hv3
 go_wp2_with fail
 obtain ⟨w5, hw5⟩ : ∃ w5, w5 = ((((w4.setCell ⟨r, first * 4, none⟩ (.slice none 0 0)).setCell ⟨r, first * 4 + 1, none⟩ (.int .i64 0)).setCell ⟨r, first * 4 + 2, none⟩ (.int .i64 0)).setCell ⟨r, first * 4 + 3, none⟩ (.int .i64 0)) := ⟨_, rfl⟩
 rw [← hw5]
 obtain ⟨gg0, gg1, rg0, rg1, gr⟩ := NE.out
 have G5 := Aside0.mk (show w5.heap[g]? = some (.cells (qcells (some ⟨r, 0, none⟩) l l first n room i o) 56 (0, 0)) by rw [hw5]; exact blk_far (blk_far (blk_far (blk_far G4.out gr _) gr _) gr _) gr _)
 have A5 := Aside0.mk (show w5.heap[g0]? = some (.cells #[.slice none 0 0, .int .i64 0, .int .i64 0, .int .i64 0] 42 (0, 0)) by rw [hw5]; exact blk_far (blk_far (blk_far (blk_far A4.out (Ne.symm rg0) _) (Ne.symm rg0) _) (Ne.symm rg0) _) (Ne.symm rg0) _)
 have B5 := Aside0.mk (show w5.heap[g1]? = some (.cells #[.slice B u.f0.length d, .int .i64 u.f1.f0, .int .i64 u.f1.f1, .int .i64 u.f2] 42 (0, 0)) by rw [hw5]; exact blk_far (blk_far (blk_far (blk_far B4.out (Ne.symm rg1) _) (Ne.symm rg1) _) (Ne.symm rg1) _) (Ne.symm rg1) _)
 have P5 := Aside0.mk (show Ring w5 (some r) l ((first + 1) % l) es by rw [hw5]; exact ring_pop hf (by have := HR.out.1; exact this) C4.out HCS.out H1C.out HES.out rfl rfl rfl rfl)
 have F5 := Aside0.mk (show Fr w w5 (Own g (some r)) by rw [hw5]; exact F4.out.far4 (fun _ => .inr rfl))
 have R5 : Aside0 (k65.R 65 w5 w.heap.size (fun b => b ≠ g) (.slice B u.f0.length d) u.f0) := ⟨by
  rw [hw5]
  exact Kd.R_mono (Kd.R_far (p := ⟨r, first * 4 + 3, none⟩) (Kd.R_far (p := ⟨r, first * 4 + 2, none⟩) (Kd.R_far (p := ⟨r, first * 4 + 1, none⟩) (Kd.R_far (p := ⟨r, first * 4, none⟩) (Kd.R_types (Kd.R_types R4.out G4.out (by decide)) C4.out (by decide)) (fun _ hk => hk.2) _) (fun _ hk => hk.2) _) (fun _ hk => hk.2) _) (fun _ hk => hk.2) _) (fun _ hk => hk.1.2)⟩
 obtain ⟨q, hq⟩ : ∃ q, q = (first + 1) % l := ⟨_, rfl⟩
 rw [← hq] at P5
 have HQ := Aside0.mk hq
 clear hw5 z0 z1 z2 z3 f0 f1 f2 f3 G4 A4 B4 R4 F4 C4 hq gg0 gg1 rg0 rg1 gr
 refine (place_at (n := n) (room := room) (i := i) (o := o) (some ⟨r, 0, none⟩) 1 q G5.out (by omega) (by omega) HQ.out).mono ?_
 rintro e w6 ⟨rfl, nd, hw6⟩
 have G6 := Aside0.mk (show w6.heap[g]? = some (.cells (qcells (some ⟨r, 0, none⟩) l l first n room i o) 56 (0, 0)) by rw [hw6]; exact G5.out)
 have A6 := Aside0.mk (show w6.heap[g0]? = some (.cells #[.slice none 0 0, .int .i64 0, .int .i64 0, .int .i64 0] 42 (0, 0)) by rw [hw6]; exact A5.out)
 have B6 := Aside0.mk (show w6.heap[g1]? = some (.cells #[.slice B u.f0.length d, .int .i64 u.f1.f0, .int .i64 u.f1.f1, .int .i64 u.f2] 42 (0, 0)) by rw [hw6]; exact B5.out)
 have P6 := Aside0.mk (show Ring w6 (some r) l q es by rw [hw6]; exact P5.out)
 have F6 := Aside0.mk (show Fr w w6 (Own g (some r)) by rw [hw6]; exact F5.out.drewN nd)
 have R6 : Aside0 (k65.R 65 w6 w.heap.size (fun b => b ≠ g) (.slice B u.f0.length d) u.f0) := ⟨by rw [hw6]; exact Kd.R_drewN R5.out nd⟩
 clear hw6 G5 A5 B5 P5 F5 R5
 have xc0 : w6.cell? ⟨g0, 0, none⟩ = some (.slice none 0 0) := (blk_cell A6.out 0).trans rfl
 have xf0 := blk_frozen A6.out 0
 have xc1 : w6.cell? ⟨g0, 1, none⟩ = some (.int .i64 0) := (blk_cell A6.out 1).trans rfl
 have xf1 := blk_frozen A6.out 1
 have xc2 : w6.cell? ⟨g0, 2, none⟩ = some (.int .i64 0) := (blk_cell A6.out 2).trans rfl
 have xf2 := blk_frozen A6.out 2
 have xc3 : w6.cell? ⟨g0, 3, none⟩ = some (.int .i64 0) := (blk_cell A6.out 3).trans rfl
 have xf3 := blk_frozen A6.out 3
 have yc0 : w6.cell? ⟨g1, 0, none⟩ = some (.slice B u.f0.length d) := (blk_cell B6.out 0).trans rfl
 have yf0 := blk_frozen B6.out 0
 have yc1 : w6.cell? ⟨g1, 1, none⟩ = some (.int .i64 u.f1.f0) := (blk_cell B6.out 1).trans rfl
 have yf1 := blk_frozen B6.out 1
 have yc2 : w6.cell? ⟨g1, 2, none⟩ = some (.int .i64 u.f1.f1) := (blk_cell B6.out 2).trans rfl
 have yf2 := blk_frozen B6.out 2
 have yc3 : w6.cell? ⟨g1, 3, none⟩ = some (.int .i64 u.f2) := (blk_cell B6.out 3).trans rfl
 have yf3 := blk_frozen B6.out 3
 have x1 : w6.cell? ⟨g, 1, none⟩ = some (.int .i64 first) := (blk_cell G6.out 1).trans rfl
 have x2 : w6.cell? ⟨g, 2, none⟩ = some (.int .i64 n) := (blk_cell G6.out 2).trans rfl
 have x5 : w6.cell? ⟨g, 5, none⟩ = some (.int .i64 o) := (blk_cell G6.out 5).trans rfl
 have h1 := blk_frozen G6.out 1
 have h2 := blk_frozen G6.out 2
 have h5 := blk_frozen G6.out 5
 have gg0 := NE.out.1
 have gg1 := NE.out.2.1
 have g0g := Ne.symm gg0
 have g1g := Ne.symm gg1
 have hn := HNN.out.1
 have hn' := HNN.out.2
 have hnn : 1 ≤ n := by have := HN.out; simp at this; omega
 go_wp2
 (try simp only [Exit.inBlock, Exit.then])
 refine bodyPost_ret (v := .tuple #[.agg #[.slice B u.f0.length d, .int .i64 u.f1.f0, .int .i64 u.f1.f1, .int .i64 u.f2], .bool true]) ?_ rfl ⟨B, d, q, rfl, ?_, ?_, ?_, ?_⟩
 · rw [results_cell_tmp rfl]
   go_simp
 · have h7 := Kd.R_types R6.out A6.out (by decide)
   have step : ∀ {W : World} {p : Addr} (v : Value), k65.R 65 W w.heap.size (fun b => b ≠ g ∧ b ≠ g0) (.slice B u.f0.length d) u.f0 → p.block = g ∨ p.block = g0 → k65.R 65 (W.setCell p v) w.heap.size (fun b => b ≠ g ∧ b ≠ g0) (.slice B u.f0.length d) u.f0 := by
    intro W p v hW hp
    refine Kd.R_far hW (fun k hk => ?_) v
    rcases hp with hp | hp <;> rw [hp]
    · exact hk.1
    · exact hk.2
   exact Kd.R_mono (step _ (step _ (step _ (step _ (step _ (step _ (step _ h7 (.inl rfl)) (.inl rfl)) (.inl rfl)) (.inr rfl)) (.inr rfl)) (.inr rfl)) (.inr rfl)) (fun _ _ => trivial)
 · refine blk_far (blk_far (blk_far (blk_far ?_ gg0 _) gg0 _) gg0 _) gg0 _
   refine blk_put (cs := qcells (some ⟨r, 0, none⟩) l l q (n - 1) room i o) ?_ 5 _ rfl
   refine blk_put (cs := qcells (some ⟨r, 0, none⟩) l l q n room i o) ?_ 2 _ rfl
   exact blk_put (cs := qcells (some ⟨r, 0, none⟩) l l first n room i o) G6.out 1 _ rfl
 · refine P6.out.keep1 ?_
   have rg : r ≠ g := Ne.symm NE.out.2.2.2.2
   have r0 : r ≠ g0 := NE.out.2.2.1
   have e : ∀ (W : World) (p : Addr) (v : Value), p.block = g ∨ p.block = g0 → (W.setCell p v).heap[r]? = W.heap[r]? := fun W p v hp => Below.heap_setCell W p v r (by rcases hp with hp | hp <;> rw [hp] <;> assumption)
   exact (e _ _ _ (.inr rfl)).trans ((e _ _ _ (.inr rfl)).trans ((e _ _ _ (.inr rfl)).trans ((e _ _ _ (.inr rfl)).trans ((e _ _ _ (.inl rfl)).trans ((e _ _ _ (.inl rfl)).trans (e _ _ _ (.inl rfl)))))))
 · have hg : (g < w.heap.size → Own g (some r) g) := fun _ => .inl rfl
   have h0 : (g0 < w.heap.size → Own g (some r) g0) := fun h => absurd h (by omega)
   exact ((((((F6.out.set (p := ⟨g, 1, none⟩) hg _).set (p := ⟨g, 2, none⟩) hg _).set (p := ⟨g, 5, none⟩) hg _).set (p := ⟨g0, 0, none⟩) h0 _).set (p := ⟨g0, 1, none⟩) h0 _).set (p := ⟨g0, 2, none⟩) h0 _).set (p := ⟨g0, 3, none⟩) h0 _
end
end Go.Proofs.Ytbaboemhjcdpbaa.Q
