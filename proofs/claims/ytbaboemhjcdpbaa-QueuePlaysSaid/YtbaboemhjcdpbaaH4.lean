/- (*queue.Queue).Push: one change put into the ring. -/
import Derived.Test.YtbaboemhjcdpbaaH3
import Derived.Test.YtbaboemhjcdpbaaOQueuePlaysx2
import Derived.IntWalk
namespace Go.Proofs.Ytbaboemhjcdpbaa.Q
open Go.RowKit Go.Proofs.YtbaboemhjcdpbaaW.PrintWords Go.Proofs.YtbaboemhjcdpbaaW.PrintLast Go.Proofs.YtbaboemhjcdpbaaW.PrintMore Go.Proofs.Ytbaboemhjcdpbaa.PQueuePlays
attribute [local go_sem] max2_int min2_int max_two min_two max_three min_three max_four min_four
set_option linter.unusedVariables false
set_option linter.unusedSimpArgs false
/-- A change is told in new memory. -/
theorem told_up (u : S42) (A : Option Addr) (c : Nat) (w : World) (hc : u.f0.length ≤ c) (hK : k65.C w A u.f0.length u.f0) (hl : u.f0.length < 4398046511104) :
  Calls Try.prog 21 #[.agg #[.slice A u.f0.length c, .int .i64 u.f1.f0, .int .i64 u.f1.f1, .int .i64 u.f2]] w fun e w' => ∃ B d, e = .returned (.agg #[.slice B u.f0.length d, .int .i64 u.f1.f0, .int .i64 u.f1.f1, .int .i64 u.f2]) ∧ k65.R 65 w' w.heap.size (fun _ => True) (.slice B u.f0.length d) u.f0 ∧ Below w.heap.size w w' := by
 have h : queue_told.f u.f0 u.f1.f0 u.f1.f1 u.f2 = some (u.f0, u.f1.f0, u.f1.f1, u.f2) := by
  simp [queue_told.f, api_Val.f, hl]
 refine (queue_told.calls A c u.f0 _ _ _ _ _ _ _ w hK hc h).mono ?_
 rintro e w' ⟨v, rfl, hR, hB⟩
 obtain ⟨B, d, rfl⟩ := Kd.R_slice hR
 exact ⟨B, d, rfl, hR, hB⟩
theorem far4 {W : World} {r o : Nat} {v0 v1 v2 v3 v : Value} {a : Addr} (h : W.cell? a = some v) (hne : a.block ≠ r) : ((((W.setCell ⟨r, o, none⟩ v0).setCell ⟨r, o + 1, none⟩ v1).setCell ⟨r, o + 2, none⟩ v2).setCell ⟨r, o + 3, none⟩ v3).cell? a = some v := by
 refine (World.cell?_of_block ?_).trans h
 rw [Below.heap_setCell _ _ _ _ hne, Below.heap_setCell _ _ _ _ hne, Below.heap_setCell _ _ _ _ hne, Below.heap_setCell _ _ _ _ hne]
section
variable {g r l first : Nat} {n room i o : Int} {w : World}
theorem place_nat (A : Option Addr) (j : Nat) (nn : Nat) (h : w.heap[g]? = some (.cells (qcells A l l first n room i o) 56 (0, 0))) (hl : 0 < l) (hl2 : l ≤ 131072) (hf : first < l) (hn : (n : Int) = nn) (hj : nn + j ≤ 131072) (q : Nat) (hq : q = (first + (nn + j)) % l) :
  Calls Try.prog 22 #[.pointer (some ⟨g, 0, none⟩), .int .i64 (n + (j : Int))] w fun e w' => e = .returned (.int .i64 (q : Int)) ∧ ∃ nd, w' = w.drewN nd := by
 subst hn hq
 refine (place_calls (A := A) ((nn : Int) + (j : Int)) h hl (by omega) (by omega)).mono ?_
 rintro e w' ⟨rfl, hw⟩
 exact ⟨by congr 2, hw⟩
/-- The blocks of a queue. -/
def Own (g : Nat) (ro : Option Nat) (b : Nat) : Prop := b = g ∨ some b = ro
/-- What is told of waiting changes: us[j]'s cells are ts[j]. -/
def Tells (w : World) (base : Nat) (ok : Nat → Prop) (us : List S42) (ts : List (List Value)) : Prop := ts.length = us.length ∧ ∀ (j : Nat) (u : S42) (t : List Value), us[j]? = some u → ts[j]? = some t → k42.M w base ok u t
def Pushed (w : World) (g : Nat) (n room i o : Int) (ro : Option Nat) (es : List (List Value)) (us : List S42) (e : Ending) (w' : World) : Prop :=
 e = .returned (.int .i64 0) ∧ ∃ (ro' : Option Nat) (l' first' : Nat) (ts : List (List Value)), l' ≤ 131072 ∧ w'.heap[g]? = some (.cells (qcells (ro'.map fun r => ⟨r, 0, none⟩) l' l' first' (n + us.length) room (i + us.length) o) 56 (0, 0)) ∧
  Ring w' ro' l' first' (es ++ ts) ∧ Tells w' w.heap.size (fun b => ¬ Own g ro' b) us ts ∧ Fr w w' (Own g ro) ∧ (ro' = ro ∨ ∃ r, ro' = some r ∧ w.heap.size ≤ r)
/-- In the midst of Push's rounds: k are put in. -/
def Putting (w : World) (g : Nat) (n room i o : Int) (ro : Option Nat) (es : List (List Value)) (us : List S42) (ro1 : Option Nat) (l first : Nat) (k : Nat) (wr : World) : Prop :=
 ∃ (ts : List (List Value)), wr.heap[g]? = some (.cells (qcells (ro1.map fun r => ⟨r, 0, none⟩) l l first n room i o) 56 (0, 0)) ∧ Ring wr ro1 l first (es ++ ts) ∧ Tells wr w.heap.size (fun b => ¬ Own g ro1 b) (us.take k) ts ∧ Fr w wr (Own g ro)
theorem mod_ne (f a b l : Nat) (hf : f < l) (ha : a < l) (hb : b < l) (h : a ≠ b) : (f + a) % l ≠ (f + b) % l := by
 have hm : ∀ x, x < l → (f + x) % l = if f + x < l then f + x else f + x - l := fun x hx => by
  split
  · exact Nat.mod_eq_of_lt (by assumption)
  · rw [Nat.mod_eq_sub_mod (by omega), Nat.mod_eq_of_lt (by omega)]
 rw [hm a ha, hm b hb]
 split <;> split <;> omega
/-- Four cells put behind those that wait. -/
theorem ring_put {W : World} {r l first q : Nat} {cur : Array Value} {es : List (List Value)} {v0 v1 v2 v3 : Value} (hf : first < l) (hlen : es.length < l) (hq : q = (first + es.length) % l) (hc : W.heap[r]? = some (.cells cur 42 (0, 0))) (hs : cur.size = l * 4) (h1 : ∀ v ∈ cur.toList, v.oneCell' = true)
  (he : ∀ (j : Nat) (e : List Value), es[j]? = some e → e.length = 4 ∧ ∀ t, t < 4 → cur[((first + j) % l) * 4 + t]? = e[t]?) (h0 : v0.oneCell' = true) (h1' : v1.oneCell' = true) (h2 : v2.oneCell' = true) (h3 : v3.oneCell' = true) :
  Ring ((((W.setCell ⟨r, q * 4, none⟩ v0).setCell ⟨r, q * 4 + 1, none⟩ v1).setCell ⟨r, q * 4 + 2, none⟩ v2).setCell ⟨r, q * 4 + 3, none⟩ v3) (some r) l first (es ++ [[v0, v1, v2, v3]]) := by
 have hql : q < l := by rw [hq]; exact Nat.mod_lt _ (by omega)
 refine ⟨by simp; omega, .inr ⟨r, (((cur.setIfInBounds (q * 4) v0).setIfInBounds (q * 4 + 1) v1).setIfInBounds (q * 4 + 2) v2).setIfInBounds (q * 4 + 3) v3, rfl, hf, blk_set (blk_set (blk_set (blk_set hc _ _) _ _) _ _) _ _, by simpa using hs, ?_, ?_⟩⟩
 · intro v hv
   have hset : ∀ (c : Array Value) (n : Nat) (x : Value), (∀ v ∈ c.toList, v.oneCell' = true) → x.oneCell' = true → ∀ v ∈ (c.setIfInBounds n x).toList, v.oneCell' = true := by
    intro c n x hcx hx v hv
    rw [Array.toList_setIfInBounds] at hv
    rcases List.mem_or_eq_of_mem_set hv with hv | rfl
    · exact hcx v hv
    · exact hx
   exact hset _ _ _ (hset _ _ _ (hset _ _ _ (hset _ _ _ h1 h0) h1') h2) h3 v hv
 · intro j e hj
   rcases Nat.lt_or_ge j es.length with hlt | hge
   · rw [List.getElem?_append_left hlt] at hj
     obtain ⟨a, b⟩ := he j e hj
     refine ⟨a, fun t ht => ?_⟩
     have hne := mod_ne first j es.length l hf (by omega) hlen (by omega)
     rw [← hq] at hne
     rw [← b t ht]
     have hx : ∀ (c : Array Value) (n : Nat) (x : Value), ((first + j) % l) * 4 + t ≠ n → (c.setIfInBounds n x)[((first + j) % l) * 4 + t]? = c[((first + j) % l) * 4 + t]? := by
      intro c n x hn
      rw [Array.getElem?_setIfInBounds, if_neg (Ne.symm hn)]
     rw [hx _ _ _ (by omega), hx _ _ _ (by omega), hx _ _ _ (by omega), hx _ _ _ (by omega)]
   · have hj' : j = es.length := by have := (List.getElem?_eq_some_iff.1 hj).1; simp at this; omega
     subst hj'
     have he' : e = [v0, v1, v2, v3] := by simpa using hj.symm
     subst he'
     refine ⟨rfl, fun t ht => ?_⟩
     rw [← hq]
     have hsz : q * 4 + 3 < cur.size := by omega
     have ht' : t = 0 ∨ t = 1 ∨ t = 2 ∨ t = 3 := by omega
     rcases ht' with rfl | rfl | rfl | rfl <;> simp [Array.getElem?_setIfInBounds] <;> omega
theorem Fr.far4 {w W : World} {S : Nat → Prop} {r o : Nat} {v0 v1 v2 v3 : Value} (h : Fr w W S) (hr : r < w.heap.size → S r) : Fr w ((((W.setCell ⟨r, o, none⟩ v0).setCell ⟨r, o + 1, none⟩ v1).setCell ⟨r, o + 2, none⟩ v2).setCell ⟨r, o + 3, none⟩ v3) S :=
 (((h.set hr _).set hr _).set hr _).set hr _
theorem put_done {w wr w3 : World} {g r l first k q : Nat} {n room i o : Int} {ro : Option Nat} {es ts : List (List Value)} {us : List S42} {u : S42} {B : Option Addr} {d : Nat} {cur : Array Value}
  (hgr : wr.heap[g]? = some (.cells (qcells (some ⟨r, 0, none⟩) l l first n room i o) 56 (0, 0))) (hf : first < l) (hlen : (es ++ ts).length < l) (hrc : wr.heap[r]? = some (.cells cur 42 (0, 0))) (hs : cur.size = l * 4) (h1 : ∀ v ∈ cur.toList, v.oneCell' = true)
  (he : ∀ (j : Nat) (e : List Value), (es ++ ts)[j]? = some e → e.length = 4 ∧ ∀ t, t < 4 → cur[((first + j) % l) * 4 + t]? = e[t]?) (hq : q = (first + (es ++ ts).length) % l) (hT : Tells wr w.heap.size (fun b => ¬ Own g (some r) b) (us.take k) ts) (hF : Fr w wr (Own g ro)) (hB : Below wr.heap.size wr w3)
  (hR : k65.R 65 w3 wr.heap.size (fun _ => True) (.slice B u.f0.length d) u.f0) (hu : us[k]? = some u) (ha : some r = ro ∨ ∃ r', some r = some r' ∧ w.heap.size ≤ r') :
  Putting w g n room i o ro es us (some r) l first (k + 1) ((((w3.setCell ⟨r, q * 4, none⟩ (.slice B u.f0.length d)).setCell ⟨r, q * 4 + 1, none⟩ (.int .i64 u.f1.f0)).setCell ⟨r, q * 4 + 2, none⟩ (.int .i64 u.f1.f1)).setCell ⟨r, q * 4 + 3, none⟩ (.int .i64 u.f2)) := by
 have gne : g ≠ r := by
  rintro rfl
  rw [hrc] at hgr
  injection hgr with hgr
  injection hgr with _ hgr
  cases hgr
 have hg3 := blk_below hgr hB
 have hr3 := blk_below hrc hB
 have F3 : Fr wr w3 (Own g (some r)) := Fr.of_below hB _
 have F4 := F3.far4 (r := r) (o := q * 4) (v0 := .slice B u.f0.length d) (v1 := .int .i64 u.f1.f0) (v2 := .int .i64 u.f1.f1) (v3 := .int .i64 u.f2) (fun _ => .inr rfl)
 have hkl : k < us.length := (List.getElem?_eq_some_iff.1 hu).1
 refine ⟨ts ++ [[.slice B u.f0.length d, .int .i64 u.f1.f0, .int .i64 u.f1.f1, .int .i64 u.f2]], ?_, ?_, ?_, ?_⟩
 · exact blk_far (blk_far (blk_far (blk_far hg3 gne _) gne _) gne _) gne _
 · rw [← List.append_assoc]
   exact ring_put hf hlen hq hr3 hs h1 he rfl rfl rfl rfl
 · refine ⟨by have := hT.1; simp at this ⊢; omega, fun j x t hj ht => ?_⟩
   rcases Nat.lt_or_ge j ts.length with hlt | hge
   · rw [List.getElem?_append_left hlt] at ht
     have hjk : j < k := by have := hT.1; simp at this; omega
     refine Kd.M_step (hT.2 j x t ?_ ht) (fun b hb hlt => F4.block b hlt hb)
     rw [List.getElem?_take, if_pos (by omega)] at hj
     rw [List.getElem?_take, if_pos hjk]
     exact hj
   · have hjk : j = ts.length := by have := (List.getElem?_eq_some_iff.1 ht).1; simp at this; omega
     have hk : ts.length = k := by have := hT.1; simp at this; omega
     subst hjk
     have ht' : t = [.slice B u.f0.length d, .int .i64 u.f1.f0, .int .i64 u.f1.f1, .int .i64 u.f2] := by simpa using ht.symm
     have hx : x = u := by
      rw [List.getElem?_take, if_pos (by omega), hk, hu] at hj
      exact (Option.some.inj hj).symm
     subst ht' hx
     refine k42_mkM _ _ _ _ ?_
     have h5 := Kd.R_types (Kd.R_types (Kd.R_lower hR hF.size) hg3 (by decide)) hr3 (by decide)
     refine Kd.R_mono (Kd.R_step h5 (fun b hb _ => ?_)) (fun b hb => ?_)
     · rw [Below.heap_setCell _ _ _ _ hb.2, Below.heap_setCell _ _ _ _ hb.2, Below.heap_setCell _ _ _ _ hb.2, Below.heap_setCell _ _ _ _ hb.2]
     · rintro (h | h)
       · exact hb.1.2 h
       · exact hb.2 (Option.some.inj h)
 · refine (hF.trans (Fr.of_below hB (Own g ro)) (fun _ _ h => h)).far4 (fun hlt => ?_)
   rcases ha with ha | ⟨r', h, hle⟩
   · exact .inr ha
   · injection h with h; omega
set_option maxHeartbeats 4000000 in
set_option maxRecDepth 100000 in
theorem push_calls (ro : Option Nat) (es : List (List Value)) (us : List S42) (A : Option Addr) (c : Nat) (hl : l ≤ 131072) (hn : n = es.length) (hk : n + us.length ≤ 65536) (hi0 : 0 ≤ i) (hi1 : i < 2 ^ 60)
  (h : w.heap[g]? = some (.cells (qcells (ro.map fun r => ⟨r, 0, none⟩) l l first n room i o) 56 (0, 0))) (hR : Ring w ro l first es) (hC : ∀ w', Fr w w' (Own g ro) → Kd.C k42 w' A us.length us) (hc : us.length ≤ c) (hrow : ∀ u ∈ us, u.f0.length < 4398046511104) :
  Calls Try.prog 8 #[.pointer (some ⟨g, 0, none⟩), .slice A us.length c] w (Pushed w g n room i o ro es us) := by
 have h2 : w.cell? ⟨g, 2, none⟩ = some (.int .i64 n) := (blk_cell h 2).trans rfl
 have hn0 : 0 ≤ n := by omega
 have hn1 : n ≤ 65536 := by omega
 have hk1 : (us.length : Int) ≤ 65536 - n := by omega
 have hk2 : (us.length : Int) ≤ 65536 := by omega
 have d1 : decide ((us.length : Int) > 65536 - n) = false := decide_eq_false (by omega)
 have HG := Aside0.mk (grow_calls (n + us.length) ro es hk hl h hR)
 have HR := Aside0.mk hR
 have HC := Aside0.mk hC
 have HW := Aside0.mk hrow
 have HN := Aside0.mk hn
 clear hR hC hrow hn
 go_enter Try.func8, Try.ntmps8
 go_wp2_with (first | (go_at_call 20; refine HG.out.mono ?_; rintro e w1 ⟨rfl, ro1, l1, first1, hN, hl1, hg1, hR1, hF1, ha1⟩; have HG1 := Aside0.mk hg1; have HR1 := Aside0.mk hR1; have HF1 := Aside0.mk hF1; have HA1 := Aside0.mk ha1; clear hg1 hR1 hF1 ha1))
 go_loopg [30] us.length (fun gk vi wr => ∃ k : Nat, vi = .int .i64 k ∧ k ≤ us.length ∧ us.length - k ≤ gk ∧ Putting w g n room i o ro es us ro1 l1 first1 k wr)
 case atStart => exact ⟨0, rfl, Nat.zero_le _, by omega, [], HG1.out, by rw [List.append_nil]; exact HR1.out, ⟨by simp, fun j u t hj => by simp at hj⟩, HF1.out.mono (fun k _ hk => .inl hk)⟩
 case round =>
  obtain ⟨k, rfl, hk3, hgk, ts, hgr, hRr, hTr, hFr⟩ := hrel
  by_cases hlt : k < us.length
  · have hlz : decide ((k : Int) < (us.length : Int)) = true := decide_eq_true (by omega)
    obtain ⟨ad, A0, c0, rfl, e0, e1, e2, e3, hc0, hk0⟩ := at_T42 (HC.out wr hFr) (k : Int) (by omega) (by omega)
    obtain ⟨u, hu⟩ : ∃ u, u = rd_T42 us (k : Int) := ⟨_, rfl⟩
    rw [← hu] at e0 e1 e2 e3 hc0 hk0
    simp only [Int.toNat_natCast] at e0 e1 e2 e3
    have HK0 := Aside0.mk hk0
    have HC0 := Aside0.mk hc0
    have HU := Aside0.mk hu
    have HGR := Aside0.mk hgr
    have HRR := Aside0.mk hRr
    have HTR := Aside0.mk hTr
    have HFR := Aside0.mk hFr
    clear hgr hRr hTr hFr hu hk0 hc0
    go_wp2
    obtain ⟨r, cur, hro, hfl, hrc, hcs, h1c, hes⟩ : ∃ (r : Nat) (cur : Array Value), ro1 = some r ∧ first1 < l1 ∧ wr.heap[r]? = some (.cells cur 42 (0, 0)) ∧ cur.size = l1 * 4 ∧ (∀ v ∈ cur.toList, v.oneCell' = true) ∧ ∀ (j : Nat) (e : List Value), (es ++ ts)[j]? = some e → e.length = 4 ∧ ∀ t, t < 4 → cur[((first1 + j) % l1) * 4 + t]? = e[t]? := by
      obtain ⟨_, ⟨_, h0, _⟩ | h⟩ := HRR.out
      · omega
      · exact h
    subst hro
    have gne : g ≠ r := by
      rintro rfl
      have := HGR.out
      rw [hrc] at this
      injection this with this
      injection this with _ this
      cases this
    have HRC := Aside0.mk hrc
    have HCS := Aside0.mk hcs
    have H1C := Aside0.mk h1c
    have HES := Aside0.mk hes
    obtain ⟨bx, hbx⟩ : ∃ bx, bx = wr.heap.size := ⟨_, rfl⟩
    obtain ⟨w2, hw2⟩ : ∃ w2, w2 = wr.alloc (.cells #[.slice A0 u.f0.length c0, .int .i64 u.f1.f0, .int .i64 u.f1.f1, .int .i64 u.f2] 42) := ⟨_, rfl⟩
    have hB2 : Below wr.heap.size wr w2 := by rw [hw2]; exact below_alloc (Below.refl _ _) _
    have b2 : w2.heap[bx]? = some (.cells #[.slice A0 u.f0.length c0, .int .i64 u.f1.f0, .int .i64 u.f1.f1, .int .i64 u.f2] 42 (0, 0)) := by rw [hw2, hbx]; exact blk_new wr _
    have gbx : g ≠ bx := by rw [hbx]; exact Nat.ne_of_lt (blk_lt HGR.out)
    have bne : bx ≠ r := by rw [hbx]; exact Nat.ne_of_gt (blk_lt hrc)
    have rbx : r ≠ bx := by rw [hbx]; exact Nat.ne_of_lt (blk_lt hrc)
    rw [← hw2, ← hbx]
    have HBX := Aside0.mk hbx
    have G2 := Aside0.mk (blk_below HGR.out hB2)
    have R2 := Aside0.mk (blk_below hrc hB2)
    have K2 := Aside0.mk (Kd.C_below HK0.out hB2)
    have HB2 := Aside0.mk hB2
    clear hbx hw2 hrc hcs h1c hes hB2 e0 e1 e2 e3
    obtain ⟨q, hq⟩ : ∃ q, q = (first1 + (es.length + k)) % l1 := ⟨_, rfl⟩
    have hql : q < l1 := by rw [hq]; exact Nat.mod_lt _ (by omega)
    have hqz : (q : Int) < (l1 : Int) := by omega
    have hq0 : (0 : Int) ≤ (q : Int) := by omega
    have HQ := Aside0.mk hq
    clear hq
    have x0 : w2.cell? ⟨g, 0, none⟩ = some (.slice (some ⟨r, 0, none⟩) l1 l1) := (blk_cell G2.out 0).trans rfl
    have x2 : w2.cell? ⟨g, 2, none⟩ = some (.int .i64 n) := (blk_cell G2.out 2).trans rfl
    have y0 : w2.cell? ⟨bx, 0, none⟩ = some (.slice A0 u.f0.length c0) := (blk_cell b2 0).trans rfl
    have y1 : w2.cell? ⟨bx, 1, none⟩ = some (.int .i64 u.f1.f0) := (blk_cell b2 1).trans rfl
    have y2 : w2.cell? ⟨bx, 2, none⟩ = some (.int .i64 u.f1.f1) := (blk_cell b2 2).trans rfl
    have y3 : w2.cell? ⟨bx, 3, none⟩ = some (.int .i64 u.f2) := (blk_cell b2 3).trans rfl
    have hcz : ∀ t, t < 4 → ∃ v, cur[q * 4 + t]? = some v := fun t ht => ⟨_, Array.getElem?_eq_getElem (by have := HCS.out; omega)⟩
    obtain ⟨v0, hv0⟩ := hcz 0 (by omega)
    obtain ⟨v1, hv1⟩ := hcz 1 (by omega)
    obtain ⟨v2, hv2⟩ := hcz 2 (by omega)
    obtain ⟨v3, hv3⟩ := hcz 3 (by omega)
    have z0 : w2.cell? ⟨r, q * 4, none⟩ = some v0 := (blk_cell R2.out _).trans hv0
    have z1 : w2.cell? ⟨r, q * 4 + 1, none⟩ = some v1 := (blk_cell R2.out _).trans hv1
    have z2 : w2.cell? ⟨r, q * 4 + 2, none⟩ = some v2 := (blk_cell R2.out _).trans hv2
    have z3 : w2.cell? ⟨r, q * 4 + 3, none⟩ = some v3 := (blk_cell R2.out _).trans hv3
    have f0 := blk_frozen R2.out (q * 4)
    have f1 := blk_frozen R2.out (q * 4 + 1)
    have f2 := blk_frozen R2.out (q * 4 + 2)
    have f3 := blk_frozen R2.out (q * 4 + 3)
    clear hcz hv0 hv1 hv2 hv3
    have hpos : 0 < l1 := by omega
    have hnj : es.length + k ≤ 131072 := by have := HN.out; omega
    have hsum : IntKind.i64.wrap (n + (k : Int)) = n + (k : Int) := IntWalk.i64_in _ (by omega)
    have hul : u.f0.length < 4398046511104 := HW.out u (by rw [HU.out]; unfold rd_T42; rw [List.getD_eq_getElem?_getD, List.getElem?_eq_getElem (by simpa using hlt)]; exact List.getElem_mem _)
    go_region_held3 (fun w' => w'.cell? ⟨g, 0, none⟩ = some (.slice (some ⟨r, 0, none⟩) l1 l1) ∧ w'.cell? ⟨g, 2, none⟩ = some (.int .i64 n) ∧ w'.cell? ⟨bx, 0, none⟩ = some (.slice A0 u.f0.length c0) ∧ w'.cell? ⟨bx, 1, none⟩ = some (.int .i64 u.f1.f0) ∧ w'.cell? ⟨bx, 2, none⟩ = some (.int .i64 u.f1.f1) ∧ w'.cell? ⟨bx, 3, none⟩ = some (.int .i64 u.f2)) (first | exact ⟨x0, x2, y0, y1, y2, y3⟩ | exact ⟨pw_cell_below HB3.out x0, pw_cell_below HB3.out x2, pw_cell_below HB3.out y0, pw_cell_below HB3.out y1, pw_cell_below HB3.out y2, pw_cell_below HB3.out y3⟩ | exact ⟨far4 (pw_cell_below HB3.out x0) gne, far4 (pw_cell_below HB3.out x2) gne, far4 (pw_cell_below HB3.out y0) bne, far4 (pw_cell_below HB3.out y1) bne, far4 (pw_cell_below HB3.out y2) bne, far4 (pw_cell_below HB3.out y3) bne⟩) (first | (go_at_call 22; (with_reducible refine (place_nat (room := room) (i := i) (o := o) (some ⟨r, 0, none⟩) k es.length ?hg hpos hl1 hfl HN.out hnj q HQ.out).mono ?_); (case hg => first | exact G2.out | exact G3.out); rintro e w4 ⟨rfl, nd, rfl⟩) | (go_at_call 21; (with_reducible refine (told_up u A0 c0 _ HC0.out ?hk hul).mono ?_); (case hk => exact Kd.C_below K2.out ⟨rfl, rfl, rfl, Nat.le_refl _, fun _ _ => rfl⟩); rintro e w3 ⟨B, d, rfl, hR3, hb3⟩; have HB3 : Aside0 (Below w2.heap.size w2 w3) := ⟨⟨hb3.os, hb3.tape, hb3.output, hb3.size, hb3.block⟩⟩; have G3 := Aside0.mk (blk_below G2.out HB3.out); have RR3 := Aside0.mk (blk_below R2.out HB3.out); have zz0 := pw_cell_below HB3.out z0; have zz1 := pw_cell_below HB3.out z1; have zz2 := pw_cell_below HB3.out z2; have zz3 := pw_cell_below HB3.out z3; have g0 := blk_frozen RR3.out (q * 4); have g1 := blk_frozen RR3.out (q * 4 + 1); have g2 := blk_frozen RR3.out (q * 4 + 2); have g3 := blk_frozen RR3.out (q * 4 + 3); have R3 : Aside0 (k65.R 65 w3 w2.heap.size (fun _ => True) (.slice B u.f0.length d) u.f0) := Aside0.mk hR3; clear hR3 hb3))
    all_goals go_wp2
    all_goals go_roundg (us.length - (k + 1))
    case measure => omega
    case rel =>
      have hts : ts.length = k := by have := HTR.out.1; simp at this; omega
      have hlen : (es ++ ts).length < l1 := by have := HN.out; simp; omega
      refine ⟨k + 1, by go_num, by omega, by omega, put_done HGR.out hfl hlen HRC.out HCS.out H1C.out HES.out ?_ HTR.out HFR.out (below_then HB2.out HB2.out.size HB3.out) (Kd.R_lower R3.out HB2.out.size) ?_ HA1.out⟩
      · rw [HQ.out]; simp [hts]
      · rw [HU.out]; unfold rd_T42; rw [List.getD_eq_getElem?_getD, Int.toNat_natCast, List.getElem?_eq_getElem hlt]; rfl
  · have hlz : decide ((k : Int) < (us.length : Int)) = false := decide_eq_false (by omega)
    have HGR := Aside0.mk hgr
    have HRR := Aside0.mk hRr
    have HTR := Aside0.mk hTr
    have HFR := Aside0.mk hFr
    have hkl : k = us.length := by omega
    subst hkl
    have c2 : wr.cell? ⟨g, 2, none⟩ = some (.int .i64 n) := (blk_cell HGR.out 2).trans rfl
    have c4 : wr.cell? ⟨g, 4, none⟩ = some (.int .i64 i) := (blk_cell HGR.out 4).trans rfl
    have f2 := blk_frozen HGR.out 2
    have f4 := blk_frozen HGR.out 4
    clear hgr hRr hTr hFr
    go_wp2
    go_ret
    refine ⟨rfl, ro1, l1, first1, ts, hl1, ?_, ?_, ?_, ?_, HA1.out⟩
    · refine blk_put (cs := qcells (ro1.map fun r => ⟨r, 0, none⟩) l1 l1 first1 (n + us.length) room i o) ?_ 4 _ rfl
      exact blk_put (cs := qcells (ro1.map fun r => ⟨r, 0, none⟩) l1 l1 first1 n room i o) HGR.out 2 _ rfl
    · refine HRR.out.keep (fun r hr => ?_)
      have hne : r ≠ g := by
        rintro rfl
        obtain ⟨_, ⟨h0, _⟩ | ⟨r', cur, h0, _, hc, _⟩⟩ := HRR.out
        · rw [h0] at hr; cases hr
        · rw [h0] at hr
          injection hr with hr
          subst hr
          have := HGR.out
          rw [hc] at this
          injection this with this
          injection this with _ this
          cases this
      rw [Below.heap_setCell _ _ _ _ hne, Below.heap_setCell _ _ _ _ hne]
    · refine ⟨by have := HTR.out.1; simpa using this, fun j x t hj ht => ?_⟩
      refine Kd.M_step (HTR.out.2 j x t (by simpa using hj) ht) (fun b hb _ => ?_)
      have hne : b ≠ g := fun h => hb (.inl h)
      rw [Below.heap_setCell _ _ _ _ hne, Below.heap_setCell _ _ _ _ hne]
    · exact (HFR.out.set (fun _ => .inl rfl) _).set (fun _ => .inl rfl) _
end
end Go.Proofs.Ytbaboemhjcdpbaa.Q
