/- HoldEmpties: the law's walk. -/
import Derived.Test.YtednmkmhileikaaG10
import Derived.Test.YtednmkmhileikaaOHoldPlaysx
import Derived.Test.YtednmkmhileikaaOHoldPlaysx11
namespace Go.Proofs.Ytednmkmhileikaa.G
open Go.RowKit Go.Proofs.YtednmkmhileikaaW.PrintWords Go.Proofs.YtednmkmhileikaaW.PrintLast Go.Proofs.YtednmkmhileikaaW.PrintMore Go.Proofs.Ytednmkmhileikaa.PHoldPlays
attribute [local go_sem] max2_int min2_int max_two min_two max_three min_three max_four min_four
set_option linter.unusedVariables false
set_option linter.unusedSimpArgs false
/-- us and u make vs; r is told. -/
def AddsTo (us : List S33) (u : S33) (vs : List S33) (r : Int) : Prop := ∃ (f : Nat → Int) (p : Nat), (∀ j x, us[j]? = some x → Ord x u (f j)) ∧ p ≤ us.length ∧ (∀ j, j < p → f j < 0) ∧ (∀ j, p ≤ j → j < us.length → 0 ≤ f j) ∧
 ((¬ (p < us.length ∧ f p = 0) ∧ r = 0 ∧ vs = (if u.f2 = 0 then us else ins p u us)) ∨ ((p < us.length ∧ f p = 0) ∧ ∃ x s, us[p]? = some x ∧ weigh_Add.f x.f2 u.f2 = some (s, r) ∧ vs = (if r ≠ 0 then us else if s = 0 then us.eraseIdx p else us.set p ⟨x.f0, x.f1, s⟩)))
theorem hadd {w : World} {h : Nat} {L : Nat → Prop} {ro : Option Nat} {us vs : List S33} {r : Int} (B : Option Addr) (d : Nat) (u : S33) (hH : Hs w h L ro us) (hR : k61.C w B u.f0.length u.f0) (hd : u.f0.length ≤ d) (hlen : u.f0.length < 4398046511104) (hn : us.length ≤ 1000) (hA : AddsTo us u vs r) :
  Calls Try.prog 10 #[.pointer (some ⟨h, 0, none⟩), .agg #[.slice B u.f0.length d, .int .i64 u.f1.f0, .int .i64 u.f1.f1, .int .i64 u.f2]] w (Added w h L ro vs r) := by
 obtain ⟨f, p, hf, hp, h1, h2, ⟨hno, rfl, rfl⟩ | ⟨hyes, x, s, hx, hs, rfl⟩⟩ := hA
 · exact add_calls B d u f p hH hR hd hlen hn hf hp h1 h2 hno
 · exact add_found B d u f p hH hR hd hlen hn hf hp h1 h2 hyes hx hs
theorem code_calls (a : Int) (w : World) : Calls Try.prog 9 #[.int .i64 a] w fun e w' => e = .returned (.int .i64 a) ∧ ∃ nd, w' = w.drewN nd := by
 refine (runnellaw21_code.calls a a w rfl).mono ?_
 rintro e w' ⟨rfl, ⟨n, rfl⟩⟩
 exact ⟨rfl, n, rfl⟩
/-- The example's two changes, and the first one's opposite. -/
def ua (d : Int) : S33 := ⟨[⟨0, 1, ⟨#[]⟩⟩], ⟨1, 0⟩, d⟩
def ub : S33 := ⟨[⟨0, 2, ⟨#[]⟩⟩], ⟨0, 0⟩, 1⟩
theorem ord_ba (d : Int) : Ord ub (ua d) (-1) := ⟨10, by simp [hold_order.f, ub, ua, moment_Order.f, moment_place_against.f, cmp_Compare_int.f, cmp_isNaN_int.f]⟩
theorem ord_ab (d : Int) : Ord (ua d) ub 1 := ⟨10, by simp [hold_order.f, ub, ua, moment_Order.f, moment_place_against.f, cmp_Compare_int.f, cmp_isNaN_int.f]⟩
theorem w64_0 : wrap64 0 = 0 := by unfold wrap64; omega
theorem w64_1 : wrap64 1 = 1 := by unfold wrap64; omega
theorem w64_m : wrap64 (-9223372036854775807) = -9223372036854775807 := by unfold wrap64; omega
theorem ord_aa (d e : Int) : Ord (ua d) (ua e) 0 := ⟨10, by
 simp [hold_order.f, ua, moment_Order.f, moment_place_against.f, cmp_Compare_int.f, cmp_isNaN_int.f, row_Order.f, api_Val_60.f, api_Val_60.l0, row_Cmp.f, rd_T61, w64_1]⟩
theorem adds1 : AddsTo [] (ua 1) [ua 1] 0 := ⟨fun _ => 0, 0, fun j x h => by simp at h, Nat.le_refl _, fun j h => absurd h (Nat.not_lt_zero _), fun j _ h => absurd h (Nat.not_lt_zero _), .inl ⟨fun h => absurd h.1 (Nat.not_lt_zero _), rfl, by rw [if_neg (by decide)]; rfl⟩⟩
theorem adds2 : AddsTo [ua 1] ub [ub, ua 1] 0 := ⟨fun _ => 1, 0, fun j x h => by
  match j, h with
  | 0, h => cases h; exact ord_ab 1, Nat.zero_le _, fun j h => absurd h (Nat.not_lt_zero _), fun j _ h => (show (0 : Int) ≤ 1 by decide), .inl ⟨fun h => absurd h.2 (by decide), rfl, by rw [if_neg (by decide)]; rfl⟩⟩
theorem adds3 : AddsTo [ub, ua 1] (ua (-1)) [ub] 0 := ⟨fun j => if j = 0 then -1 else 0, 1, fun j x h => by
  match j, h with
  | 0, h => cases h; exact ord_ba (-1)
  | 1, h => cases h; exact ord_aa 1 (-1), by decide, fun j h => by show (if j = 0 then (-1 : Int) else 0) < 0; rw [if_pos (by omega)]; decide, fun j h _ => by show (0 : Int) ≤ (if j = 0 then -1 else 0); rw [if_neg (by omega)]; exact Int.le_refl _, .inr ⟨⟨by decide, by decide⟩, ua 1, 0, rfl, by simp [weigh_Add.f, ua, w64_0, w64_m], by rw [if_neg (by decide), if_pos rfl]; rfl⟩⟩
theorem same_b (w : World) (A B : Option Addr) (c d : Nat) (hA : k33.C w A 1 [ub]) (hc : 1 ≤ c) (hB : k33.C w B 1 [ub]) (hd : 1 ≤ d) (hs : ∃ k, runnelref07_Same.f k [ub] [ub] = some true) : Calls Try.prog 17 #[.slice A 1 c, .slice B 1 d] w fun e w' => e = .returned (.bool true) ∧ Below w.heap.size w w' := by
 obtain ⟨k, hs⟩ := hs
 exact runnelref07_Same.calls k A c [ub] B d [ub] true w hA hc hB hd hs
/-- A row of one change that lies in one block. -/
theorem C33_of_block {w : World} {b : Nat} {cs : List Value} {x : S33} (h : w.heap[b]? = some (.cells cs.toArray 33 (0, 0))) (hK : k33.K w x cs) : Kd.C k33 w (some ⟨b, 0, none⟩) 1 [x] := by
 refine ⟨rfl, by decide, fun _ => ⟨_, rfl, fun j p hj => ?_⟩⟩
 have hj0 : j = 0 := by have := (List.getElem?_eq_some_iff.1 hj).1; simp at this; omega
 subst hj0
 have hp : p = x := by simpa using hj.symm
 subst hp
 refine ⟨cs, k33.K_len hK, hK, fun i u hu => ?_⟩
 have e : (⟨b, 0, none⟩ : Addr).add (0 * k33.sz + i) = ⟨b, i, none⟩ := by rw [Nat.zero_mul, Nat.zero_add]; unfold Addr.add; split <;> simp_all
 rw [e, blk_cell h]
 simpa using hu
/-- A row of one number. -/
theorem C61_one {w : World} {b : Nat} {n : Int} (h : w.heap[b]? = some (.cells #[.int .i64 0, .int .i64 n, .string ⟨#[]⟩] 61 (0, 0))) : Kd.C k61 w (some ⟨b, 0, none⟩) 1 [⟨0, n, ⟨#[]⟩⟩] := by
 refine ⟨rfl, by decide, fun _ => ⟨_, rfl, fun j p hj => ?_⟩⟩
 have hj0 : j = 0 := by have := (List.getElem?_eq_some_iff.1 hj).1; simp at this; omega
 subst hj0
 have hp : p = ⟨0, n, ⟨#[]⟩⟩ := by simpa using hj.symm
 subst hp
 refine ⟨[.int .i64 0, .int .i64 n, .string ⟨#[]⟩], rfl, k61_mk w ⟨0, n, ⟨#[]⟩⟩, fun i u hu => ?_⟩
 have e : (⟨b, 0, none⟩ : Addr).add (0 * k61.sz + i) = ⟨b, i, none⟩ := by rw [Nat.zero_mul, Nat.zero_add]; unfold Addr.add; split <;> simp_all
 rw [e, blk_cell h]
 simpa using hu
theorem hadd_a {w : World} {h : Nat} {L : Nat → Prop} {ro : Option Nat} {us vs : List S33} (B : Option Addr) (d : Nat) (dd : Int) (hH : Hs w h L ro us) (hR : k61.C w B 1 [⟨0, 1, ⟨#[]⟩⟩]) (hd : 1 ≤ d) (hn : us.length ≤ 1000) (hA : AddsTo us (ua dd) vs 0) :
  Calls Try.prog 10 #[.pointer (some ⟨h, 0, none⟩), .agg #[.slice B 1 d, .int .i64 1, .int .i64 0, .int .i64 dd]] w (Added w h L ro vs 0) := hadd B d (ua dd) hH hR hd (by show 1 < 4398046511104; decide) hn hA
theorem hadd_b {w : World} {h : Nat} {L : Nat → Prop} {ro : Option Nat} {us vs : List S33} (B : Option Addr) (d : Nat) (hH : Hs w h L ro us) (hR : k61.C w B 1 [⟨0, 2, ⟨#[]⟩⟩]) (hd : 1 ≤ d) (hn : us.length ≤ 1000) (hA : AddsTo us ub vs 0) :
  Calls Try.prog 10 #[.pointer (some ⟨h, 0, none⟩), .agg #[.slice B 1 d, .int .i64 0, .int .i64 0, .int .i64 1]] w (Added w h L ro vs 0) := hadd B d ub hH hR hd (by show 1 < 4398046511104; decide) hn hA
/-- Not a hold's. -/
def Off (h : Nat) (ro : Option Nat) (k : Nat) : Prop := ¬ Own h ro k
theorem off_next {w w' : World} {h : Nat} {ro ro' : Option Nat} (hF : Fr w w' (Own h ro)) (ha : ro' = ro ∨ ∃ q, ro' = some q ∧ w.heap.size ≤ q) {k : Nat} {o : Obj} (hb : w.heap[k]? = some o) (ho : Off h ro k) : w'.heap[k]? = some o ∧ Off h ro' k := by
 refine ⟨hF.keep hb ho, ?_⟩
 rintro (h1 | h1)
 · exact ho (.inl h1)
 · rcases ha with rfl | ⟨q, rfl, hq⟩
   · exact ho (.inr h1)
   · injection h1 with h1
     have := blk_lt hb
     omega
theorem Hs.raise {w : World} {h : Nat} {L : Nat → Prop} (hH : Hs w h L none []) (K : Nat → Prop) (hK : ∀ b, w.heap.size ≤ b → K b) : Hs w h K none [] := by
 obtain ⟨hL, A, c, hb, hr, hN⟩ := hH
 obtain ⟨_, rows, _, ⟨_, inner, ⟨_, ⟨h0, _⟩ | ⟨g, cap, cur, hv, _⟩⟩, _⟩, _⟩ := hN
 · rw [h0] at hb
   exact ⟨hK, none, 0, hb, rfl, Kd.N_nil _ _ _ _ _⟩
 · rw [hv] at hr
   cases hr
theorem Hs.off {w : World} {h : Nat} {L : Nat → Prop} {ro : Option Nat} {us : List S33} (hH : Hs w h L ro us) {p : Addr} (ho : Off h ro p.block) (hp : ¬ L p.block) (v : Value) : Hs (w.setCell p v) h L ro us := by
 obtain ⟨hL, A, c, hb, hr, hN⟩ := hH
 refine ⟨fun b hb => hL b (by rw [setCell_size] at hb; exact hb), A, c, (Below.heap_setCell _ _ _ _ (fun e => ho (.inl e.symm))).trans hb, hr, ?_⟩
 exact Kd.N_step hN (fun k hk _ => Below.heap_setCell _ _ _ _ (fun e => hp (by rw [e] at hk; exact hk.2)))
theorem C24_one {w : World} {b : Nat} {m n : Int} (h : w.heap[b]? = some (.cells #[.int .i64 m, .int .i64 n] 24 (0, 0))) : Kd.C k24 w (some ⟨b, 0, none⟩) 1 [⟨m, n⟩] := by
 refine ⟨rfl, by decide, fun _ => ⟨_, rfl, fun j p hj => ?_⟩⟩
 have hj0 : j = 0 := by have := (List.getElem?_eq_some_iff.1 hj).1; simp at this; omega
 subst hj0
 have hp : p = ⟨m, n⟩ := by simpa using hj.symm
 subst hp
 refine ⟨[.int .i64 m, .int .i64 n], rfl, k24_mk w ⟨m, n⟩, fun i u hu => ?_⟩
 have e : (⟨b, 0, none⟩ : Addr).add (0 * k24.sz + i) = ⟨b, i, none⟩ := by rw [Nat.zero_mul, Nat.zero_add]; unfold Addr.add; split <;> simp_all
 rw [e, blk_cell h]
 simpa using hu
theorem next_b {w : World} {h : Nat} {L : Nat → Prop} {ro : Option Nat} {b : Nat} (hH : Hs w h L ro [ub]) (hb : w.heap[b]? = some (.cells #[.int .i64 1, .int .i64 0] 24 (0, 0))) : Calls Try.prog 11 #[.pointer (some ⟨h, 0, none⟩), .slice (some ⟨b, 0, none⟩) 1 1] w (NextSome w h L ro ub []) :=
 next_calls (some ⟨b, 0, none⟩) 1 [⟨1, 0⟩] hH (by decide) (C24_one hb) (Nat.le_refl _) (by show 1 < 4398046511104; decide) (some 0) (by decide) _ (.inr ⟨0, ub, rfl, rfl, rfl⟩)
theorem up_K (w : World) (A : Option Addr) (c : Nat) (u : S33) (hC : k61.C w A u.f0.length u.f0) (hc : u.f0.length ≤ c) : k33.K w u [.slice A u.f0.length c, .int .i64 u.f1.f0, .int .i64 u.f1.f1, .int .i64 u.f2] := k33_mk w u hc hC
theorem Off.lt {w : World} {h : Nat} {L : Nat → Prop} {ro : Option Nat} {us : List S33} (hH : Hs w h L ro us) {k : Nat} (hk : w.heap.size ≤ k) : Off h ro k := fun ho => by have := hH.lt k ho; omega
theorem same_ub : ∃ k, runnelref07_Same.f k [ub] [ub] = some true := by
 have ho : runnelref07_Order.f 20 ub.f0 ub.f1.f0 ub.f1.f1 ub.f2 ub.f0 ub.f1.f0 ub.f1.f1 ub.f2 = some 0 := by
  simp [runnelref07_Order.f, ub, runnelref03_Order.f, runnelref03_Order.l0, runnelref03_Order.j1, runnelref03_Cmp.f, runnelref03_Cmp.j0, runnelref04_Order.f, rd_T61, w64_0, w64_1]
 refine ⟨21, ?_⟩
 have hr : rd_T33 [ub] 0 = ub := rfl
 unfold runnelref07_Same.f
 rw [if_pos rfl]
 simp only [runnelref07_Same.l0]
 rw [if_pos (by simp), if_pos (by omega), if_pos (by simp), hr, ho]
 simp [w64_1]
/-- From w0 on: what lay there lies there; a hold's blocks are new. -/
def Lay (w0 w : World) (h : Nat) (ro : Option Nat) : Prop := Below w0.heap.size w0 w ∧ ∀ k, Own h ro k → w0.heap.size ≤ k
theorem Lay.step {w0 w w' : World} {h : Nat} {ro : Option Nat} (hL : Lay w0 w h ro) (hb : Below w.heap.size w w') : Lay w0 w' h ro := ⟨below_then hL.1 hL.1.size hb, hL.2⟩
theorem Lay.next {w0 w w' : World} {h : Nat} {ro ro' : Option Nat} (hL : Lay w0 w h ro) (hF : Fr w w' (Own h ro)) (ha : ro' = ro ∨ ∃ q, ro' = some q ∧ w.heap.size ≤ q) : Lay w0 w' h ro' := by
 refine ⟨Fr.below hL.1 hF hL.1.size hL.2, fun k hk => ?_⟩
 rcases hk with rfl | hk
 · exact hL.2 _ (.inl rfl)
 · rcases ha with rfl | ⟨q, rfl, hq⟩
   · exact hL.2 _ (.inr hk)
   · injection hk with hk
     have := hL.1.size
     omega
theorem Lay.drew {w0 w : World} {h : Nat} {ro : Option Nat} (hL : Lay w0 w h ro) : Lay w0 w.drew h ro := ⟨below_drew hL.1, hL.2⟩
theorem Lay.drewN {w0 w : World} {h : Nat} {ro : Option Nat} (hL : Lay w0 w h ro) (n : Nat) : Lay w0 (w.drewN n) h ro := ⟨pw_below_drewN hL.1 n, hL.2⟩
theorem Lay.first {w0 w : World} {h : Nat} (hb : Below w0.heap.size w0 w) (hh : w0.heap.size ≤ h) : Lay w0 w h none := ⟨hb, fun k hk => by
 rcases hk with rfl | hk
 · exact hh
 · cases hk⟩
def LiveTrue (w : World) (e : Ending) (w' : World) : Prop := e = .returned (.bool true) ∧ Below w.heap.size w w'
set_option maxHeartbeats 4000000 in
set_option maxRecDepth 100000 in
theorem live_calls (w : World) : Calls Try.prog 7 #[] w (LiveTrue w) := by
 go_enter Try.func7, Try.ntmps7
 go_wp2_with fail
 refine (hnew _).mono ?_
 rintro e w1 ⟨h, rfl, hH, hg, hB⟩
 have H1 := Aside0.mk hH
 have G1 := Aside0.mk hg
 have B1 := Aside0.mk hB
 clear hH hg hB
 go_wp2_with fail
 obtain ⟨r1, hr1⟩ : ∃ r, r = w1.heap.size := ⟨_, rfl⟩
 obtain ⟨b1, hb1⟩ : ∃ r, r = w1.heap.size + 1 := ⟨_, rfl⟩
 obtain ⟨r2, hr2⟩ : ∃ r, r = w1.heap.size + 1 + 1 := ⟨_, rfl⟩
 obtain ⟨b2, hb2⟩ : ∃ r, r = w1.heap.size + 1 + 1 + 1 := ⟨_, rfl⟩
 rw [← hb2, ← hr2, ← hb1, ← hr1]
 obtain ⟨wa, hwa⟩ : ∃ w', w' = w1.alloc (.cells #[.int .i64 0, .int .i64 1, .string ⟨#[]⟩] 61) := ⟨_, rfl⟩
 rw [← hwa]
 obtain ⟨wb, hwb⟩ : ∃ w', w' = wa.alloc (.cells #[.slice (some ⟨r1, 0, none⟩) 1 1, .int .i64 1, .int .i64 0, .int .i64 1] 33) := ⟨_, rfl⟩
 rw [← hwb]
 obtain ⟨wc, hwc⟩ : ∃ w', w' = wb.alloc (.cells #[.int .i64 0, .int .i64 2, .string ⟨#[]⟩] 61) := ⟨_, rfl⟩
 rw [← hwc]
 obtain ⟨w5, hw5⟩ : ∃ w', w' = wc.alloc (.cells #[.slice (some ⟨r2, 0, none⟩) 1 1, .int .i64 0, .int .i64 0, .int .i64 1] 33) := ⟨_, rfl⟩
 rw [← hw5]
 have sa : wa.heap.size = w1.heap.size + 1 := by rw [hwa, World.size_alloc]
 have sb : wb.heap.size = w1.heap.size + 1 + 1 := by rw [hwb, World.size_alloc, sa]
 have sc : wc.heap.size = w1.heap.size + 1 + 1 + 1 := by rw [hwc, World.size_alloc, sb]
 have ta : Below w1.heap.size w1 wa := by rw [hwa]; exact below_alloc (Below.refl _ _) _
 have tb : Below wa.heap.size wa wb := by rw [hwb]; exact below_alloc (Below.refl _ _) _
 have tc : Below wb.heap.size wb wc := by rw [hwc]; exact below_alloc (Below.refl _ _) _
 have td : Below wc.heap.size wc w5 := by rw [hw5]; exact below_alloc (Below.refl _ _) _
 have R1 := Aside0.mk (show w5.heap[r1]? = some (.cells #[.int .i64 0, .int .i64 1, .string ⟨#[]⟩] 61 (0, 0)) from blk_below (blk_below (blk_below (by rw [hwa, hr1]; exact blk_new w1 _) tb) tc) td)
 have X1 := Aside0.mk (show w5.heap[b1]? = some (.cells #[.slice (some ⟨r1, 0, none⟩) 1 1, .int .i64 1, .int .i64 0, .int .i64 1] 33 (0, 0)) from blk_below (blk_below (by rw [hwb, hb1, ← sa]; exact blk_new wa _) tc) td)
 have R2 := Aside0.mk (show w5.heap[r2]? = some (.cells #[.int .i64 0, .int .i64 2, .string ⟨#[]⟩] 61 (0, 0)) from blk_below (by rw [hwc, hr2, ← sb]; exact blk_new wb _) td)
 have X2 := Aside0.mk (show w5.heap[b2]? = some (.cells #[.slice (some ⟨r2, 0, none⟩) 1 1, .int .i64 0, .int .i64 0, .int .i64 1] 33 (0, 0)) by rw [hw5, hb2, ← sc]; exact blk_new wc _)
 have t5 : Below w1.heap.size w1 w5 := below_then (below_then (below_then ta ta.size tb) (by omega) tc) (by omega) td
 have H5 := Aside0.mk ((H1.out.below t5).raise (fun b => w5.heap.size ≤ b) (fun b hb => hb))
 have bl5 := Aside0.mk (show b1 < w5.heap.size from blk_lt X1.out)
 have L5 := Aside0.mk ((Lay.first B1.out G1.out).step t5)
 have hlt : ∀ k, w1.heap.size ≤ k → Off h none k := fun k hk ho => by have := H1.out.lt k ho; omega
 have N := Aside0.mk (And.intro (hlt r1 (by omega)) (And.intro (hlt b1 (by omega)) (And.intro (hlt r2 (by omega)) (hlt b2 (by omega)))))
 have D := Aside0.mk (show w.heap.size ≤ r1 ∧ w.heap.size ≤ b1 ∧ w.heap.size ≤ r2 ∧ w.heap.size ≤ b2 ∧ b1 ≠ b2 from by have := B1.out.size; omega)
 clear hwa hwb hwc hw5 sa sb sc ta tb tc td t5 hlt hr1 hb1 hr2 hb2 H1 B1
 have x0 : w5.cell? ⟨b1, 0, none⟩ = some (.slice (some ⟨r1, 0, none⟩) 1 1) := (blk_cell X1.out 0).trans rfl
 have x1 : w5.cell? ⟨b1, 1, none⟩ = some (.int .i64 1) := (blk_cell X1.out 1).trans rfl
 have x2 : w5.cell? ⟨b1, 2, none⟩ = some (.int .i64 0) := (blk_cell X1.out 2).trans rfl
 have x3 : w5.cell? ⟨b1, 3, none⟩ = some (.int .i64 1) := (blk_cell X1.out 3).trans rfl
 have y0 : w5.cell? ⟨b2, 0, none⟩ = some (.slice (some ⟨r2, 0, none⟩) 1 1) := (blk_cell X2.out 0).trans rfl
 have y1 : w5.cell? ⟨b2, 1, none⟩ = some (.int .i64 0) := (blk_cell X2.out 1).trans rfl
 have y2 : w5.cell? ⟨b2, 2, none⟩ = some (.int .i64 0) := (blk_cell X2.out 2).trans rfl
 have y3 : w5.cell? ⟨b2, 3, none⟩ = some (.int .i64 1) := (blk_cell X2.out 3).trans rfl
 go_region_held3 (fun w' => w'.cell? ⟨b1, 0, none⟩ = some (.slice (some ⟨r1, 0, none⟩) 1 1) ∧ w'.cell? ⟨b1, 1, none⟩ = some (.int .i64 1) ∧ w'.cell? ⟨b1, 2, none⟩ = some (.int .i64 0) ∧ w'.cell? ⟨b1, 3, none⟩ = some (.int .i64 1) ∧ w'.cell? ⟨b2, 0, none⟩ = some (.slice (some ⟨r2, 0, none⟩) 1 1) ∧ w'.cell? ⟨b2, 1, none⟩ = some (.int .i64 0) ∧ w'.cell? ⟨b2, 2, none⟩ = some (.int .i64 0) ∧ w'.cell? ⟨b2, 3, none⟩ = some (.int .i64 1)) (first | exact ⟨x0, x1, x2, x3, y0, y1, y2, y3⟩ | exact ⟨(blk_cell X1b.out 0).trans rfl, (blk_cell X1b.out 1).trans rfl, (blk_cell X1b.out 2).trans rfl, (blk_cell X1b.out 3).trans rfl, (blk_cell X2b.out 0).trans rfl, (blk_cell X2b.out 1).trans rfl, (blk_cell X2b.out 2).trans rfl, (blk_cell X2b.out 3).trans rfl⟩ | exact ⟨(blk_cell X1a.out 0).trans rfl, (blk_cell X1a.out 1).trans rfl, (blk_cell X1a.out 2).trans rfl, (blk_cell X1a.out 3).trans rfl, (blk_cell X2a.out 0).trans rfl, (blk_cell X2a.out 1).trans rfl, (blk_cell X2a.out 2).trans rfl, (blk_cell X2a.out 3).trans rfl⟩) (first | (go_at_call 10; (with_reducible refine (hadd_a (some ⟨r1, 0, none⟩) 1 1 (H5.out.drew) (C61_one (blk_drew R1.out)) (Nat.le_refl _) (by decide) adds1).mono ?_); rintro e w6 ⟨rfl, ro1, hH6, hF6, ha6⟩; have H6 := Aside0.mk hH6; have F6 := Aside0.mk hF6; have R1a := Aside0.mk (off_next hF6 ha6 (blk_drew R1.out) N.out.1).1; have X1a := Aside0.mk (off_next hF6 ha6 (blk_drew X1.out) N.out.2.1).1; have R2a := Aside0.mk (off_next hF6 ha6 (blk_drew R2.out) N.out.2.2.1).1; have X2a := Aside0.mk (off_next hF6 ha6 (blk_drew X2.out) N.out.2.2.2).1; have N6 := Aside0.mk (And.intro (off_next hF6 ha6 (blk_drew R1.out) N.out.1).2 (And.intro (off_next hF6 ha6 (blk_drew X1.out) N.out.2.1).2 (And.intro (off_next hF6 ha6 (blk_drew R2.out) N.out.2.2.1).2 (off_next hF6 ha6 (blk_drew X2.out) N.out.2.2.2).2))); have A6 := Aside0.mk ha6; clear hH6 hF6 ha6) | (go_at_call 10; (with_reducible refine (hadd_b (some ⟨r2, 0, none⟩) 1 H6.out (C61_one R2a.out) (Nat.le_refl _) (by decide) adds2).mono ?_); rintro e w7 ⟨rfl, ro2, hH7, hF7, ha7⟩; have H7 := Aside0.mk hH7; have F7 := Aside0.mk hF7; have R1b := Aside0.mk (off_next hF7 ha7 R1a.out N6.out.1).1; have X1b := Aside0.mk (off_next hF7 ha7 X1a.out N6.out.2.1).1; have R2b := Aside0.mk (off_next hF7 ha7 R2a.out N6.out.2.2.1).1; have X2b := Aside0.mk (off_next hF7 ha7 X2a.out N6.out.2.2.2).1; have N7 := Aside0.mk (And.intro (off_next hF7 ha7 R1a.out N6.out.1).2 (And.intro (off_next hF7 ha7 X1a.out N6.out.2.1).2 (And.intro (off_next hF7 ha7 R2a.out N6.out.2.2.1).2 (off_next hF7 ha7 X2a.out N6.out.2.2.2).2))); have A7 := Aside0.mk ha7; clear hH7 hF7 ha7))
 have L7 := Aside0.mk ((Lay.drew L5.out).next F6.out A6.out |>.next F7.out A7.out)
 clear x0 x1 x2 x3 y0 y1 y2 y3 H6 F6 F7 R1a X1a R2a X2a A6 A7 H5 L5 R1 X1 R2 X2 N N6
 have x0 : w7.cell? ⟨b1, 0, none⟩ = some (.slice (some ⟨r1, 0, none⟩) 1 1) := (blk_cell X1b.out 0).trans rfl
 have x1 : w7.cell? ⟨b1, 1, none⟩ = some (.int .i64 1) := (blk_cell X1b.out 1).trans rfl
 have x2 : w7.cell? ⟨b1, 2, none⟩ = some (.int .i64 0) := (blk_cell X1b.out 2).trans rfl
 have x3 : w7.cell? ⟨b1, 3, none⟩ = some (.int .i64 1) := (blk_cell X1b.out 3).trans rfl
 have fx3 := blk_frozen X1b.out 3
 go_wp2_with fail
 obtain ⟨w8, hw8⟩ : ∃ w8, w8 = w7.setCell ⟨b1, 3, none⟩ (.int .i64 (-1)) := ⟨_, rfl⟩
 rw [← hw8]
 have H8 := Aside0.mk (show Hs w8 h (fun b => w5.heap.size ≤ b) ro2 [ub, ua 1] by rw [hw8]; exact H7.out.off N7.out.2.1 (Nat.not_le.2 bl5.out) _)
 have hne1 : r1 ≠ b1 := blk_ne R1b.out X1b.out (by decide)
 have hne2 : r2 ≠ b1 := blk_ne R2b.out X1b.out (by decide)
 have R18 := Aside0.mk (show w8.heap[r1]? = some (.cells #[.int .i64 0, .int .i64 1, .string ⟨#[]⟩] 61 (0, 0)) by rw [hw8]; exact blk_far R1b.out hne1 _)
 have R28 := Aside0.mk (show w8.heap[r2]? = some (.cells #[.int .i64 0, .int .i64 2, .string ⟨#[]⟩] 61 (0, 0)) by rw [hw8]; exact blk_far R2b.out hne2 _)
 have X28 := Aside0.mk (show w8.heap[b2]? = some (.cells #[.slice (some ⟨r2, 0, none⟩) 1 1, .int .i64 0, .int .i64 0, .int .i64 1] 33 (0, 0)) by rw [hw8]; exact blk_far X2b.out (Ne.symm D.out.2.2.2.2) _)
 have L8 := Aside0.mk (show Lay w w8 h ro2 by rw [hw8]; exact ⟨L7.out.1.setCell (p := ⟨b1, 3, none⟩) D.out.2.1 _, L7.out.2⟩)
 clear hw8 x0 x1 x2 x3 fx3 H7 L7 R1b X1b R2b X2b
 refine (hadd_a (some ⟨r1, 0, none⟩) 1 (-1) H8.out (C61_one R18.out) (Nat.le_refl _) (by decide) adds3).mono ?_
 rintro e w9 ⟨rfl, ro3, hH9, hF9, ha9⟩
 have H9 := Aside0.mk hH9
 have R29 := Aside0.mk (off_next hF9 ha9 R28.out N7.out.2.2.1)
 have X29 := Aside0.mk (off_next hF9 ha9 X28.out N7.out.2.2.2)
 have L9 := Aside0.mk (L8.out.next hF9 ha9)
 clear hH9 hF9 ha9 H8 R18 R28 X28 L8 N7
 go_wp2_with fail
 refine (hlen H9.out).mono ?_
 rintro e w10 ⟨rfl, nd, hw10⟩
 have H10 := Aside0.mk (show Hs w10 h (fun b => w5.heap.size ≤ b) ro3 [ub] by rw [hw10]; exact H9.out.drewN nd)
 have R210 := Aside0.mk (show w10.heap[r2]? = some (.cells #[.int .i64 0, .int .i64 2, .string ⟨#[]⟩] 61 (0, 0)) by rw [hw10]; exact R29.out.1)
 have X210 := Aside0.mk (show w10.heap[b2]? = some (.cells #[.slice (some ⟨r2, 0, none⟩) 1 1, .int .i64 0, .int .i64 0, .int .i64 1] 33 (0, 0)) by rw [hw10]; exact X29.out.1)
 have L10 := Aside0.mk (show Lay w w10 h ro3 by rw [hw10]; exact L9.out.drewN nd)
 have O2 := Aside0.mk (And.intro R29.out.2 X29.out.2)
 clear hw10 H9 R29 X29 L9
 go_wp2_with fail
 obtain ⟨b3, hb3⟩ : ∃ b, b = w10.heap.size := ⟨_, rfl⟩
 obtain ⟨w11, hw11⟩ : ∃ w', w' = w10.alloc (.cells #[.int .i64 1, .int .i64 0] 24) := ⟨_, rfl⟩
 rw [← hw11, ← hb3]
 have t11 : Below w10.heap.size w10 w11 := by rw [hw11]; exact below_alloc (Below.refl _ _) _
 have X311 : w11.heap[b3]? = some (.cells #[.int .i64 1, .int .i64 0] 24 (0, 0)) := by rw [hw11, hb3]; exact blk_new w10 _
 have L11 := Aside0.mk (L10.out.step t11)
 have R211 := Aside0.mk (blk_below R210.out t11)
 have X211 := Aside0.mk (blk_below X210.out t11)
 refine (next_b (H10.out.below t11) X311).mono ?_
 rintro e w12 ⟨D1, d1, rfl, hd1, hF1, hH12, hF12⟩
 have H12 := Aside0.mk hH12
 have L12 := Aside0.mk (L11.out.next hF12 (.inl rfl))
 have R212 := Aside0.mk (hF12.keep R211.out O2.out.1)
 have X212 := Aside0.mk (hF12.keep X211.out O2.out.2)
 have C12 := Aside0.mk (Kd.F_now hF1)
 replace hd1 : Aside0 (1 ≤ d1) := ⟨hd1⟩
 clear hw11 hb3 t11 X311 hF1 hH12 hF12 H10 R210 X210 L10 L11 R211 X211
 obtain ⟨w13, hw13⟩ : ∃ w', w' = w12.alloc (.cells #[.slice D1 ub.f0.length d1, .int .i64 ub.f1.f0, .int .i64 ub.f1.f1, .int .i64 ub.f2] 33) := ⟨_, rfl⟩
 obtain ⟨b4, hb4⟩ : ∃ b, b = w12.heap.size := ⟨_, rfl⟩
 have t13 : Below w12.heap.size w12 w13 := by rw [hw13]; exact below_alloc (Below.refl _ _) _
 have X413 := Aside0.mk (show w13.heap[b4]? = some (.cells #[.slice D1 1 d1, .int .i64 0, .int .i64 0, .int .i64 1] 33 (0, 0)) by rw [hw13, hb4]; exact blk_new w12 _)
 have H13 := Aside0.mk (H12.out.below t13)
 have L13 := Aside0.mk (L12.out.step t13)
 have R213 := Aside0.mk (blk_below R212.out t13)
 have X213 := Aside0.mk (blk_below X212.out t13)
 have C13 := Aside0.mk (show k61.C w13 D1 1 [⟨0, 2, ⟨#[]⟩⟩] from Kd.C_below C12.out t13)
 clear t13 H12 L12 R212 X212 C12
 go_wp2_with fail
 rw [← hw13, ← hb4]
 clear hw13 hb4
 refine (code_calls _ _).mono ?_
 rintro e w14 ⟨rfl, n1, hw14⟩
 go_wp2_with fail
 refine (code_calls _ _).mono ?_
 rintro e w15 ⟨rfl, n2, hw15⟩
 go_wp2_with fail
 refine (code_calls _ _).mono ?_
 rintro e w16 ⟨rfl, n3, hw16⟩
 have hw : w16 = (w13.drewN (n1 + n2)).drewN n3 := hw16
 have H16 := Aside0.mk (show Hs w16 h (fun b => w5.heap.size ≤ b) ro3 [] by rw [hw]; exact (H13.out.drewN _).drewN _)
 have L16 := Aside0.mk (show Lay w w16 h ro3 by rw [hw]; exact (L13.out.drewN _).drewN _)
 have R216 := Aside0.mk (show w16.heap[r2]? = some (.cells #[.int .i64 0, .int .i64 2, .string ⟨#[]⟩] 61 (0, 0)) by rw [hw]; exact R213.out)
 have X216 := Aside0.mk (show w16.heap[b2]? = some (.cells #[.slice (some ⟨r2, 0, none⟩) 1 1, .int .i64 0, .int .i64 0, .int .i64 1] 33 (0, 0)) by rw [hw]; exact X213.out)
 have X416 := Aside0.mk (show w16.heap[b4]? = some (.cells #[.slice D1 1 d1, .int .i64 0, .int .i64 0, .int .i64 1] 33 (0, 0)) by rw [hw]; exact X413.out)
 have C16 := Aside0.mk (show k61.C w16 D1 1 [⟨0, 2, ⟨#[]⟩⟩] by rw [hw]; exact Kd.C_below C13.out ⟨rfl, rfl, rfl, Nat.le_refl _, fun _ _ => rfl⟩)
 clear hw hw14 hw15 hw16 H13 L13 R213 X213 X413 C13
 have x0 : w16.cell? ⟨b4, 0, none⟩ = some (.slice D1 1 d1) := (blk_cell X416.out 0).trans rfl
 have x1 : w16.cell? ⟨b4, 1, none⟩ = some (.int .i64 0) := (blk_cell X416.out 1).trans rfl
 have x2 : w16.cell? ⟨b4, 2, none⟩ = some (.int .i64 0) := (blk_cell X416.out 2).trans rfl
 have x3 : w16.cell? ⟨b4, 3, none⟩ = some (.int .i64 1) := (blk_cell X416.out 3).trans rfl
 have y0 : (w16.alloc (.cells #[.slice D1 1 d1, .int .i64 0, .int .i64 0, .int .i64 1] 33)).cell? ⟨b2, 0, none⟩ = some (.slice (some ⟨r2, 0, none⟩) 1 1) := (blk_cell (blk_alloc X216.out _) 0).trans rfl
 have y1 : (w16.alloc (.cells #[.slice D1 1 d1, .int .i64 0, .int .i64 0, .int .i64 1] 33)).cell? ⟨b2, 1, none⟩ = some (.int .i64 0) := (blk_cell (blk_alloc X216.out _) 1).trans rfl
 have y2 : (w16.alloc (.cells #[.slice D1 1 d1, .int .i64 0, .int .i64 0, .int .i64 1] 33)).cell? ⟨b2, 2, none⟩ = some (.int .i64 0) := (blk_cell (blk_alloc X216.out _) 2).trans rfl
 have y3 : (w16.alloc (.cells #[.slice D1 1 d1, .int .i64 0, .int .i64 0, .int .i64 1] 33)).cell? ⟨b2, 3, none⟩ = some (.int .i64 1) := (blk_cell (blk_alloc X216.out _) 3).trans rfl
 go_wp2_with fail
 obtain ⟨w17, hw17⟩ : ∃ w', w' = w16.alloc (.cells #[.slice D1 1 d1, .int .i64 0, .int .i64 0, .int .i64 1] 33) := ⟨_, rfl⟩
 rw [← hw17]
 obtain ⟨w18, hw18⟩ : ∃ w', w' = w17.alloc (.cells #[.slice (some ⟨r2, 0, none⟩) 1 1, .int .i64 0, .int .i64 0, .int .i64 1] 33) := ⟨_, rfl⟩
 rw [← hw18]
 have t17 : Below w16.heap.size w16 w17 := by rw [hw17]; exact below_alloc (Below.refl _ _) _
 have t18 : Below w17.heap.size w17 w18 := by rw [hw18]; exact below_alloc (Below.refl _ _) _
 have s17 : w17.heap.size = w16.heap.size + 1 := by rw [hw17, World.size_alloc]
 have t : Below w16.heap.size w16 w18 := below_then t17 t17.size t18
 have P1 : k33.C w18 (some ⟨w16.heap.size, 0, none⟩) 1 [ub] := Kd.C_below (C33_of_block (by rw [hw17]; exact blk_new w16 _) (up_K w17 D1 d1 ub (Kd.C_below C16.out t17) hd1.out)) t18
 have P2 : k33.C w18 (some ⟨w16.heap.size + 1, 0, none⟩) 1 [ub] := C33_of_block (by rw [hw18, ← s17]; exact blk_new w17 _) (up_K w18 (some ⟨r2, 0, none⟩) 1 ub (Kd.C_below (C61_one R216.out) t) (Nat.le_refl _))
 have HS := Aside0.mk (same_b w18 _ _ 1 1 P1 (Nat.le_refl _) P2 (Nat.le_refl _) same_ub)
 have H18 := Aside0.mk (H16.out.below t)
 have L18 := Aside0.mk (L16.out.step t)
 clear hw17 hw18 t17 t18 s17 t P1 P2 x0 x1 x2 x3 y0 y1 y2 y3 H16 L16 R216 X216 X416 C16
 refine HS.out.mono ?_
 rintro e w19 ⟨rfl, t19⟩
 have H19 := Aside0.mk (H18.out.below t19)
 have L19 := Aside0.mk (L18.out.step t19)
 clear t19 H18 L18 HS
 go_wp2_with fail
 refine (hlen H19.out).mono ?_
 rintro e w20 ⟨rfl, nd, hw20⟩
 have L20 := Aside0.mk (show Below w.heap.size w w20 by rw [hw20]; exact pw_below_drewN L19.out.1 nd)
 clear hw20
 go_wp2
 go_ret
 exact ⟨rfl, L20.out⟩
end Go.Proofs.Ytednmkmhileikaa.G
namespace Go.Proofs.Ytednmkmhileikaa.G
open Go.RowKit Go.Proofs.YtednmkmhileikaaW.PrintWords Go.Proofs.YtednmkmhileikaaW.PrintLast Go.Proofs.YtednmkmhileikaaW.PrintMore Go.Proofs.Ytednmkmhileikaa.PHoldPlays
attribute [local go_sem] max2_int min2_int max_two min_two max_three min_three max_four min_four
set_option linter.unusedVariables false
set_option linter.unusedSimpArgs false
end Go.Proofs.Ytednmkmhileikaa.G
