/- HoldKeeps: the law's walk. -/
import Derived.Test.YtednmkmhileikaaG19
namespace Go.Proofs.Ytednmkmhileikaa.G
open Go.RowKit Go.Proofs.YtednmkmhileikaaW.PrintWords Go.Proofs.YtednmkmhileikaaW.PrintLast Go.Proofs.YtednmkmhileikaaW.PrintMore Go.Proofs.Ytednmkmhileikaa.PHoldPlays
set_option linter.unusedVariables false
set_option linter.unusedSimpArgs false
/-- Two rows of the law's own beside a hold: neither stores into what another one reads. -/
structure Keep (w0 w : World) (h : Nat) (Q : Nat → Prop) (ro : Option Nat) (vi vo : Value) (i o : List S33) : Prop where
 ni : Kd.N k33 33 w w0.heap.size (fun k => Off h ro k ∧ some k ≠ vo.ownBlock) vi i
 no : Kd.N k33 33 w w0.heap.size (fun k => Off h ro k ∧ some k ≠ vi.ownBlock) vo o
 q : ∀ k, Q k → some k ≠ vi.ownBlock ∧ some k ≠ vo.ownBlock
section
variable {w0 w w1 : World} {h : Nat} {Q : Nat → Prop} {ro ro' : Option Nat} {vi vo v : Value} {i o : List S33} {x : S33} {us : List S33}
theorem Keep.below (H : Keep w0 w h Q ro vi vo i o) (hb : Below w.heap.size w w1) : Keep w0 w1 h Q ro vi vo i o := ⟨Kd.N_below H.ni hb, Kd.N_below H.no hb, H.q⟩
theorem N_offs {vx : Value} {xs : List S33} {ok : Nat → Prop} (hN : Kd.N k33 33 w w0.heap.size (fun k => Off h ro k ∧ ok k) vx xs) (hFr : Fr w w1 (Own h ro)) (ha : ro' = ro ∨ ∃ q, ro' = some q ∧ w.heap.size ≤ q) : Kd.N k33 33 w1 w0.heap.size (fun k => Off h ro' k ∧ ok k) vx xs :=
 Kd.N_mono (Kd.N_step (Kd.N_bound hN) (fun j hj hlt => hFr.block j hlt hj.1.1)) (fun k hk => ⟨fun ho => by
  rcases ho with h1 | h1
  · exact hk.1.1 (.inl h1)
  · rcases ha with rfl | ⟨q, rfl, hq⟩
    · exact hk.1.1 (.inr h1)
    · injection h1 with h1
      have := hk.2
      omega, hk.1.2⟩)
theorem Keep.fr (H : Keep w0 w h Q ro vi vo i o) (hFr : Fr w w1 (Own h ro)) (ha : ro' = ro ∨ ∃ q, ro' = some q ∧ w.heap.size ≤ q) : Keep w0 w1 h Q ro' vi vo i o := ⟨N_offs H.ni hFr ha, N_offs H.no hFr ha, H.q⟩
/-- The elder row when the other one has grown. -/
theorem N_grew {vx : Value} {xs : List S33} {u u1 : Value} (hN : Kd.N k33 33 w w0.heap.size (fun k => Off h ro k ∧ some k ≠ u.ownBlock) vx xs) (hg : w.grownBy w1 u.ownBlock) (hat : u1.ownBlock = u.ownBlock ∨ ∃ b, u1.ownBlock = some b ∧ w.heap.size ≤ b) : Kd.N k33 33 w1 w0.heap.size (fun k => Off h ro k ∧ some k ≠ u1.ownBlock) vx xs :=
 Kd.N_mono (Kd.N_step (Kd.N_bound hN) (fun j hj hlt => hg.block j hlt hj.1.2)) (fun k hk => ⟨hk.1.1, fun e => by
  rcases hat with e1 | ⟨b, e1, hb⟩
  · exact hk.1.2 (e.trans e1)
  · rw [e1] at e
    injection e with e
    have := hk.2
    omega⟩)
/-- What is held when a row that is not its own has grown. -/
theorem Hs.grew (hH : Hs w h Q ro us) {u : Value} (hu : ∀ k, u.ownBlock = some k → Off h ro k) (hQ : ∀ k, Q k → some k ≠ u.ownBlock) (hg : w.grownBy w1 u.ownBlock) : Hs w1 h (fun k => (Q k ∧ k < w.heap.size) ∨ w1.heap.size ≤ k) ro us := by
 obtain ⟨hL, A, c, hb, hr, hN⟩ := hH
 refine ⟨fun b hb => .inr hb, A, c, (hg.block h (blk_lt hb) (fun e => hu h e.symm (.inl rfl))).trans hb, hr, ?_⟩
 exact Kd.N_mono (Kd.N_step (Kd.N_bound hN) (fun j hj hlt => hg.block j hlt (hQ j hj.1.2))) (fun k hk => ⟨hk.1.1, .inl ⟨hk.1.2, hk.2⟩⟩)
theorem q_grew {u u1 : Value} (hlt : ∀ k, u1.ownBlock = some k → k < w1.heap.size) (hQ : ∀ k, Q k → some k ≠ u.ownBlock) (hat : u1.ownBlock = u.ownBlock ∨ ∃ b, u1.ownBlock = some b ∧ w.heap.size ≤ b) (k : Nat) (hk : (Q k ∧ k < w.heap.size) ∨ w1.heap.size ≤ k) : some k ≠ u1.ownBlock := fun e => by
 rcases hk with ⟨h1, h2⟩ | h1
 · rcases hat with e1 | ⟨b, e1, hb⟩
   · exact hQ k h1 (e.trans e1)
   · rw [e1] at e
     injection e with e
     omega
 · have := hlt k e.symm
   omega
theorem Keep.in_ (H : Keep w0 w h Q ro vi vo i o) (hH : Hs w h Q ro us) (hN : Kd.N k33 33 w1 w0.heap.size (fun k => Off h ro k ∧ some k ≠ vo.ownBlock) v (i ++ [x])) (hg : w.grownBy w1 vi.ownBlock) (hat : v.ownBlock = vi.ownBlock ∨ ∃ b, v.ownBlock = some b ∧ w.heap.size ≤ b) : Hs w1 h (fun k => (Q k ∧ k < w.heap.size) ∨ w1.heap.size ≤ k) ro us ∧ Keep w0 w1 h (fun k => (Q k ∧ k < w.heap.size) ∨ w1.heap.size ≤ k) ro v vo (i ++ [x]) o :=
 ⟨hH.grew (fun k hk => (H.ni.1 k hk).1) (fun k hk => (H.q k hk).1) hg, hN, N_grew H.no hg hat, fun k hk => ⟨q_grew (Kd.N_lt hN) (fun k hk => (H.q k hk).1) hat k hk, fun e => by
  rcases hk with ⟨h1, _⟩ | h1
  · exact (H.q k h1).2 e
  · have := Kd.N_lt H.no k e.symm
    have := hg.size
    omega⟩⟩
theorem Keep.out_ (H : Keep w0 w h Q ro vi vo i o) (hH : Hs w h Q ro us) (hN : Kd.N k33 33 w1 w0.heap.size (fun k => Off h ro k ∧ some k ≠ vi.ownBlock) v (o ++ [x])) (hg : w.grownBy w1 vo.ownBlock) (hat : v.ownBlock = vo.ownBlock ∨ ∃ b, v.ownBlock = some b ∧ w.heap.size ≤ b) : Hs w1 h (fun k => (Q k ∧ k < w.heap.size) ∨ w1.heap.size ≤ k) ro us ∧ Keep w0 w1 h (fun k => (Q k ∧ k < w.heap.size) ∨ w1.heap.size ≤ k) ro vi v i (o ++ [x]) :=
 ⟨hH.grew (fun k hk => (H.no.1 k hk).1) (fun k hk => (H.q k hk).2) hg, N_grew H.ni hg hat, hN, fun k hk => ⟨fun e => by
  rcases hk with ⟨h1, _⟩ | h1
  · exact (H.q k h1).1 e
  · have := Kd.N_lt H.ni k e.symm
    have := hg.size
    omega, q_grew (Kd.N_lt hN) (fun k hk => (H.q k hk).2) hat k hk⟩⟩
theorem Keep.nil (hh : ∀ k, Own h ro k → k < w.heap.size) : Keep w0 w h Q ro (.slice none 0 0) (.slice none 0 0) [] [] := ⟨Kd.N_nil _ _ _ _ _, Kd.N_nil _ _ _ _ _, fun k _ => ⟨fun e => (by cases e), fun e => (by cases e)⟩⟩
theorem Keep.inF {A : Option Addr} {n c : Nat} (H : Keep w0 w h Q ro (.slice A n c) vo i o) : Kd.F k33 w (fun j => j < w.heap.size) A n i := Kd.F_mono (Kd.F_bound (Kd.N_F H.ni)) (fun k hk => hk.2)
theorem Keep.outF {A : Option Addr} {n c : Nat} (H : Keep w0 w h Q ro vi (.slice A n c) i o) : Kd.F k33 w (fun j => j < w.heap.size) A n o := Kd.F_mono (Kd.F_bound (Kd.N_F H.no)) (fun k hk => hk.2)
end
/-- A row that has grown is none of what lay there before, or it is the law's own. -/
theorem Lay.grew {w0 w w1 : World} {h : Nat} {ro : Option Nat} (hL : Lay w0 w h ro) {row : Option Nat} (hg : w.grownBy w1 row) (hr : ∀ k, row = some k → w0.heap.size ≤ k) : Lay w0 w1 h ro :=
 ⟨hL.1.trans ⟨hg.os, hg.tape, hg.output, hg.size, fun k hk => hg.block k (Nat.lt_of_lt_of_le hk hL.1.size) (fun e => by have := hr k e.symm; omega)⟩, hL.2⟩
end Go.Proofs.Ytednmkmhileikaa.G
namespace Go.Proofs.Ytednmkmhileikaa.G
open Go.RowKit Go.Proofs.YtednmkmhileikaaW.PrintWords Go.Proofs.YtednmkmhileikaaW.PrintLast Go.Proofs.YtednmkmhileikaaW.PrintMore Go.Proofs.Ytednmkmhileikaa.PHoldPlays
attribute [local go_sem] max2_int min2_int max_two min_two max_three min_three max_four min_four
set_option linter.unusedVariables false
set_option linter.unusedSimpArgs false
theorem at_len {w : World} (A : Option Addr) (c n : Nat) (l : List S33) (t : S24) (r : List S76) (hl : n = l.length) (hF : Kd.F k33 w (fun j => j < w.heap.size) A l.length l) (hc : l.length ≤ c) (hn : l.length ≤ 1000) (h : AtIs t l r) :
  Calls Try.prog 13 #[.slice A n c, .agg #[.int .i64 t.f0, .int .i64 t.f1]] w fun e w' => ∃ v, e = .returned (.tuple #[v, .int .i64 0]) ∧ Kd.V k76 76 w' 0 (fun _ => True) v r ∧ Below w.heap.size w w' := by
 subst hl
 exact at_is A c l t r hF hc hn h
theorem Off.keep {w w' : World} {h : Nat} {ro ro' : Option Nat} {g : Nat} {o : Obj} (hX : w.heap[g]? = some o ∧ Off h ro g) (hF : Fr w w' (Own h ro)) (ha : ro' = ro ∨ ∃ q, ro' = some q ∧ w.heap.size ≤ q) : w'.heap[g]? = some o ∧ Off h ro' g := off_next hF ha hX.1 hX.2
set_option maxHeartbeats 8000000 in
set_option maxRecDepth 100000 in
theorem keeps_calls (w : World) (P : Nat → Prop) (A : Option Addr) (c : Nat) (l : List S36) (t : S24) (hV : Kd.V k36 36 w w.heap.size P (.slice A l.length c) l) (b : Bool) (k7 : Nat) (hM : runnellaw21_Much.f k7 l = some b) (hG : b = false → ∃ St, GoodK l t St) : Calls Try.prog 3 #[.slice A l.length c, .agg #[.int .i64 t.f0, .int .i64 t.f1]] w (LiveTrue w) := by
 have HM := Aside0.mk (fun W (hW : Below w.heap.size w W) => runnellaw21_Much.calls k7 P A c l b W (show Kd.V k36 36 W W.heap.size P (.slice A l.length c) l from Kd.V_below (base := W.heap.size) hV hW) hM)
 replace hV := Aside0.mk hV
 replace hG := Aside0.mk hG
 obtain ⟨n, hnn⟩ : ∃ n, n = l.length := ⟨_, rfl⟩
 rw [← hnn] at HM ⊢
 replace hnn := Aside0.mk hnn
 clear hM
 go_enter Try.func3, Try.ntmps3
 obtain ⟨w1, hw1⟩ : ∃ w', w' = w.alloc (.cells #[.int .i64 t.f0, .int .i64 t.f1] 24) := ⟨_, rfl⟩
 obtain ⟨g, hg⟩ : ∃ g, g = w.heap.size := ⟨_, rfl⟩
 have B1 := Aside0.mk (show Below w.heap.size w w1 by rw [hw1]; exact below_alloc (Below.refl _ _) _)
 have X1 := Aside0.mk (show w1.heap[g]? = some (.cells #[.int .i64 t.f0, .int .i64 t.f1] 24 (0, 0)) by rw [hw1, hg]; exact blk_new w _)
 go_wp2_with fail
 rw [← hw1, ← hg]
 clear hw1
 refine (HM.out w1 B1.out).mono ?_
 rintro e w2 ⟨rfl, hw2⟩
 have B2 := Aside0.mk (below_then B1.out B1.out.size hw2)
 have X2 := Aside0.mk (blk_below X1.out hw2)
 replace hg := Aside0.mk hg
 clear hw2 HM B1 X1
 cases b with
 | true =>
  go_wp2_with fail
  refine (live_calls _).mono ?_
  rintro e w3 ⟨rfl, hb⟩
  have B3 := Aside0.mk (below_then B2.out B2.out.size hb)
  clear hb
  go_wp2
  go_ret
  exact ⟨rfl, B3.out⟩
 | false =>
  obtain ⟨St, hGG⟩ := hG.out rfl
  have HG := Aside0.mk hGG
  clear hGG
  have hsm : n ≤ 100 := by rw [hnn.out]; exact HG.out.small
  clear hG
  go_wp2_with fail
  refine (hnew _).mono ?_
  rintro e w3 ⟨h, rfl, hH, hh, hB⟩
  have H3 := Aside0.mk hH
  have L3 := Aside0.mk (Lay.first (h := h) (below_then B2.out B2.out.size hB) (by have := B2.out.size; omega))
  have X3 := Aside0.mk (show w3.heap[g]? = some (.cells #[.int .i64 t.f0, .int .i64 t.f1] 24 (0, 0)) ∧ Off h none g from ⟨blk_below X2.out hB, fun ho => by
   rcases ho with h1 | h1
   · have := blk_lt X2.out; omega
   · cases h1⟩)
  clear hH hB hh X2 B2
  go_wp2_with fail
  go_loopg [6, 7, 8] n (fun gk v6 v7 v8 wr => ∃ (k : Nat) (us i o : List S33) (ro : Option Nat) (Q : Nat → Prop), v8 = .int .i64 k ∧ k ≤ n ∧ n - k ≤ gk ∧ Aside0 (St k us i o) ∧ Aside0 (Hs wr h Q ro us) ∧ Aside0 (Lay w wr h ro) ∧ Aside0 (Keep w wr h Q ro v6 v7 i o) ∧ Aside0 (wr.heap[g]? = some (.cells #[.int .i64 t.f0, .int .i64 t.f1] 24 (0, 0)) ∧ Off h ro g))
  case atStart => exact ⟨0, [], [], [], none, _, rfl, Nat.zero_le _, by omega, ⟨HG.out.zero⟩, H3, L3, ⟨⟨Kd.N_nil _ _ _ _ _, Kd.N_nil _ _ _ _ _, fun k _ => ⟨fun e => (by cases e), fun e => (by cases e)⟩⟩⟩, X3⟩
  case round =>
   clear H3 L3 X3
   obtain ⟨k, us, i, o, ro, Q, rfl, hk, hgk, HR, HH, LL, KK, XX⟩ := hrel
   obtain ⟨IA, ic, rfl⟩ := Kd.N_slice KK.out.ni
   obtain ⟨OA, oc, rfl⟩ := Kd.N_slice KK.out.no
   have hul := HG.out.len k us i o HR.out
   have hil := hul.2.1
   have hol := hul.2.2
   replace hul := hul.1
   by_cases hlt : k < n
   · have hz : decide ((k : Int) < (n : Int)) = true := decide_eq_true (by omega)
     have hkz : (k : Int) < (n : Int) := by omega
     obtain ⟨a, ha⟩ : ∃ a, l[k]? = some a := ⟨_, List.getElem?_eq_getElem (by have := hnn.out; omega)⟩
     obtain ⟨ad, A1, c1, A5, c5, e0, y0, y1, y2, y3, y4, y5, hl1, hF1, hl5, hC5⟩ := act_at hV.out k a ha
     cases e0
     have ys := Aside0.mk (show w.cell? (ad.add (k * 6)) = some (.bool a.f0) ∧ w.cell? ⟨(ad.add (k * 6)).block, (ad.add (k * 6)).off + 1, none⟩ = some (.slice A1 a.f1.f0.length c1) ∧ w.cell? ⟨(ad.add (k * 6)).block, (ad.add (k * 6)).off + 2, none⟩ = some (.int .i64 a.f1.f1.f0) ∧ w.cell? ⟨(ad.add (k * 6)).block, (ad.add (k * 6)).off + 3, none⟩ = some (.int .i64 a.f1.f1.f1) ∧ w.cell? ⟨(ad.add (k * 6)).block, (ad.add (k * 6)).off + 4, none⟩ = some (.int .i64 a.f1.f2) ∧ w.cell? ⟨(ad.add (k * 6)).block, (ad.add (k * 6)).off + 5, none⟩ = some (.slice A5 a.f2.length c5) from ⟨y0, y1, y2, y3, y4, y5⟩)
     replace hl1 := Aside0.mk hl1
     replace hF1 := Aside0.mk hF1
     replace hl5 := Aside0.mk hl5
     replace hC5 := Aside0.mk hC5
     have har := Aside0.mk (HG.out.arow a (List.mem_of_getElem? ha))
     replace ha := Aside0.mk ha
     clear y0 y1 y2 y3 y4 y5
     have y4 := LL.out.1.cell (World.block_lt_of_cell? w _ ys.out.2.2.2.2.1) |>.trans ys.out.2.2.2.2.1
     have y0 := LL.out.1.cell (World.block_lt_of_cell? w _ ys.out.1) |>.trans ys.out.1
     by_cases hhi : 1125899906842624 < a.f1.f2
     · have d1 : decide (1125899906842624 < a.f1.f2) = true := decide_eq_true hhi
       go_wp2_with fail
       refine (live_calls _).mono ?_
       rintro e w9 ⟨rfl, hB9⟩
       have L9 := Aside0.mk (below_then LL.out.1 LL.out.1.size hB9)
       clear hB9 LL
       go_wp2
       go_ret
       exact ⟨rfl, L9.out⟩
     have d1 : decide (1125899906842624 < a.f1.f2) = false := decide_eq_false hhi
     by_cases hlo : a.f1.f2 < -1125899906842624
     · have d2 : decide (a.f1.f2 < -1125899906842624) = true := decide_eq_true hlo
       go_wp2_with fail
       refine (live_calls _).mono ?_
       rintro e w9 ⟨rfl, hB9⟩
       have L9 := Aside0.mk (below_then LL.out.1 LL.out.1.size hB9)
       clear hB9 LL
       go_wp2
       go_ret
       exact ⟨rfl, L9.out⟩
     have d2 : decide (a.f1.f2 < -1125899906842624) = false := decide_eq_false hlo
     cases hn : a.f0 with
     | false =>
      rw [hn] at y0
      obtain ⟨vs, hA, hS⟩ := HG.out.add k us i o a HR.out ha.out hn (by omega) (by omega)
      have z1 := LL.out.1.cell (World.block_lt_of_cell? w _ ys.out.2.1) |>.trans ys.out.2.1
      have z2 := LL.out.1.cell (World.block_lt_of_cell? w _ ys.out.2.2.1) |>.trans ys.out.2.2.1
      have z3 := LL.out.1.cell (World.block_lt_of_cell? w _ ys.out.2.2.2.1) |>.trans ys.out.2.2.2.1
      have HAdd := Aside0.mk (hadd A1 c1 a.f1 HH.out (Kd.C_below (Kd.F_now hF1.out) LL.out.1) hl1.out har.out.1 (by omega) hA)
      replace hS := Aside0.mk hS
      clear hA
      go_wp2_with fail
      refine HAdd.out.mono ?_
      rintro e w4 ⟨rfl, ro', hH, hFr, hro⟩
      have H4 := Aside0.mk hH
      have L4 := Aside0.mk (LL.out.next hFr hro)
      have K4 := Aside0.mk (KK.out.fr hFr hro)
      have X4 := Aside0.mk (Off.keep XX.out hFr hro)
      clear hH hFr hro HAdd HH LL KK XX y0 y4 z1 z2 z3 d1 d2
      go_wp2_with fail
      refine (code_calls _ _).mono ?_
      rintro e w5 ⟨rfl, nd5, hw5⟩
      have t5 : Below w4.heap.size w4 w5 := by rw [hw5]; exact pw_below_drewN (Below.refl _ _) nd5
      have H5 := Aside0.mk (H4.out.below t5)
      have L5 := Aside0.mk (L4.out.step t5)
      have K5 := Aside0.mk (K4.out.below t5)
      have X5 := Aside0.mk (And.intro (blk_below X4.out.1 t5) X4.out.2)
      have G5 := Aside0.mk (Kd.F_below (W1 := w5) hF1.out L5.out.1)
      have z1 := L5.out.1.cell (World.block_lt_of_cell? w _ ys.out.2.1) |>.trans ys.out.2.1
      have z2 := L5.out.1.cell (World.block_lt_of_cell? w _ ys.out.2.2.1) |>.trans ys.out.2.2.1
      have z3 := L5.out.1.cell (World.block_lt_of_cell? w _ ys.out.2.2.2.1) |>.trans ys.out.2.2.2.1
      have z4 := L5.out.1.cell (World.block_lt_of_cell? w _ ys.out.2.2.2.2.1) |>.trans ys.out.2.2.2.2.1
      clear hw5 t5 H4 L4 K4 X4
      obtain ⟨b5, hb5⟩ : ∃ b, b = w5.heap.size := ⟨_, rfl⟩
      have hkw : IntKind.i64.wrap ((k : Int) + 1) = (k : Int) + 1 := IntWalk.i64_in _ (by omega)
      go_wp2_with (((with_reducible refine gate_builtin (b := .append) (xs := #[.tmp 57, .tmp 63]) rfl ?_); at_builtin; refine Kd.N_append k33 (w0 := w5) (W := w5) w.heap.size rfl (.tmp 57) (.tmp 63) 29 33 (.agg #[.slice none 0 0, .int .i64 0, .int .i64 0, .int .i64 0]) 48 rfl Try.underlying29 info33 rfl (show 0 < 4 by decide) (by decide) (.slice IA i.length ic) i a.f1 [.slice A1 a.f1.f0.length c1, .int .i64 a.f1.f1.f0, .int .i64 a.f1.f1.f1, .int .i64 a.f1.f2] (fun k => Off h ro' k ∧ some k ≠ (Value.slice OA o.length oc).ownBlock) (fun k => k < w.heap.size) rfl rfl ?aP ?aK ?aF K5.out.ni ?aB ?aS ?aL ?_; (case aP => exact k33_mkF _ _ a.f1 hl1.out G5.out); (case aK => exact fun j hj => ⟨⟨fun e => by have := L5.out.2 j e; have h3 : j < w.heap.size := hj; omega, fun e => by have := Kd.N_base K5.out.no j e.symm; have h3 : j < w.heap.size := hj; omega⟩, fun e => by have := Kd.N_base K5.out.ni j e.symm; have h3 : j < w.heap.size := hj; omega⟩); (case aF => exact fun j hj => ⟨Off.lt H5.out hj, fun e => by have := Kd.N_lt K5.out.no j e.symm; omega⟩); (case aB => exact Below.refl _ _); (case aS => exact L5.out.1.size); (case aL => omega); intro v8 w8 hN hB hg hat; have N8 := Aside0.mk hN; have G8 := Aside0.mk hg; have T8 := Aside0.mk hat; clear hN hB hg hat))
      have HK := K5.out.in_ H5.out N8.out G8.out T8.out
      have H8 := Aside0.mk HK.1
      have K8 := Aside0.mk HK.2
      have L8 := Aside0.mk (L5.out.grew G8.out (fun k e => Kd.N_base K5.out.ni k e))
      have X8 := Aside0.mk (And.intro ((G8.out.block g (blk_lt X5.out.1) (Kd.N_ne K5.out.ni X5.out.1 (by decide))).trans X5.out.1) X5.out.2)
      clear HK H5 K5 L5 X5 N8 G8 T8 z1 z2 z3 z4 G5
      go_wp2
      go_roundg (n - (k + 1))
      case measure => omega
      case rel => exact ⟨k + 1, vs, i ++ [a.f1], o, ro', _, by go_num, by omega, Nat.le_refl _, hS, H8, L8, K8, X8⟩
     | true =>
      rw [hn] at y0
      have y5 := LL.out.1.cell (World.block_lt_of_cell? w _ ys.out.2.2.2.2.2) |>.trans ys.out.2.2.2.2.2
      have hkw : IntKind.i64.wrap ((k : Int) + 1) = (k : Int) + 1 := IntWalk.i64_in _ (by omega)
      have C0 := Aside0.mk (Kd.C_below hC5.out LL.out.1)
      rcases HG.out.next k us i o a HR.out ha.out hn with ⟨hq, hS⟩ | ⟨p, x, hq, hx, hA, hx2, hS⟩
      · have HX := Aside0.mk (next_calls A5 c5 a.f2 HH.out (by omega) C0.out hl5.out har.out.2 none hq _ (.inl ⟨rfl, rfl⟩))
        replace hS := Aside0.mk hS
        clear hq
        go_wp2_with fail
        refine HX.out.mono ?_
        rintro e w4 ⟨rfl, hb4⟩
        have H4 := Aside0.mk (HH.out.below hb4)
        have L4 := Aside0.mk (LL.out.step hb4)
        have K4 := Aside0.mk (KK.out.below hb4)
        have X4 := Aside0.mk (And.intro (blk_below XX.out.1 hb4) XX.out.2)
        clear hb4 HX HH LL KK XX y0 y4 y5 d1 d2 C0
        obtain ⟨w5, hw5⟩ : ∃ w', w' = w4.alloc (.cells #[.slice none 0 0, .int .i64 0, .int .i64 0, .int .i64 0] 33) := ⟨_, rfl⟩
        have t5 : Below w4.heap.size w4 w5 := by rw [hw5]; exact below_alloc (Below.refl _ _) _
        have H5 := Aside0.mk (H4.out.below t5)
        have L5 := Aside0.mk (L4.out.step t5)
        have K5 := Aside0.mk (K4.out.below t5)
        have X5 := Aside0.mk (And.intro (blk_below X4.out.1 t5) X4.out.2)
        clear t5 H4 L4 K4 X4
        go_wp2_with fail
        rw [← hw5]
        clear hw5
        go_roundg (n - (k + 1))
        case measure => omega
        case rel => exact ⟨k + 1, us, i, o, ro, Q, by go_num, by omega, Nat.le_refl _, hS, H5, L5, K5, X5⟩
      · have HX := Aside0.mk (next_calls A5 c5 a.f2 HH.out (by omega) C0.out hl5.out har.out.2 (some p) hq _ (.inr ⟨p, x, rfl, hx, rfl⟩))
        replace hS := Aside0.mk hS
        replace hA := Aside0.mk hA
        clear hq hx
        go_wp2_with fail
        refine HX.out.mono ?_
        rintro e w4 ⟨D, d, rfl, hd, hFx, hH, hFr⟩
        have H4 := Aside0.mk hH
        have L4 := Aside0.mk (LL.out.next hFr (.inl rfl))
        have K4 := Aside0.mk (KK.out.fr hFr (.inl rfl))
        have X4 := Aside0.mk (Off.keep XX.out hFr (.inl rfl))
        have F4 := Aside0.mk hFx
        replace hd := Aside0.mk hd
        clear hH hFr hFx HX HH LL KK XX y0 y4 y5 d1 d2 C0
        obtain ⟨w5, hw5⟩ : ∃ w', w' = w4.alloc (.cells #[.slice D x.f0.length d, .int .i64 x.f1.f0, .int .i64 x.f1.f1, .int .i64 x.f2] 33) := ⟨_, rfl⟩
        obtain ⟨b5, hb5⟩ : ∃ b, b = w4.heap.size := ⟨_, rfl⟩
        have t5 : Below w4.heap.size w4 w5 := by rw [hw5]; exact below_alloc (Below.refl _ _) _
        have BX5 := Aside0.mk (show w5.heap[b5]? = some (.cells #[.slice D x.f0.length d, .int .i64 x.f1.f0, .int .i64 x.f1.f1, .int .i64 x.f2] 33 (0, 0)) by rw [hw5, hb5]; exact blk_new w4 _)
        have H5 := Aside0.mk (H4.out.below t5)
        have L5 := Aside0.mk (L4.out.step t5)
        have K5 := Aside0.mk (K4.out.below t5)
        have X5 := Aside0.mk (And.intro (blk_below X4.out.1 t5) X4.out.2)
        have F5 := Aside0.mk (Kd.F_below F4.out t5)
        have z5 : w5.cell? ⟨(ad.add (k * 6)).block, (ad.add (k * 6)).off + 5, none⟩ = some (.slice A5 a.f2.length c5) := L5.out.1.cell (World.block_lt_of_cell? w _ ys.out.2.2.2.2.2) |>.trans ys.out.2.2.2.2.2
        rw [hw5] at z5
        clear t5 H4 L4 K4 X4 F4
        go_wp2_with fail
        rw [← hw5, ← hb5]
        rw [← hw5] at z5
        have C5 := Aside0.mk (Kd.C_below hC5.out L5.out.1)
        have q1 : w5.cell? ⟨b5, 1, none⟩ = some (.int .i64 x.f1.f0) := (blk_cell BX5.out 1).trans rfl
        have q2 : w5.cell? ⟨b5, 2, none⟩ = some (.int .i64 x.f1.f1) := (blk_cell BX5.out 2).trans rfl
        have q3 : w5.cell? ⟨b5, 3, none⟩ = some (.int .i64 x.f2) := (blk_cell BX5.out 3).trans rfl
        have d3 : (x.f2 == 0) = false := by simp [hx2]
        clear hw5 hb5
        go_region_held3 (fun w' => w'.cell? ⟨(ad.add (k * 6)).block, (ad.add (k * 6)).off + 5, none⟩ = some (.slice A5 a.f2.length c5) ∧ w'.cell? ⟨b5, 1, none⟩ = some (.int .i64 x.f1.f0) ∧ w'.cell? ⟨b5, 2, none⟩ = some (.int .i64 x.f1.f1) ∧ w'.cell? ⟨b5, 3, none⟩ = some (.int .i64 x.f2)) (first | exact ⟨z5, q1, q2, q3⟩ | exact ⟨pw_cell_below HB6.out z5, pw_cell_below HB6.out q1, pw_cell_below HB6.out q2, pw_cell_below HB6.out q3⟩) (first | (go_at_call 12; (with_reducible refine (rahead_at _ A5 c5 a.f2 x false ?h1 hl5.out hA.out).mono ?_); (case h1 => exact Kd.C_below C5.out (below_drew (Below.refl _ _))); rintro e w6 ⟨rfl, hb⟩; have HB6 : Aside0 (Below w5.heap.size w5 w6) := Aside0.mk (below_then (below_drew (Below.refl _ _)) (Nat.le_refl _) hb); clear hb))
        have H6 := Aside0.mk (H5.out.below HB6.out)
        have L6 := Aside0.mk (L5.out.step HB6.out)
        have K6 := Aside0.mk (K5.out.below HB6.out)
        have X6 := Aside0.mk (And.intro (blk_below X5.out.1 HB6.out) X5.out.2)
        have F6 := Aside0.mk (Kd.F_below F5.out HB6.out)
        have BX6 := Aside0.mk (blk_below BX5.out HB6.out)
        clear z5 q1 q2 q3 H5 L5 K5 X5 F5 BX5 C5 HB6
        have q0 : w6.cell? ⟨b5, 0, none⟩ = some (.slice D x.f0.length d) := (blk_cell BX6.out 0).trans rfl
        have q1 : w6.cell? ⟨b5, 1, none⟩ = some (.int .i64 x.f1.f0) := (blk_cell BX6.out 1).trans rfl
        have q2 : w6.cell? ⟨b5, 2, none⟩ = some (.int .i64 x.f1.f1) := (blk_cell BX6.out 2).trans rfl
        have q3 : w6.cell? ⟨b5, 3, none⟩ = some (.int .i64 x.f2) := (blk_cell BX6.out 3).trans rfl
        go_wp2_with (((with_reducible refine gate_builtin (b := .append) (xs := #[.tmp 90, .tmp 92]) rfl ?_); at_builtin; refine Kd.N_append k33 (w0 := w6) (W := w6) w.heap.size rfl (.tmp 90) (.tmp 92) 29 33 (.agg #[.slice none 0 0, .int .i64 0, .int .i64 0, .int .i64 0]) 48 rfl Try.underlying29 info33 rfl (show 0 < 4 by decide) (by decide) (.slice OA o.length oc) o x [.slice D x.f0.length d, .int .i64 x.f1.f0, .int .i64 x.f1.f1, .int .i64 x.f2] (fun k => Off h ro k ∧ some k ≠ (Value.slice IA i.length ic).ownBlock) (fun k => ¬ Own h ro k ∧ Q k) rfl rfl ?aP ?aK ?aF K6.out.no ?aB ?aS ?aL ?_; (case aP => exact k33_mkF _ _ x hd.out F6.out); (case aK => exact fun j hj => ⟨⟨hj.1, (K6.out.q j hj.2).1⟩, (K6.out.q j hj.2).2⟩); (case aF => exact fun j hj => ⟨Off.lt H6.out hj, fun e => by have := Kd.N_lt K6.out.ni j e.symm; omega⟩); (case aB => exact Below.refl _ _); (case aS => exact L6.out.1.size); (case aL => omega); intro v8 w8 hN hB hg hat; have N8 := Aside0.mk hN; have G8 := Aside0.mk hg; have T8 := Aside0.mk hat; clear hN hB hg hat))
        have HK := K6.out.out_ H6.out N8.out G8.out T8.out
        have H8 := Aside0.mk HK.1
        have K8 := Aside0.mk HK.2
        have L8 := Aside0.mk (L6.out.grew G8.out (fun k e => Kd.N_base K6.out.no k e))
        have X8 := Aside0.mk (And.intro ((G8.out.block g (blk_lt X6.out.1) (Kd.N_ne K6.out.no X6.out.1 (by decide))).trans X6.out.1) X6.out.2)
        clear HK H6 K6 L6 X6 N8 G8 T8 q0 q1 q2 q3 F6 BX6
        go_wp2
        go_roundg (n - (k + 1))
        case measure => omega
        case rel => exact ⟨k + 1, us.eraseIdx p, i, o ++ [x], ro, _, by go_num, by omega, Nat.le_refl _, hS, H8, L8, K8, X8⟩
   · have hz : decide ((k : Int) < (n : Int)) = false := decide_eq_false (by omega)
     obtain ⟨ra, rb, nn, a1, a2, a3⟩ := HG.out.fin us i o ((show k = l.length by have := hnn.out; omega) ▸ HR.out)
     have q0 : wr.cell? ⟨g, 0, none⟩ = some (.int .i64 t.f0) := (blk_cell XX.out.1 0).trans rfl
     have q1 : wr.cell? ⟨g, 1, none⟩ = some (.int .i64 t.f1) := (blk_cell XX.out.1 1).trans rfl
     have HA := at_is IA ic i t ra KK.out.inF (Kd.N_reads' KK.out.ni).2.1 (by omega) a1
     replace a2 := Aside0.mk a2
     replace a3 := Aside0.mk a3
     clear a1
     go_wp2_with fail
     refine HA.mono ?_
     rintro e w4 ⟨va, rfl, hVa, hb4⟩
     have H4 := Aside0.mk (HH.out.below hb4)
     have L4 := Aside0.mk (LL.out.step hb4)
     have K4 := Aside0.mk (KK.out.below hb4)
     have X4 := Aside0.mk (And.intro (blk_below XX.out.1 hb4) XX.out.2)
     have V4 := Aside0.mk hVa
     have hrow := Aside0.mk (HG.out.rows k us i o HR.out)
     clear hb4 hVa HA HH LL KK XX q0 q1
     have q0 : w4.cell? ⟨g, 0, none⟩ = some (.int .i64 t.f0) := (blk_cell X4.out.1 0).trans rfl
     have q1 : w4.cell? ⟨g, 1, none⟩ = some (.int .i64 t.f1) := (blk_cell X4.out.1 1).trans rfl
     go_wp2_with fail
     go_region_held3 (fun w' => w'.cell? ⟨g, 0, none⟩ = some (.int .i64 t.f0) ∧ w'.cell? ⟨g, 1, none⟩ = some (.int .i64 t.f1)) (first | exact ⟨q0, q1⟩ | exact ⟨pw_cell_below (below_alloc (Below.refl _ _) _) q0, pw_cell_below (below_alloc (Below.refl _ _) _) q1⟩ | exact ⟨pw_cell_below HB8.out q0, pw_cell_below HB8.out q1⟩ | exact ⟨pw_cell_below HB7.out q0, pw_cell_below HB7.out q1⟩ | exact ⟨pw_cell_below HB6.out q0, pw_cell_below HB6.out q1⟩ | exact ⟨pw_cell_below HB5.out q0, pw_cell_below HB5.out q1⟩) (first
      | (refine Kd.N_append_rows_step k33 (w0 := w4) (W := (w4.alloc (.cells #[] 33)).drew) w4.heap.size (by rfl) (.tmp 101) (.tmp 102) 29 33 (.agg #[.slice none 0 0, .int .i64 0, .int .i64 0, .int .i64 0]) 48 rfl Try.underlying29 info33 rfl (show 0 < 4 by decide) (by decide) (.slice (some ⟨w4.heap.size, 0, none⟩) 0 0) [] o OA o.length oc (fun _ => True) (fun k => k < w4.heap.size) rfl rfl ?aO ?aR ?aK ?aF ?aB ?aS ?aL ?_; (case aO => exact N_empty_new trivial); (case aR => exact Kd.F_drew (Kd.F_alloc K4.out.outF _)); (case aK => exact fun j hj => ⟨trivial, fun e => by have e2 : j = w4.heap.size := Option.some.inj e; have h3 : j < w4.heap.size := hj; omega⟩); (case aF => exact fun _ _ => trivial); (case aB => exact below_drew (below_alloc (Below.refl _ _) _)); (case aS => exact (below_drew (below_alloc (Below.refl w4.heap.size w4) _)).size); (case aL => show (0 + o.length) * 48 ≤ _; omega); intro v5 w5 hN hB hg hat; obtain ⟨A5, c5, rfl⟩ := Kd.N_slice hN; have N5 := Aside0.mk (show Kd.N k33 33 w5 w4.heap.size (fun _ => True) (.slice A5 o.length c5) o from hN); have HB5 := Aside0.mk hB; clear hN hB hg hat)
      | (go_at_call 14; (with_reducible refine (ups_calls (H4.out.below HB5.out) ?h1 hrow.out).mono ?_); (case h1 => omega); rintro e w6 ⟨v6, rfl, hR, hb⟩; obtain ⟨A6, c6, rfl⟩ := Kd.R_slice hR; have N6 := Aside0.mk (Kd.N_below N5.out hb); have U6 := Aside0.mk (Kd.N_F (Kd.R_N (Kd.R_bound hR))); have HB6 := Aside0.mk (below_then HB5.out HB5.out.size hb); have S6 := Aside0.mk hb.size; clear hR hb)
      | (refine Kd.N_append_rows_step k33 (w0 := w4) (W := w6) w4.heap.size (by rfl) (.tmp 103) (.tmp 105) 29 33 (.agg #[.slice none 0 0, .int .i64 0, .int .i64 0, .int .i64 0]) 48 rfl Try.underlying29 info33 rfl (show 0 < 4 by decide) (by decide) (.slice A5 o.length c5) o us A6 us.length c6 (fun _ => True) _ rfl rfl N6.out U6.out ?aK ?aF ?aB ?aS ?aL ?_; (case aK => exact fun j hj => ⟨trivial, fun e => by have := Kd.N_lt N5.out j e.symm; have := hj.2.1; omega⟩); (case aF => exact fun _ _ => trivial); (case aB => exact HB6.out); (case aS => exact HB6.out.size); (case aL => omega); intro v7 w7 hN hB hg hat; obtain ⟨A7, c7, rfl⟩ := Kd.N_slice hN; have N7 := Aside0.mk hN; have HB7 := Aside0.mk hB; clear hN hB hg hat)
      | (go_at_call 13; (with_reducible refine (at_len A7 c7 (o.length + us.length) (o ++ us) t rb ?h0 ?h1 ?h2 ?h3 a2.out).mono ?_); (case h0 => rw [List.length_append]); (case h1 => exact Kd.F_mono (Kd.F_bound (Kd.N_F N7.out)) (fun _ hk => hk.2)); (case h2 => exact (Kd.N_reads' N7.out).2.1); (case h3 => rw [List.length_append]; omega); rintro e w8 ⟨vb, rfl, hVb, hb⟩; have HB8 := Aside0.mk (below_then HB7.out HB7.out.size hb); have V8 := Aside0.mk hVb; clear hVb hb))
     have L8 := Aside0.mk (below_then L4.out.1 L4.out.1.size HB8.out)
     obtain ⟨VA, av, rfl⟩ := Kd.V_slice V4.out
     obtain ⟨VB, bv, rfl⟩ := Kd.V_slice V8.out
     have CA := Aside0.mk (Kd.C_below (Kd.V_reads' V4.out).2.2 HB8.out)
     have CB := Aside0.mk (Kd.V_reads' V8.out).2.2
     have cA := Aside0.mk (Kd.V_reads' V4.out).2.1
     have cB := Aside0.mk (Kd.V_reads' V8.out).2.1
     clear H4 L4 K4 X4 V4 V8 N5 HB5 N6 U6 HB6 S6 N7 HB7 HB8 q0 q1
     go_wp2_with fail
     refine (runnelref07_SameCounts.calls nn VA av ra VB bv rb true w8 CA.out cA.out CB.out cB.out a3.out).mono ?_
     rintro e w9 ⟨rfl, hb9⟩
     have L9 := Aside0.mk (below_then L8.out L8.out.size hb9)
     clear hb9 L8 CA CB
     go_wp2_with fail
     refine (live_calls _).mono ?_
     rintro e w10 ⟨rfl, hb10⟩
     have L10 := Aside0.mk (below_then L9.out L9.out.size hb10)
     clear hb10 L9
     go_wp2
     go_ret
     exact ⟨rfl, L10.out⟩
end Go.Proofs.Ytednmkmhileikaa.G
