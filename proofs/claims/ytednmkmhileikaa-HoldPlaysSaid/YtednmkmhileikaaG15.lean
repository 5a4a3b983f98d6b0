/- HoldPlays: the law's walk. -/
import Derived.Test.YtednmkmhileikaaG12
import Derived.Test.YtednmkmhileikaaG13
import Derived.Test.YtednmkmhileikaaOHoldPlaysx2
import Derived.Test.YtednmkmhileikaaOHoldPlaysx9
import Derived.Test.YtednmkmhileikaaOHoldPlaysx10
import Derived.Test.YtednmkmhileikaaOHoldPlaysx14
namespace Go.Proofs.Ytednmkmhileikaa.G
open Go.RowKit Go.Proofs.YtednmkmhileikaaW.PrintWords Go.Proofs.YtednmkmhileikaaW.PrintLast Go.Proofs.YtednmkmhileikaaW.PrintMore Go.Proofs.Ytednmkmhileikaa.PHoldPlays
attribute [local go_sem] max2_int min2_int max_two min_two max_three min_three max_four min_four
set_option linter.unusedVariables false
set_option linter.unusedSimpArgs false
theorem act_at {w : World} {A : Option Addr} {c : Nat} {l : List S36} {P : Nat → Prop} (hV : Kd.V k36 36 w w.heap.size P (.slice A l.length c) l) (i : Nat) (a : S36) (ha : l[i]? = some a) : ∃ ad A1 c1 A5 c5, A = some ad ∧ w.cell? (ad.add (i * 6)) = some (.bool a.f0) ∧ w.cell? ⟨(ad.add (i * 6)).block, (ad.add (i * 6)).off + 1, none⟩ = some (.slice A1 a.f1.f0.length c1) ∧ w.cell? ⟨(ad.add (i * 6)).block, (ad.add (i * 6)).off + 2, none⟩ = some (.int .i64 a.f1.f1.f0) ∧ w.cell? ⟨(ad.add (i * 6)).block, (ad.add (i * 6)).off + 3, none⟩ = some (.int .i64 a.f1.f1.f1) ∧ w.cell? ⟨(ad.add (i * 6)).block, (ad.add (i * 6)).off + 4, none⟩ = some (.int .i64 a.f1.f2) ∧ w.cell? ⟨(ad.add (i * 6)).block, (ad.add (i * 6)).off + 5, none⟩ = some (.slice A5 a.f2.length c5) ∧ a.f1.f0.length ≤ c1 ∧ Kd.F k61 w (fun k => k < w.heap.size) A1 a.f1.f0.length a.f1.f0 ∧ a.f2.length ≤ c5 ∧ k24.C w A5 a.f2.length a.f2 := by
 have hlt := (List.getElem?_eq_some_iff.1 ha).1
 have hrd : rd_T36 l (i : Int) = a := by
  unfold rd_T36
  rw [Int.toNat_natCast, List.getD_eq_getElem?_getD, ha]; rfl
 obtain ⟨ad, A1, c1, A5, c5, e, x0, x1, x2, x3, x4, x5, l1, i1, l5, i5⟩ := at_T36 (Kd.V_reads' hV).2.2 (i : Int) (by omega) (by omega)
 cases e
 obtain ⟨ce, hce, hMe, hcc⟩ := Kd.V_get hV z36 (i : Int) (by omega) (by omega)
 obtain ⟨B1, d1, B5, d5, rfl, m1, g1, m5, g5⟩ := k36_openF hMe
 have hv1 := hcc 1 _ rfl
 rw [add_field _ _ 1 (by omega)] at hv1
 replace hv1 := Option.some.inj (hv1.symm.trans x1)
 injection hv1 with hva hvn hvc
 change Kd.F k61 w _ B1 (rd_T36 l (i : Int)).f1.f0.length (rd_T36 l (i : Int)).f1.f0 at g1
 rw [hrd] at *
 rw [Int.toNat_natCast] at *
 subst hva
 exact ⟨ad, B1, c1, A5, c5, rfl, x0, x1, x2, x3, x4, x5, l1, Kd.F_mono (Kd.F_bound g1) (fun k hk => hk.2), l5, i5⟩
/-- What Next gives on both sides: the same, or neither. -/
def Both (fs : List S24) (us r : List S33) (yes : Bool) (x y : S33) (vs s : List S33) : Prop := ∃ (ah : Nat → Bool) (oo : Nat → Nat → Int), (∀ j x, r[j]? = some x → RAhead fs x (ah j)) ∧ (∀ i j x y, r[i]? = some x → r[j]? = some y → ROrd x y (oo i j)) ∧
 ((yes = false ∧ x = z33 ∧ y = z33 ∧ vs = us ∧ s = r ∧ (us.findIdx? fun x => !(fs.any fun y => le y x.f1)) = none ∧ bst ah oo r.length = none) ∨
  (yes = true ∧ ∃ p q, (us.findIdx? fun x => !(fs.any fun y => le y x.f1)) = some p ∧ us[p]? = some x ∧ vs = us.eraseIdx p ∧ bst ah oo r.length = some q ∧ r[q]? = some y ∧ s = r.eraseIdx q))
def NextU (w : World) (h L : Nat) (ro : Option Nat) (x : S33) (yes : Bool) (vs : List S33) (e : Ending) (w' : World) : Prop := ∃ D d, e = .returned (.tuple #[.agg #[.slice D x.f0.length d, .int .i64 x.f1.f0, .int .i64 x.f1.f1, .int .i64 x.f2], .bool yes]) ∧ x.f0.length ≤ d ∧ Kd.F k61 w' (Off h ro) D x.f0.length x.f0 ∧ Hs w' h L ro vs ∧ Fr w w' (Own h ro)
theorem F_nil61 (w : World) (ok : Nat → Prop) : Kd.F k61 w ok none 0 [] := fun W _ => Kd.C_nil _ _
theorem next_u {w : World} {h L : Nat} {ro : Option Nat} {us r vs s : List S33} {yes : Bool} {x y : S33} (A : Option Addr) (c : Nat) (fs : List S24) (hH : Hs w h L ro us) (hn : us.length ≤ 1000) (hC : k24.C w A fs.length fs) (hc : fs.length ≤ c) (hfn : fs.length < 4398046511104) (hB : Both fs us r yes x y vs s) :
  Calls Try.prog 11 #[.pointer (some ⟨h, 0, none⟩), .slice A fs.length c] w (NextU w h L ro x yes vs) := by
 obtain ⟨ah, oo, _, _, hB⟩ := hB
 rcases hB with ⟨rfl, rfl, rfl, rfl, rfl, hq, _⟩ | ⟨rfl, p, q, hp, hx, rfl, _⟩
 · refine (next_calls A c fs hH hn hC hc hfn none hq _ (.inl ⟨rfl, rfl⟩)).mono ?_
   rintro e w' ⟨rfl, hb⟩
   exact ⟨none, 0, rfl, Nat.le_refl _, F_nil61 _ _, hH.below hb, Fr.of_below hb _⟩
 · refine (next_calls A c fs hH hn hC hc hfn (some p) hp _ (.inr ⟨p, x, rfl, hx, rfl⟩)).mono ?_
   rintro e w' ⟨D, d, rfl, h1, h2, h3, h4⟩
   exact ⟨D, d, rfl, h1, h2, h3, h4⟩
def RNextU (w : World) (ok : Nat → Prop) (y : S33) (yes : Bool) (s : List S33) (e : Ending) (w' : World) : Prop := ∃ A c D d, e = .returned (.tuple #[.slice A s.length c, .agg #[.slice D y.f0.length d, .int .i64 y.f1.f0, .int .i64 y.f1.f1, .int .i64 y.f2], .bool yes]) ∧ y.f0.length ≤ d ∧ k61.C w' D y.f0.length y.f0 ∧ s.length ≤ c ∧ Kd.F k33 w' ok A s.length s ∧ Below w.heap.size w w'
theorem rnext_u {w : World} {us r vs s : List S33} {yes : Bool} {x y : S33} (A : Option Addr) (c : Nat) (ok : Nat → Prop) (B : Option Addr) (d : Nat) (fs : List S24) (hV : Kd.F k33 w ok A r.length r) (hc : r.length ≤ c) (hn : r.length ≤ 1000) (hC : k24.C w B fs.length fs) (hd : fs.length ≤ d) (hok : ∀ k, w.heap.size ≤ k → ok k) (hB : Both fs us r yes x y vs s) :
  Calls Try.prog 16 #[.slice A r.length c, .slice B fs.length d] w (RNextU w ok y yes s) := by
 obtain ⟨ah, oo, ha, ho, hB⟩ := hB
 rcases hB with ⟨rfl, rfl, rfl, rfl, rfl, _, hq⟩ | ⟨rfl, p, q, _, _, _, hq, hy, rfl⟩
 · refine (rnext_calls A c _ ok B d fs hV hc hn hC hd ah oo ha ho _ (.inl ⟨hq, rfl⟩)).mono ?_
   rintro e w' ⟨rfl, hb⟩
   exact ⟨A, c, none, 0, rfl, Nat.le_refl _, Kd.C_nil _ _, hc, Kd.F_below hV hb, hb⟩
 · refine (rnext_calls A c _ ok B d fs hV hc hn hC hd ah oo ha ho _ (.inr ⟨q, y, hq, hy, rfl⟩)).mono ?_
   rintro e w' ⟨v, D, d, rfl, h1, h2, ⟨E, c1, rfl, h4, h5⟩, h6⟩
   exact ⟨E, c1, D, d, rfl, h1, h2, h4, Kd.F_mono h5 (fun k hk => hk.elim id (hok k)), h6⟩
structure GoodP (l : List S36) (St : Nat → List S33 → List S33 → Prop) : Prop where
 zero : St 0 [] []
 next : ∀ k us r a, St k us r → l[k]? = some a → a.f0 = true → ∃ yes x y vs s, Both a.f2 us r yes x y vs s ∧ (∃ n, runnelref07_Same.f n [x] [y] = some true) ∧ St (k + 1) vs s
 add : ∀ k us r a, St k us r → l[k]? = some a → a.f0 = false → ∃ vs e n s, AddsTo us a.f1 vs e ∧ runnelref21_Add.f n r a.f1.f0 a.f1.f1.f0 a.f1.f1.f1 a.f1.f2 = some (s, e) ∧ St (k + 1) vs s
 same : ∀ k us r, St k us r → ∃ n s m rs o lo z, runnelref21_Sorted.f n r = some s ∧ runnelref07_Same.f m us s = some true ∧ NewAt (us.map (·.f1)) rs ∧ runnelref07_Lower.f o r = some lo ∧ runnelref04_Same.f z rs lo = some true
 len : ∀ k us r, St k us r → us.length ≤ k ∧ r.length = us.length
 rows : ∀ k us r, St k us r → ∀ x ∈ us, x.f0.length < 4398046511104
 arow : ∀ a ∈ l, a.f1.f0.length < 4398046511104 ∧ a.f2.length < 4398046511104
 small : l.length ≤ 100
theorem radd_u {w : World} {r s : List S33} {n : Nat} {e : Int} (A : Option Addr) (c : Nat) (ok : Nat → Prop) (B : Option Addr) (d : Nat) (u : S33) (hV : Kd.F k33 w ok A r.length r) (hc : r.length ≤ c) (hC : Kd.F k61 w ok B u.f0.length u.f0) (hd : u.f0.length ≤ d) (hok : ∀ k, w.heap.size ≤ k → ok k) (hs : runnelref21_Add.f n r u.f0 u.f1.f0 u.f1.f1 u.f2 = some (s, e)) :
  Calls Try.prog 18 #[.slice A r.length c, .agg #[.slice B u.f0.length d, .int .i64 u.f1.f0, .int .i64 u.f1.f1, .int .i64 u.f2]] w fun en w' => ∃ A c, en = .returned (.tuple #[.slice A s.length c, .int .i64 e]) ∧ s.length ≤ c ∧ Kd.F k33 w' ok A s.length s ∧ Below w.heap.size w w' := by
 refine (runnelref21_Add.calls n ok A c r ok B d u.f0 _ _ _ s e w ⟨A, c, rfl, hc, hV⟩ ⟨B, d, rfl, hd, hC⟩ hs).mono ?_
 rintro en w' ⟨v, rfl, ⟨E, c1, rfl, h4, h5⟩, h6⟩
 exact ⟨E, c1, rfl, h4, Kd.F_mono h5 (fun k hk => hk.elim (fun h => h.elim id id) (hok k)), h6⟩
end Go.Proofs.Ytednmkmhileikaa.G
namespace Go.Proofs.Ytednmkmhileikaa.G
open Go.RowKit Go.Proofs.YtednmkmhileikaaW.PrintWords Go.Proofs.YtednmkmhileikaaW.PrintLast Go.Proofs.YtednmkmhileikaaW.PrintMore Go.Proofs.Ytednmkmhileikaa.PHoldPlays
attribute [local go_sem] max2_int min2_int max_two min_two max_three min_three max_four min_four
set_option linter.unusedVariables false
set_option linter.unusedSimpArgs false
theorem alloc_size (w : World) (o : Obj) : (w.alloc o).heap.size = w.heap.size + 1 := by
 show (w.heap.push o).size = _
 exact Array.size_push _
theorem F_offs {w w' : World} {h : Nat} {ro ro' : Option Nat} {A : Option Addr} {n : Nat} {xs : List S33} (hF : Kd.F k33 w (Off h ro) A n xs) (hFr : Fr w w' (Own h ro)) (ha : ro' = ro ∨ ∃ q, ro' = some q ∧ w.heap.size ≤ q) : Kd.F k33 w' (Off h ro') A n xs :=
 Kd.F_mono (Kd.F_step (Kd.F_bound hF) (fun j hj hlt => hFr.block j hlt hj.1)) (fun k hk ho => by
  rcases ho with h1 | h1
  · exact hk.1 (.inl h1)
  · rcases ha with rfl | ⟨q, rfl, hq⟩
    · exact hk.1 (.inr h1)
    · injection h1 with h1
      have := hk.2
      omega)
set_option maxHeartbeats 4000000 in
set_option maxRecDepth 100000 in
theorem plays_calls (w : World) (P : Nat → Prop) (A : Option Addr) (c : Nat) (l : List S36) (hV : Kd.V k36 36 w w.heap.size P (.slice A l.length c) l) (b : Bool) (k7 : Nat) (hM : runnellaw21_Much.f k7 l = some b) (hG : b = false → ∃ St, GoodP l St) : Calls Try.prog 4 #[.slice A l.length c] w (LiveTrue w) := by
 have HM := Aside0.mk (runnellaw21_Much.calls k7 P A c l b w hV hM)
 replace hV := Aside0.mk hV
 replace hG := Aside0.mk hG
 obtain ⟨n, hnn⟩ : ∃ n, n = l.length := ⟨_, rfl⟩
 rw [← hnn] at HM ⊢
 replace hnn := Aside0.mk hnn
 clear hM
 go_enter Try.func4, Try.ntmps4
 go_wp2_with fail
 refine HM.out.mono ?_
 rintro e w1 ⟨rfl, hw1⟩
 have B1 := Aside0.mk hw1
 clear hw1 HM
 cases b with
 | true =>
  go_wp2_with fail
  refine (live_calls _).mono ?_
  rintro e w2 ⟨rfl, hb⟩
  have B2 := Aside0.mk (below_then B1.out B1.out.size hb)
  clear hb
  go_wp2
  go_ret
  exact ⟨rfl, B2.out⟩
 | false =>
  obtain ⟨St, hGG⟩ := hG.out rfl
  have HG := Aside0.mk hGG
  clear hGG
  have hsm : n ≤ 100 := by rw [hnn.out]; exact HG.out.small
  clear hG
  go_wp2_with fail
  refine (hnew _).mono ?_
  rintro e w2 ⟨h, rfl, hH, hg, hB⟩
  have H2 := Aside0.mk hH
  have L2 := Aside0.mk (Lay.first (h := h) (below_then B1.out B1.out.size hB) (by have := B1.out.size; omega))
  clear hH hB
  go_wp2_with fail
  go_loopg [4, 5] n (fun gk v4 v5 wr => ∃ (k : Nat) (us r : List S33) (ro : Option Nat) (RA : Option Addr) (m rc : Nat), v4 = .slice RA m rc ∧ v5 = .int .i64 k ∧ k ≤ n ∧ n - k ≤ gk ∧ Aside0 (m = r.length) ∧ Aside0 (m ≤ rc) ∧ Aside0 (St k us r) ∧ Aside0 (Hs wr h 0 ro us) ∧ Aside0 (Lay w wr h ro) ∧ Aside0 (Kd.F k33 wr (Off h ro) RA m r))
  case atStart => exact ⟨0, [], [], none, none, 0, 0, rfl, rfl, Nat.zero_le _, by omega, ⟨rfl⟩, ⟨Nat.le_refl _⟩, ⟨HG.out.zero⟩, H2, L2, ⟨fun W _ => Kd.C_nil _ _⟩⟩
  case round =>
   clear H2 L2 B1
   obtain ⟨k, us, r, ro, RA, m, rc, rfl, rfl, hk, hgk, hm, hmc, HR, HH, LL, FF⟩ := hrel
   by_cases hlt : k < n
   · have hz : decide ((k : Int) < (n : Int)) = true := decide_eq_true (by omega)
     have hkz : (k : Int) < (n : Int) := by omega
     obtain ⟨a, ha⟩ : ∃ a, l[k]? = some a := ⟨_, List.getElem?_eq_getElem (by have := hnn.out; omega)⟩
     obtain ⟨ad, A1, c1, A5, c5, e0, y0, y1, y2, y3, y4, y5, hl1, hF1, hl5, hC5⟩ := act_at hV.out k a ha
     cases e0
     have adl : Aside0 ((ad.add (k * 6)).block < w.heap.size) := ⟨World.block_lt_of_cell? w _ y0⟩
     replace y0 := LL.out.1.cell (World.block_lt_of_cell? w _ y0) |>.trans y0
     have ys := Aside0.mk (show w.cell? ⟨(ad.add (k * 6)).block, (ad.add (k * 6)).off + 1, none⟩ = some (.slice A1 a.f1.f0.length c1) ∧ w.cell? ⟨(ad.add (k * 6)).block, (ad.add (k * 6)).off + 2, none⟩ = some (.int .i64 a.f1.f1.f0) ∧ w.cell? ⟨(ad.add (k * 6)).block, (ad.add (k * 6)).off + 3, none⟩ = some (.int .i64 a.f1.f1.f1) ∧ w.cell? ⟨(ad.add (k * 6)).block, (ad.add (k * 6)).off + 4, none⟩ = some (.int .i64 a.f1.f2) ∧ w.cell? ⟨(ad.add (k * 6)).block, (ad.add (k * 6)).off + 5, none⟩ = some (.slice A5 a.f2.length c5) from ⟨y1, y2, y3, y4, y5⟩)
     replace hl1 := Aside0.mk hl1
     replace hF1 := Aside0.mk hF1
     replace hl5 := Aside0.mk hl5
     replace hC5 := Aside0.mk hC5
     have har := Aside0.mk (HG.out.arow a (List.mem_of_getElem? ha))
     have hul := HG.out.len k us r HR.out
     have hrl := hul.2
     replace hul := hul.1
     clear y1 y2 y3 y4 y5
     cases hn : a.f0 with
     | true =>
      rw [hn] at y0
      obtain ⟨yes, x, y, vs, s, hBo, hsm', hS⟩ := HG.out.next k us r a HR.out ha hn
      have y5 := LL.out.1.cell (World.block_lt_of_cell? w _ ys.out.2.2.2.2) |>.trans ys.out.2.2.2.2
      have HX := Aside0.mk (next_u A5 c5 a.f2 HH.out (by omega) (Kd.C_below hC5.out LL.out.1) hl5.out har.out.2 hBo)
      replace hBo := Aside0.mk hBo
      replace hsm' := Aside0.mk hsm'
      replace hS := Aside0.mk hS
      clear ha
      go_wp2_with fail
      refine HX.out.mono ?_
      rintro e w3 ⟨D, d, rfl, hd, hFx, hH, hFr⟩
      have H3 := Aside0.mk hH
      have L3 := Aside0.mk (LL.out.next hFr (.inl rfl))
      have F3 := Aside0.mk (Kd.F_step FF.out (fun j hj hlt => hFr.block j hlt hj))
      replace hFx := Aside0.mk hFx
      replace hd := Aside0.mk hd
      clear hH hFr HX HH LL FF y0 y5
      have z5 := L3.out.1.cell (World.block_lt_of_cell? w _ ys.out.2.2.2.2) |>.trans ys.out.2.2.2.2
      obtain ⟨w4, hw4⟩ : ∃ w', w' = w3.alloc (.cells #[.slice D x.f0.length d, .int .i64 x.f1.f0, .int .i64 x.f1.f1, .int .i64 x.f2] 33) := ⟨_, rfl⟩
      obtain ⟨b4, hb4⟩ : ∃ b, b = w3.heap.size := ⟨_, rfl⟩
      have t4 : Below w3.heap.size w3 w4 := by rw [hw4]; exact below_alloc (Below.refl _ _) _
      have X4 : w4.heap[b4]? = some (.cells #[.slice D x.f0.length d, .int .i64 x.f1.f0, .int .i64 x.f1.f1, .int .i64 x.f2] 33 (0, 0)) := by rw [hw4, hb4]; exact blk_new w3 _
      have z5 : (w3.alloc (.cells #[.slice D x.f0.length d, .int .i64 x.f1.f0, .int .i64 x.f1.f1, .int .i64 x.f2] 33)).cell? ⟨(ad.add (k * 6)).block, (ad.add (k * 6)).off + 5, none⟩ = some (.slice A5 a.f2.length c5) := pw_cell_below (below_alloc (Below.refl _ _) _) z5
      go_wp2_with fail
      rw [← hw4, ← hb4]
      clear z5 hw4
      have H4 := Aside0.mk (H3.out.below t4)
      have L4 := Aside0.mk (L3.out.step t4)
      have F4 := Aside0.mk (Kd.F_below F3.out t4)
      have C4 := Aside0.mk (Kd.C_below (Kd.F_now hFx.out) t4)
      have b4lt := Aside0.mk (blk_lt X4)
      replace X4 := Aside0.mk X4
      clear t4 H3 L3 F3 hFx hb4
      have HRX := rnext_u (s := s) RA rc (Off h ro) A5 c5 a.f2 (by rw [← hm.out]; exact F4.out) (by rw [← hm.out]; exact hmc.out) (by omega) (Kd.C_below hC5.out L4.out.1) hl5.out (fun j hj => Off.lt H4.out hj) hBo.out
      rw [← hm.out] at HRX
      refine HRX.mono ?_
      clear HRX
      rintro e w5 ⟨RB, rd, E, e2, rfl, he2, hCy, hsd, hFs, hB5⟩
      have H5 := Aside0.mk (H4.out.below hB5)
      have L5 := Aside0.mk (L4.out.step hB5)
      have F5 := Aside0.mk hFs
      have C5 := Aside0.mk (Kd.C_below C4.out hB5)
      have D5 := Aside0.mk hCy
      have X5 := Aside0.mk (blk_below X4.out hB5)
      replace he2 := Aside0.mk he2
      replace hsd := Aside0.mk hsd
      have b5lt := Aside0.mk (Nat.lt_of_lt_of_le b4lt.out hB5.size)
      clear hFs hCy hB5 H4 L4 F4 C4 X4
      clear b4lt
      have q0 : (w5.alloc (.cells #[.slice E y.f0.length e2, .int .i64 y.f1.f0, .int .i64 y.f1.f1, .int .i64 y.f2] 33)).cell? ⟨b4, 0, none⟩ = some (.slice D x.f0.length d) := pw_cell_below (below_alloc (Below.refl _ _) _) ((blk_cell X5.out 0).trans rfl)
      have q1 : (w5.alloc (.cells #[.slice E y.f0.length e2, .int .i64 y.f1.f0, .int .i64 y.f1.f1, .int .i64 y.f2] 33)).cell? ⟨b4, 1, none⟩ = some (.int .i64 x.f1.f0) := pw_cell_below (below_alloc (Below.refl _ _) _) ((blk_cell X5.out 1).trans rfl)
      have q2 : (w5.alloc (.cells #[.slice E y.f0.length e2, .int .i64 y.f1.f0, .int .i64 y.f1.f1, .int .i64 y.f2] 33)).cell? ⟨b4, 2, none⟩ = some (.int .i64 x.f1.f1) := pw_cell_below (below_alloc (Below.refl _ _) _) ((blk_cell X5.out 2).trans rfl)
      have q3 : (w5.alloc (.cells #[.slice E y.f0.length e2, .int .i64 y.f1.f0, .int .i64 y.f1.f1, .int .i64 y.f2] 33)).cell? ⟨b4, 3, none⟩ = some (.int .i64 x.f2) := pw_cell_below (below_alloc (Below.refl _ _) _) ((blk_cell X5.out 3).trans rfl)
      have p0 : ((w5.alloc (.cells #[.slice E y.f0.length e2, .int .i64 y.f1.f0, .int .i64 y.f1.f1, .int .i64 y.f2] 33)).alloc (.cells #[.slice D x.f0.length d, .int .i64 x.f1.f0, .int .i64 x.f1.f1, .int .i64 x.f2] 33)).cell? ⟨w5.heap.size, 0, none⟩ = some (.slice E y.f0.length e2) := pw_cell_below (below_alloc (Below.refl _ _) _) ((blk_cell (blk_new w5 _) 0).trans rfl)
      have p1 : ((w5.alloc (.cells #[.slice E y.f0.length e2, .int .i64 y.f1.f0, .int .i64 y.f1.f1, .int .i64 y.f2] 33)).alloc (.cells #[.slice D x.f0.length d, .int .i64 x.f1.f0, .int .i64 x.f1.f1, .int .i64 x.f2] 33)).cell? ⟨w5.heap.size, 1, none⟩ = some (.int .i64 y.f1.f0) := pw_cell_below (below_alloc (Below.refl _ _) _) ((blk_cell (blk_new w5 _) 1).trans rfl)
      have p2 : ((w5.alloc (.cells #[.slice E y.f0.length e2, .int .i64 y.f1.f0, .int .i64 y.f1.f1, .int .i64 y.f2] 33)).alloc (.cells #[.slice D x.f0.length d, .int .i64 x.f1.f0, .int .i64 x.f1.f1, .int .i64 x.f2] 33)).cell? ⟨w5.heap.size, 2, none⟩ = some (.int .i64 y.f1.f1) := pw_cell_below (below_alloc (Below.refl _ _) _) ((blk_cell (blk_new w5 _) 2).trans rfl)
      have p3 : ((w5.alloc (.cells #[.slice E y.f0.length e2, .int .i64 y.f1.f0, .int .i64 y.f1.f1, .int .i64 y.f2] 33)).alloc (.cells #[.slice D x.f0.length d, .int .i64 x.f1.f0, .int .i64 x.f1.f1, .int .i64 x.f2] 33)).cell? ⟨w5.heap.size, 3, none⟩ = some (.int .i64 y.f2) := pw_cell_below (below_alloc (Below.refl _ _) _) ((blk_cell (blk_new w5 _) 3).trans rfl)
      have hyy : (yes != yes) = false := by cases yes <;> rfl
      clear X5
      go_wp2_with fail
      clear q0 q1 q2 q3 p0 p1 p2 p3
      obtain ⟨w6, hw6⟩ : ∃ w', w' = w5.alloc (.cells #[.slice E y.f0.length e2, .int .i64 y.f1.f0, .int .i64 y.f1.f1, .int .i64 y.f2] 33) := ⟨_, rfl⟩
      obtain ⟨w7, hw7⟩ : ∃ w', w' = w6.alloc (.cells #[.slice D x.f0.length d, .int .i64 x.f1.f0, .int .i64 x.f1.f1, .int .i64 x.f2] 33) := ⟨_, rfl⟩
      obtain ⟨w8, hw8⟩ : ∃ w', w' = w7.alloc (.cells #[.slice E y.f0.length e2, .int .i64 y.f1.f0, .int .i64 y.f1.f1, .int .i64 y.f2] 33) := ⟨_, rfl⟩
      have s6 : w5.heap.size + 1 = w6.heap.size := by rw [hw6]; exact (alloc_size _ _).symm
      have s7 : w6.heap.size + 1 = w7.heap.size := by rw [hw7]; exact (alloc_size _ _).symm
      have t8 : Below w5.heap.size w5 w8 := by
        rw [hw8, hw7, hw6]
        exact below_alloc (below_alloc (below_alloc (Below.refl _ _) _) _) _
      rw [← hw6, ← hw7, ← hw8, s6, s7]
      have X7 : w8.heap[w6.heap.size]? = some (.cells #[.slice D x.f0.length d, .int .i64 x.f1.f0, .int .i64 x.f1.f1, .int .i64 x.f2] 33 (0, 0)) := by rw [hw8]; exact blk_below (by rw [hw7]; exact blk_new w6 _) (below_alloc (Below.refl _ _) _)
      have X8 : w8.heap[w7.heap.size]? = some (.cells #[.slice E y.f0.length e2, .int .i64 y.f1.f0, .int .i64 y.f1.f1, .int .i64 y.f2] 33 (0, 0)) := by rw [hw8]; exact blk_new w7 _
      clear hw6 hw7 hw8
      obtain ⟨ks, hks⟩ := hsm'.out
      refine (runnelref07_Same.calls ks (some ⟨w6.heap.size, 0, none⟩) 1 [x] (some ⟨w7.heap.size, 0, none⟩) 1 [y] true w8 (C33_of_block X7 (up_K w8 D d x (Kd.C_below C5.out t8) hd.out)) (Nat.le_refl _) (C33_of_block X8 (up_K w8 E e2 y (Kd.C_below D5.out t8) he2.out)) (Nat.le_refl _) hks).mono ?_
      rintro e w9 ⟨rfl, hb9⟩
      have t9 := below_then t8 t8.size hb9
      clear t8 hb9 X7 X8 s6 s7 hks hsm' hyy
      have H9 := Aside0.mk (H5.out.below t9)
      have L9 := Aside0.mk (L5.out.step t9)
      have F9 := Aside0.mk (Kd.F_below F5.out t9)
      clear H5 L5 F5 C5 D5 t9
      go_wp2_with fail
      obtain ⟨ns, sS, ms, rs, os, lo, zs, h1, h2, h3, h4, h5⟩ := HG.out.same (k + 1) vs s hS.out
      have hlv := HG.out.len (k + 1) vs s hS.out
      have hls := Aside0.mk hlv.2
      replace hlv := hlv.1
      have hrow := Aside0.mk (HG.out.rows (k + 1) vs s hS.out)
      refine (hlen_at (s.length : Int) (by rw [hls.out]) H9.out).mono ?_
      rintro e w10 ⟨rfl, nd, hw10⟩
      have t10 : Below w9.heap.size w9 w10 := by rw [hw10]; exact pw_below_drewN (Below.refl _ _) nd
      have H10 := Aside0.mk (H9.out.below t10)
      have L10 := Aside0.mk (L9.out.step t10)
      have F10 := Aside0.mk (Kd.F_below F9.out t10)
      replace h1 := Aside0.mk h1
      replace h2 := Aside0.mk h2
      replace h3 := Aside0.mk h3
      replace h4 := Aside0.mk h4
      replace h5 := Aside0.mk h5
      clear hw10 t10 H9 L9 F9
      go_wp2_with fail
      refine (ups_calls H10.out (by omega) hrow.out).mono ?_
      rintro e w11 ⟨v11, rfl, hR11, hB11⟩
      obtain ⟨V, cv, rfl⟩ := Kd.R_slice hR11
      have H11 := Aside0.mk (H10.out.below hB11)
      have L11 := Aside0.mk (L10.out.step hB11)
      have F11 := Aside0.mk (Kd.F_below F10.out hB11)
      have C11 := Aside0.mk (Kd.R_reads' hR11).2
      clear hR11 hB11 H10 L10 F10
      go_wp2_with fail
      refine (runnelref21_Sorted.calls ns (Off h ro) RB rd s sS w11 ⟨RB, rd, rfl, hsd.out, F11.out⟩ h1.out).mono ?_
      rintro e w12 ⟨v12, rfl, hN12, hB12⟩
      obtain ⟨S12, d12, rfl⟩ := Kd.N_slice hN12
      have H12 := Aside0.mk (H11.out.below hB12)
      have L12 := Aside0.mk (L11.out.step hB12)
      have F12 := Aside0.mk (Kd.F_below F11.out hB12)
      have C12 := Aside0.mk (Kd.C_below C11.out.2 hB12)
      have N12 := Aside0.mk (Kd.N_reads' hN12).2
      clear hN12 hB12 H11 L11 F11
      go_wp2_with fail
      refine (runnelref07_Same.calls ms V cv vs S12 d12 sS true w12 C12.out C11.out.1 N12.out.2 N12.out.1 h2.out).mono ?_
      rintro e w13 ⟨rfl, hB13⟩
      have H13 := Aside0.mk (H12.out.below hB13)
      have L13 := Aside0.mk (L12.out.step hB13)
      have F13 := Aside0.mk (Kd.F_below F12.out hB13)
      clear hB13 H12 L12 F12 C12 N12 C11
      go_wp2_with fail
      refine (lower_calls (some ⟨h, 0, none⟩) (ups_calls H13.out (by omega) hrow.out) (by omega) rs h3.out).mono ?_
      rintro e w14 ⟨v14, rfl, hR14, hB14⟩
      obtain ⟨V14, c14, rfl⟩ := Kd.R_slice hR14
      have H14 := Aside0.mk (H13.out.below hB14)
      have L14 := Aside0.mk (L13.out.step hB14)
      have F14 := Aside0.mk (Kd.F_below F13.out hB14)
      have C14 := Aside0.mk (Kd.R_reads' hR14).2
      clear hR14 hB14 H13 L13 F13
      go_wp2_with fail
      refine (runnelref07_Lower.calls os RB rd s lo w14 (Kd.F_now F14.out) hsd.out h4.out).mono ?_
      rintro e w15 ⟨v15, rfl, hR15, hB15⟩
      obtain ⟨V15, c15, rfl⟩ := Kd.R_slice hR15
      have H15 := Aside0.mk (H14.out.below hB15)
      have L15 := Aside0.mk (L14.out.step hB15)
      have F15 := Aside0.mk (Kd.F_below F14.out hB15)
      have C15 := Aside0.mk (Kd.C_below C14.out.2 hB15)
      have D15 := Aside0.mk (Kd.R_reads' hR15).2
      clear hR15 hB15 H14 L14 F14
      go_wp2_with fail
      refine (runnelref04_Same.calls zs V14 c14 rs V15 c15 lo true w15 C15.out C14.out.1 D15.out.2 D15.out.1 h5.out).mono ?_
      rintro e w16 ⟨rfl, hD16⟩
      have hB16 := hD16.below
      have H16 := Aside0.mk (H15.out.below hB16)
      have L16 := Aside0.mk (L15.out.step hB16)
      have F16 := Aside0.mk (Kd.F_below F15.out hB16)
      clear hD16 hB16 H15 L15 F15 C15 D15 C14
      have hkw : IntKind.i64.wrap ((k : Int) + 1) = (k : Int) + 1 := IntWalk.i64_in _ (by omega)
      go_wp2
      go_roundg (n - (k + 1))
      case measure => omega
      case rel => exact ⟨k + 1, vs, s, ro, RB, s.length, rd, rfl, by go_num, by omega, Nat.le_refl _, ⟨rfl⟩, hsd, hS, H16, L16, F16⟩
     | false =>
      rw [hn] at y0
      obtain ⟨vs, er, na, s, hA, hsa, hS⟩ := HG.out.add k us r a HR.out ha hn
      have z1 := LL.out.1.cell (World.block_lt_of_cell? w _ ys.out.1) |>.trans ys.out.1
      have z2 := LL.out.1.cell (World.block_lt_of_cell? w _ ys.out.2.1) |>.trans ys.out.2.1
      have z3 := LL.out.1.cell (World.block_lt_of_cell? w _ ys.out.2.2.1) |>.trans ys.out.2.2.1
      have z4 := LL.out.1.cell (World.block_lt_of_cell? w _ ys.out.2.2.2.1) |>.trans ys.out.2.2.2.1
      have HAdd := Aside0.mk (hadd A1 c1 a.f1 HH.out (Kd.C_below (Kd.F_now hF1.out) LL.out.1) hl1.out har.out.1 (by omega) hA)
      replace hsa := Aside0.mk hsa
      replace hS := Aside0.mk hS
      clear ha hA
      go_wp2_with fail
      refine HAdd.out.mono ?_
      rintro e w3 ⟨rfl, ro', hH, hFr, hro⟩
      have H3 := Aside0.mk hH
      have L3 := Aside0.mk (LL.out.next hFr hro)
      have F3 := Aside0.mk (F_offs FF.out hFr hro)
      have G3 := Aside0.mk (Kd.F_mono (Kd.F_below (W1 := w3) hF1.out L3.out.1) (ok' := Off h ro') (fun j hj ho => by have := L3.out.2 j ho; omega))
      clear hH hFr hro HAdd HH LL FF y0 z1 z2 z3 z4
      have z1 := L3.out.1.cell (World.block_lt_of_cell? w _ ys.out.1) |>.trans ys.out.1
      have z2 := L3.out.1.cell (World.block_lt_of_cell? w _ ys.out.2.1) |>.trans ys.out.2.1
      have z3 := L3.out.1.cell (World.block_lt_of_cell? w _ ys.out.2.2.1) |>.trans ys.out.2.2.1
      have z4 := L3.out.1.cell (World.block_lt_of_cell? w _ ys.out.2.2.2.1) |>.trans ys.out.2.2.2.1
      go_wp2_with fail
      have HRX := radd_u RA rc (Off h ro') A1 c1 a.f1 (by rw [← hm.out]; exact F3.out) (by rw [← hm.out]; exact hmc.out) G3.out hl1.out (fun j hj => Off.lt H3.out hj) hsa.out
      rw [← hm.out] at HRX
      refine HRX.mono ?_
      clear HRX
      rintro e w5 ⟨RB, rd, rfl, hsd, hFs, hB5⟩
      have H5 := Aside0.mk (H3.out.below hB5)
      have L5 := Aside0.mk (L3.out.step hB5)
      have F5 := Aside0.mk hFs
      replace hsd := Aside0.mk hsd
      clear hFs hB5 H3 L3 F3 G3 z1 z2 z3 z4
      go_wp2_with fail
      refine (code_calls _ _).mono ?_
      rintro e w9 ⟨rfl, nd9, hw9⟩
      have t9 : Below w5.heap.size w5 w9 := by rw [hw9]; exact pw_below_drewN (Below.refl _ _) nd9
      have H9 := Aside0.mk (H5.out.below t9)
      have L9 := Aside0.mk (L5.out.step t9)
      have F9 := Aside0.mk (Kd.F_below F5.out t9)
      clear H5 L5 F5 t9 hw9
      obtain ⟨ro, rfl⟩ : ∃ q, q = ro' := ⟨_, rfl⟩
      go_wp2_with fail
      obtain ⟨ns, sS, ms, rs, os, lo, zs, h1, h2, h3, h4, h5⟩ := HG.out.same (k + 1) vs s hS.out
      have hlv := HG.out.len (k + 1) vs s hS.out
      have hls := Aside0.mk hlv.2
      replace hlv := hlv.1
      have hrow := Aside0.mk (HG.out.rows (k + 1) vs s hS.out)
      refine (hlen_at (s.length : Int) (by rw [hls.out]) H9.out).mono ?_
      rintro e w10 ⟨rfl, nd, hw10⟩
      have t10 : Below w9.heap.size w9 w10 := by rw [hw10]; exact pw_below_drewN (Below.refl _ _) nd
      have H10 := Aside0.mk (H9.out.below t10)
      have L10 := Aside0.mk (L9.out.step t10)
      have F10 := Aside0.mk (Kd.F_below F9.out t10)
      replace h1 := Aside0.mk h1
      replace h2 := Aside0.mk h2
      replace h3 := Aside0.mk h3
      replace h4 := Aside0.mk h4
      replace h5 := Aside0.mk h5
      clear hw10 t10 H9 L9 F9
      go_wp2_with fail
      refine (ups_calls H10.out (by omega) hrow.out).mono ?_
      rintro e w11 ⟨v11, rfl, hR11, hB11⟩
      obtain ⟨V, cv, rfl⟩ := Kd.R_slice hR11
      have H11 := Aside0.mk (H10.out.below hB11)
      have L11 := Aside0.mk (L10.out.step hB11)
      have F11 := Aside0.mk (Kd.F_below F10.out hB11)
      have C11 := Aside0.mk (Kd.R_reads' hR11).2
      clear hR11 hB11 H10 L10 F10
      go_wp2_with fail
      refine (runnelref21_Sorted.calls ns (Off h ro) RB rd s sS w11 ⟨RB, rd, rfl, hsd.out, F11.out⟩ h1.out).mono ?_
      rintro e w12 ⟨v12, rfl, hN12, hB12⟩
      obtain ⟨S12, d12, rfl⟩ := Kd.N_slice hN12
      have H12 := Aside0.mk (H11.out.below hB12)
      have L12 := Aside0.mk (L11.out.step hB12)
      have F12 := Aside0.mk (Kd.F_below F11.out hB12)
      have C12 := Aside0.mk (Kd.C_below C11.out.2 hB12)
      have N12 := Aside0.mk (Kd.N_reads' hN12).2
      clear hN12 hB12 H11 L11 F11
      go_wp2_with fail
      refine (runnelref07_Same.calls ms V cv vs S12 d12 sS true w12 C12.out C11.out.1 N12.out.2 N12.out.1 h2.out).mono ?_
      rintro e w13 ⟨rfl, hB13⟩
      have H13 := Aside0.mk (H12.out.below hB13)
      have L13 := Aside0.mk (L12.out.step hB13)
      have F13 := Aside0.mk (Kd.F_below F12.out hB13)
      clear hB13 H12 L12 F12 C12 N12 C11
      go_wp2_with fail
      refine (lower_calls (some ⟨h, 0, none⟩) (ups_calls H13.out (by omega) hrow.out) (by omega) rs h3.out).mono ?_
      rintro e w14 ⟨v14, rfl, hR14, hB14⟩
      obtain ⟨V14, c14, rfl⟩ := Kd.R_slice hR14
      have H14 := Aside0.mk (H13.out.below hB14)
      have L14 := Aside0.mk (L13.out.step hB14)
      have F14 := Aside0.mk (Kd.F_below F13.out hB14)
      have C14 := Aside0.mk (Kd.R_reads' hR14).2
      clear hR14 hB14 H13 L13 F13
      go_wp2_with fail
      refine (runnelref07_Lower.calls os RB rd s lo w14 (Kd.F_now F14.out) hsd.out h4.out).mono ?_
      rintro e w15 ⟨v15, rfl, hR15, hB15⟩
      obtain ⟨V15, c15, rfl⟩ := Kd.R_slice hR15
      have H15 := Aside0.mk (H14.out.below hB15)
      have L15 := Aside0.mk (L14.out.step hB15)
      have F15 := Aside0.mk (Kd.F_below F14.out hB15)
      have C15 := Aside0.mk (Kd.C_below C14.out.2 hB15)
      have D15 := Aside0.mk (Kd.R_reads' hR15).2
      clear hR15 hB15 H14 L14 F14
      go_wp2_with fail
      refine (runnelref04_Same.calls zs V14 c14 rs V15 c15 lo true w15 C15.out C14.out.1 D15.out.2 D15.out.1 h5.out).mono ?_
      rintro e w16 ⟨rfl, hD16⟩
      have hB16 := hD16.below
      have H16 := Aside0.mk (H15.out.below hB16)
      have L16 := Aside0.mk (L15.out.step hB16)
      have F16 := Aside0.mk (Kd.F_below F15.out hB16)
      clear hD16 hB16 H15 L15 F15 C15 D15 C14
      have hkw : IntKind.i64.wrap ((k : Int) + 1) = (k : Int) + 1 := IntWalk.i64_in _ (by omega)
      go_wp2
      go_roundg (n - (k + 1))
      case measure => omega
      case rel => exact ⟨k + 1, vs, s, ro, RB, s.length, rd, rfl, by go_num, by omega, Nat.le_refl _, ⟨rfl⟩, hsd, hS, H16, L16, F16⟩
   · have hz : decide ((k : Int) < (n : Int)) = false := decide_eq_false (by omega)
     go_wp2_with fail
     refine (live_calls _).mono ?_
     rintro e w9 ⟨rfl, hB9⟩
     have L9 := Aside0.mk (below_then LL.out.1 LL.out.1.size hB9)
     clear hB9 LL
     go_wp2
     go_ret
     exact ⟨rfl, L9.out⟩
end Go.Proofs.Ytednmkmhileikaa.G
