/- slices.BinarySearchFunc over a list of changes, by hold's order. -/
import Derived.Test.YtednmkmhileikaaG3
import Derived.Test.YtednmkmhileikaaOHoldPlaysx3
namespace Go.Proofs.Ytednmkmhileikaa.G
open Go.RowKit Go.Proofs.YtednmkmhileikaaW.PrintWords Go.Proofs.YtednmkmhileikaaW.PrintLast Go.Proofs.YtednmkmhileikaaW.PrintMore Go.Proofs.Ytednmkmhileikaa.PHoldPlays
attribute [local go_sem] max2_int min2_int max_two min_two max_three min_three max_four min_four
set_option linter.unusedVariables false
set_option linter.unusedSimpArgs false
/-- Two changes have this order. -/
def Ord (x u : S33) (r : Int) : Prop := ∃ k, hold_order.f k x.f0 x.f1.f0 x.f1.f1 x.f2 u.f0 u.f1.f0 u.f1.f1 u.f2 = some r
theorem order_at (w : World) (A : Option Addr) (c : Nat) (x : S33) (B : Option Addr) (d : Nat) (u : S33) (r : Int) (h1 : k61.C w A x.f0.length x.f0) (h2 : x.f0.length ≤ c) (h3 : k61.C w B u.f0.length u.f0) (h4 : u.f0.length ≤ d) (h : Ord x u r) : Calls Try.prog 26 #[.agg #[.slice A x.f0.length c, .int .i64 x.f1.f0, .int .i64 x.f1.f1, .int .i64 x.f2], .agg #[.slice B u.f0.length d, .int .i64 u.f1.f0, .int .i64 u.f1.f1, .int .i64 u.f2]] w fun e w' => e = .returned (.int .i64 r) ∧ Below w.heap.size w w' := by
 obtain ⟨k, h⟩ := h
 exact hold_order.calls k A c x.f0 _ _ _ B d u.f0 _ _ _ r w h1 h2 h3 h4 h
theorem rd_33 {us : List S33} {j : Nat} {x : S33} (h : us[j]? = some x) : rd_T33 us (j : Int) = x := by
 unfold rd_T33
 rw [Int.toNat_natCast, List.getD_eq_getElem?_getD, h]
 rfl
def Found (w : World) (p : Nat) (is : Bool) (e : Ending) (w' : World) : Prop := e = .returned (.tuple #[.int .i64 p, .bool is]) ∧ Below w.heap.size w w'
set_option maxHeartbeats 2000000 in
set_option maxRecDepth 100000 in
theorem search_calls (w : World) (A B : Option Addr) (c d : Nat) (us : List S33) (u : S33) (f : Nat → Int) (p : Nat) (hC : k33.C w A us.length us) (hc : us.length ≤ c) (hn : us.length ≤ 1000000) (hR : k61.C w B u.f0.length u.f0) (hd : u.f0.length ≤ d)
  (hf : ∀ j x, us[j]? = some x → Ord x u (f j)) (hp : p ≤ us.length) (h1 : ∀ j, j < p → f j < 0) (h2 : ∀ j, p ≤ j → j < us.length → 0 ≤ f j) :
  Calls Try.prog 25 #[.slice A us.length c, .agg #[.slice B u.f0.length d, .int .i64 u.f1.f0, .int .i64 u.f1.f1, .int .i64 u.f2], .func (.func 26) #[] #[]] w (Found w p (decide (p < us.length ∧ f p = 0))) := by
 obtain ⟨n, hnn⟩ : ∃ n, n = us.length := ⟨_, rfl⟩
 rw [← hnn] at hC hc hn hp h2 ⊢
 replace hC := Aside0.mk hC
 replace hR := Aside0.mk hR
 replace hf := Aside0.mk hf
 replace h1 := Aside0.mk h1
 replace h2 := Aside0.mk h2
 replace hnn := Aside0.mk hnn
 go_enter Try.func25, Try.ntmps25
 go_wp2_with fail
 obtain ⟨b, hb⟩ : ∃ b, b = w.heap.size := ⟨_, rfl⟩
 obtain ⟨w2, hw2⟩ : ∃ w2, w2 = w.alloc (.cells #[.slice B u.f0.length d, .int .i64 u.f1.f0, .int .i64 u.f1.f1, .int .i64 u.f2] 33) := ⟨_, rfl⟩
 rw [← hw2, ← hb]
 have hB2 : Aside0 (Below w.heap.size w w2) := ⟨by rw [hw2]; exact below_alloc (Below.refl _ _) _⟩
 have BX2 : Aside0 (w2.heap[b]? = some (.cells #[.slice B u.f0.length d, .int .i64 u.f1.f0, .int .i64 u.f1.f1, .int .i64 u.f2] 33 (0, 0))) := ⟨by rw [hw2, hb]; exact blk_new w _⟩
 have hbw : Aside0 (b = w.heap.size) := ⟨hb⟩
 clear hw2 hb
 go_loopg [9, 10] n (fun gk v9 v10 wr => ∃ i j : Nat, v9 = .int .i64 i ∧ v10 = .int .i64 j ∧ Aside0 (i ≤ p ∧ p ≤ j ∧ j ≤ n ∧ j - i ≤ gk) ∧ Aside0 (wr.heap[b]? = some (.cells #[.slice B u.f0.length d, .int .i64 u.f1.f0, .int .i64 u.f1.f1, .int .i64 u.f2] 33 (0, 0))) ∧ Aside0 (Below w.heap.size w wr))
 case atStart => exact ⟨0, n, rfl, rfl, ⟨⟨Nat.zero_le _, hp, Nat.le_refl _, by omega⟩⟩, BX2, hB2⟩
 case round =>
  clear BX2 hB2
  obtain ⟨i, j, rfl, rfl, HI, BX, HB⟩ := hrel
  by_cases hij : i < j
  · have hlz : decide ((i : Int) < (j : Int)) = true := decide_eq_true (by omega)
    have hI := HI.out
    have e1 : IntKind.i64.wrap ((i : Int) + (j : Int)) = (i : Int) + j := IntWalk.i64_in _ (by omega)
    go_wp2_with fail
    obtain ⟨h, hh⟩ : ∃ h : Nat, h = (i + j) / 2 := ⟨_, rfl⟩
    have hhi : ((i : Int) + (j : Int)) / 2 = (h : Int) := by omega
    rw [hhi]
    have hhl : i ≤ h ∧ h < j := by omega
    obtain ⟨x, hx⟩ : ∃ x, us[h]? = some x := ⟨_, List.getElem?_eq_getElem (by have := hnn.out; omega)⟩
    have ho := Aside0.mk (hf.out h x hx)
    obtain ⟨ad, A0, c0, e0, y0, y1, y2, y3, hl0, hC0⟩ := at_T33 hC.out (h : Int) (by omega) (by omega)
    rw [rd_33 hx] at y0 y1 y2 y3 hl0 hC0
    simp only [Int.toNat_natCast] at y0 y1 y2 y3
    cases e0
    have hxe := Aside0.mk hx
    have B0 := blk_cell BX.out 0
    have z0 : wr.cell? ⟨b, 0, none⟩ = some (.slice B u.f0.length d) := (blk_cell BX.out 0).trans rfl
    have z1 : wr.cell? ⟨b, 1, none⟩ = some (.int .i64 u.f1.f0) := (blk_cell BX.out 1).trans rfl
    have z2 : wr.cell? ⟨b, 2, none⟩ = some (.int .i64 u.f1.f1) := (blk_cell BX.out 2).trans rfl
    have z3 : wr.cell? ⟨b, 3, none⟩ = some (.int .i64 u.f2) := (blk_cell BX.out 3).trans rfl
    replace y0 := HB.out.cell (World.block_lt_of_cell? w _ y0) |>.trans y0
    replace y1 := HB.out.cell (World.block_lt_of_cell? w _ y1) |>.trans y1
    replace y2 := HB.out.cell (World.block_lt_of_cell? w _ y2) |>.trans y2
    replace y3 := HB.out.cell (World.block_lt_of_cell? w _ y3) |>.trans y3
    have CX := Aside0.mk hC0
    have LX := Aside0.mk hl0
    have hlt : (h : Int) < (n : Int) := by omega
    replace hh := Aside0.mk hh
    clear B0 hx hl0 hC0 e1 hhi
    go_region_held3 (fun w' => w'.cell? ⟨b, 0, none⟩ = some (.slice B u.f0.length d) ∧ w'.cell? ⟨b, 1, none⟩ = some (.int .i64 u.f1.f0) ∧ w'.cell? ⟨b, 2, none⟩ = some (.int .i64 u.f1.f1) ∧ w'.cell? ⟨b, 3, none⟩ = some (.int .i64 u.f2) ∧ w'.cell? (ad.add (h * 4)) = some (.slice A0 x.f0.length c0) ∧ w'.cell? ⟨(ad.add (h * 4)).block, (ad.add (h * 4)).off + 1, none⟩ = some (.int .i64 x.f1.f0) ∧ w'.cell? ⟨(ad.add (h * 4)).block, (ad.add (h * 4)).off + 2, none⟩ = some (.int .i64 x.f1.f1) ∧ w'.cell? ⟨(ad.add (h * 4)).block, (ad.add (h * 4)).off + 3, none⟩ = some (.int .i64 x.f2)) (first | exact ⟨z0, z1, z2, z3, y0, y1, y2, y3⟩ | exact ⟨pw_cell_below HB13.out z0, pw_cell_below HB13.out z1, pw_cell_below HB13.out z2, pw_cell_below HB13.out z3, pw_cell_below HB13.out y0, pw_cell_below HB13.out y1, pw_cell_below HB13.out y2, pw_cell_below HB13.out y3⟩) (first | (go_at_call 26; (with_reducible refine (order_at (A := A0) (c := c0) (x := x) (B := B) (d := d) (u := u) (r := f h) _ ?h1 LX.out ?h3 hd ho.out).mono ?_); (case h1 => exact Kd.C_below CX.out (below_drew HB.out)); (case h3 => exact Kd.C_below hR.out (below_drew HB.out)); rintro e w13 ⟨rfl, hb⟩; have HB13 : Aside0 (Below wr.heap.size wr w13) := Aside0.mk (below_then (below_drew (Below.refl _ _)) (Nat.le_refl _) hb); clear hb))
    have hI := HI.out
    have HB' := Aside0.mk (below_then HB.out HB.out.size HB13.out)
    have BX' := Aside0.mk (blk_below BX.out HB13.out)
    clear z0 z1 z2 z3 y0 y1 y2 y3 HB BX
    by_cases hneg : f h < 0
    · have hz : decide (f h < 0) = true := decide_eq_true hneg
      have hph : h < p := by
        rcases Nat.lt_or_ge h p with h' | h'
        · exact h'
        · have := h2.out h h' (by have := hnn.out; omega); omega
      go_wp2
      go_roundg (j - (h + 1))
      case measure => have := hh.out; omega
      case rel => have := hh.out; exact ⟨h + 1, j, by go_num, rfl, ⟨⟨by omega, by omega, by omega, by omega⟩⟩, BX', HB'⟩
    · have hz : decide (f h < 0) = false := decide_eq_false hneg
      have hph : p ≤ h := by
        rcases Nat.lt_or_ge h p with h' | h'
        · exact absurd (h1.out h h') hneg
        · exact h'
      go_wp2
      go_roundg (h - i)
      case measure => have := hh.out; omega
      case rel => have := hh.out; exact ⟨i, h, rfl, rfl, ⟨⟨by omega, by omega, by omega, by omega⟩⟩, BX', HB'⟩
  · have hI := HI.out
    have hlz : decide ((i : Int) < (j : Int)) = false := decide_eq_false (by omega)
    obtain rfl : i = p := by omega
    clear HI hI
    by_cases hpn : i < n
    · have hlz2 : decide ((i : Int) < (n : Int)) = true := decide_eq_true (by omega)
      obtain ⟨x, hx⟩ : ∃ x, us[i]? = some x := ⟨_, List.getElem?_eq_getElem (by have := hnn.out; omega)⟩
      have ho := Aside0.mk (hf.out i x hx)
      obtain ⟨ad, A0, c0, e0, y0, y1, y2, y3, hl0, hC0⟩ := at_T33 hC.out (i : Int) (by omega) (by omega)
      rw [rd_33 hx] at y0 y1 y2 y3 hl0 hC0
      simp only [Int.toNat_natCast] at y0 y1 y2 y3
      cases e0
      have z0 : wr.cell? ⟨b, 0, none⟩ = some (.slice B u.f0.length d) := (blk_cell BX.out 0).trans rfl
      have z1 : wr.cell? ⟨b, 1, none⟩ = some (.int .i64 u.f1.f0) := (blk_cell BX.out 1).trans rfl
      have z2 : wr.cell? ⟨b, 2, none⟩ = some (.int .i64 u.f1.f1) := (blk_cell BX.out 2).trans rfl
      have z3 : wr.cell? ⟨b, 3, none⟩ = some (.int .i64 u.f2) := (blk_cell BX.out 3).trans rfl
      replace y0 := HB.out.cell (World.block_lt_of_cell? w _ y0) |>.trans y0
      replace y1 := HB.out.cell (World.block_lt_of_cell? w _ y1) |>.trans y1
      replace y2 := HB.out.cell (World.block_lt_of_cell? w _ y2) |>.trans y2
      replace y3 := HB.out.cell (World.block_lt_of_cell? w _ y3) |>.trans y3
      have CX := Aside0.mk hC0
      have LX := Aside0.mk hl0
      have hlt : (i : Int) < (n : Int) := by omega
      clear hx hl0 hC0
      go_wp2_with fail
      go_region_held3 (fun w' => w'.cell? ⟨b, 0, none⟩ = some (.slice B u.f0.length d) ∧ w'.cell? ⟨b, 1, none⟩ = some (.int .i64 u.f1.f0) ∧ w'.cell? ⟨b, 2, none⟩ = some (.int .i64 u.f1.f1) ∧ w'.cell? ⟨b, 3, none⟩ = some (.int .i64 u.f2) ∧ w'.cell? (ad.add (i * 4)) = some (.slice A0 x.f0.length c0) ∧ w'.cell? ⟨(ad.add (i * 4)).block, (ad.add (i * 4)).off + 1, none⟩ = some (.int .i64 x.f1.f0) ∧ w'.cell? ⟨(ad.add (i * 4)).block, (ad.add (i * 4)).off + 2, none⟩ = some (.int .i64 x.f1.f1) ∧ w'.cell? ⟨(ad.add (i * 4)).block, (ad.add (i * 4)).off + 3, none⟩ = some (.int .i64 x.f2)) (first | exact ⟨z0, z1, z2, z3, y0, y1, y2, y3⟩ | exact ⟨pw_cell_below HB13.out z0, pw_cell_below HB13.out z1, pw_cell_below HB13.out z2, pw_cell_below HB13.out z3, pw_cell_below HB13.out y0, pw_cell_below HB13.out y1, pw_cell_below HB13.out y2, pw_cell_below HB13.out y3⟩) (first | (go_at_call 26; (with_reducible refine (order_at (A := A0) (c := c0) (x := x) (B := B) (d := d) (u := u) (r := f i) _ ?h1 LX.out ?h3 hd ho.out).mono ?_); (case h1 => exact Kd.C_below CX.out (below_drew HB.out)); (case h3 => exact Kd.C_below hR.out (below_drew HB.out)); rintro e w13 ⟨rfl, hb⟩; have HB13 : Aside0 (Below wr.heap.size wr w13) := Aside0.mk (below_then (below_drew (Below.refl _ _)) (Nat.le_refl _) hb); clear hb))
      have HB' := Aside0.mk (below_then HB.out HB.out.size HB13.out)
      clear z0 z1 z2 z3 y0 y1 y2 y3 HB BX
      go_wp2
      go_ret2
      refine ⟨?_, HB'.out⟩
      rw [show (decide (i < n ∧ f i = 0)) = (f i == 0) by rw [Bool.eq_iff_iff]; simp [hpn]]
      rfl
    · have hlz2 : decide ((i : Int) < (n : Int)) = false := decide_eq_false (by omega)
      go_wp2_with fail
      go_quiet (fail)
      go_wp2
      go_ret2
      refine ⟨?_, pw_below_drewN HB.out _⟩
      rw [show (decide (i < n ∧ f i = 0)) = false by simp [hpn]]
      rfl
end Go.Proofs.Ytednmkmhileikaa.G
