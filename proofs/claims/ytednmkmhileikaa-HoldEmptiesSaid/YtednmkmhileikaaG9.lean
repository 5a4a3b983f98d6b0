/- (*hold.Hold).Ups, Lower, Len. -/
import Derived.Test.YtednmkmhileikaaG8
namespace Go.Proofs.Ytednmkmhileikaa.G
open Go.RowKit Go.Proofs.YtednmkmhileikaaW.PrintWords Go.Proofs.YtednmkmhileikaaW.PrintLast Go.Proofs.YtednmkmhileikaaW.PrintMore Go.Proofs.Ytednmkmhileikaa.PHoldPlays
attribute [local go_sem] max2_int min2_int max_two min_two max_three min_three max_four min_four
set_option linter.unusedVariables false
set_option linter.unusedSimpArgs false
theorem hnew (w : World) : Calls Try.prog 8 #[] w fun e w' => ∃ h, e = .returned (.pointer (some ⟨h, 0, none⟩)) ∧ Hs w' h 0 none [] ∧ w.heap.size ≤ h ∧ Below w.heap.size w w' := by
 refine (new_calls w).mono ?_
 rintro e w' ⟨h, rfl, hh, hc, hB⟩
 exact ⟨h, rfl, ⟨Nat.zero_le _, none, 0, hc, rfl, Kd.N_nil _ _ _ _ _⟩, hh, hB⟩
theorem hlen {w : World} {h L : Nat} {ro : Option Nat} {us : List S33} (hH : Hs w h L ro us) : Calls Try.prog 19 #[.pointer (some ⟨h, 0, none⟩)] w fun e w' => e = .returned (.int .i64 us.length) ∧ ∃ nd, w' = w.drewN nd := by
 obtain ⟨_, A, c, hb, _⟩ := hH
 exact len_calls hb
theorem ups_nil (w : World) : Calls Try.prog 14 #[.pointer none] w fun e w' => e = .returned (.slice none 0 0) ∧ Below w.heap.size w w' := by
 go_enter Try.func14, Try.ntmps14
 go_wp2
 go_ret
 exact ⟨rfl, Below.refl _ _⟩
def UpsR (w : World) (us : List S33) (e : Ending) (w' : World) : Prop := ∃ v, e = .returned v ∧ k33.R 33 w' w.heap.size (fun _ => True) v us ∧ Below w.heap.size w w'
theorem take_snoc {α : Type} {us : List α} {k : Nat} {x : α} (h : us[k]? = some x) : us.take k ++ [x] = us.take (k + 1) := by
 rw [List.take_add_one, h]
 rfl
set_option maxHeartbeats 4000000 in
set_option maxRecDepth 100000 in
theorem ups_calls {w : World} {h L : Nat} {ro : Option Nat} {us : List S33} (hH : Hs w h L ro us) (hn : us.length ≤ 1000) (hrow : ∀ u ∈ us, u.f0.length < 4398046511104) : Calls Try.prog 14 #[.pointer (some ⟨h, 0, none⟩)] w (UpsR w us) := by
 obtain ⟨hL, E, ce, hb, hr, hN⟩ := hH
 obtain ⟨n, hnn⟩ : ∃ n, n = us.length := ⟨_, rfl⟩
 rw [← hnn] at hn hb hN
 have hC := Aside0.mk (hnn ▸ (Kd.N_reads' hN).2.2)
 have x0 : w.cell? ⟨h, 0, none⟩ = some (.slice E n ce) := (blk_cell hb 0).trans rfl
 replace hnn := Aside0.mk hnn
 replace hrow := Aside0.mk hrow
 clear hb hr hN
 go_enter Try.func14, Try.ntmps14
 go_wp2_with fail
 go_loopg [3, 13] n (fun gk v3 v13 wr => ∃ k : Nat, v13 = .int .i64 k ∧ k ≤ n ∧ n - k ≤ gk ∧ Aside0 (k33.R 33 wr w.heap.size (fun _ => True) v3 (us.take k)) ∧ Aside0 (Below w.heap.size w wr))
 case atStart => exact ⟨0, rfl, Nat.zero_le _, by omega, ⟨Kd.R_nil _ _ _ _ _⟩, ⟨Below.refl _ _⟩⟩
 case round =>
  obtain ⟨k, rfl, hk, hgk, HR, HB⟩ := hrel
  by_cases hlt : k < n
  · have hz : decide ((k : Int) < (n : Int)) = true := decide_eq_true (by omega)
    have hkz : (k : Int) < (n : Int) := by omega
    obtain ⟨x, hx⟩ : ∃ x, us[k]? = some x := ⟨_, List.getElem?_eq_getElem (by have := hnn.out; omega)⟩
    obtain ⟨ad, A0, c0, e0, y0, y1, y2, y3, hl0, hC0⟩ := at_T33 hC.out (k : Int) (by omega) (by omega)
    rw [rd_33 hx] at y0 y1 y2 y3 hl0 hC0
    simp only [Int.toNat_natCast] at y0 y1 y2 y3
    cases e0
    replace y0 := HB.out.cell (World.block_lt_of_cell? w _ y0) |>.trans y0
    replace y1 := HB.out.cell (World.block_lt_of_cell? w _ y1) |>.trans y1
    replace y2 := HB.out.cell (World.block_lt_of_cell? w _ y2) |>.trans y2
    replace y3 := HB.out.cell (World.block_lt_of_cell? w _ y3) |>.trans y3
    have hxe := Aside0.mk hx
    replace hC0 := Aside0.mk hC0
    have hcl := clone_ok x.f0 (hrow.out x (List.mem_of_getElem? hx))
    clear hx
    have z0 : (wr.alloc (.cells #[.slice A0 x.f0.length c0, .int .i64 x.f1.f0, .int .i64 x.f1.f1, .int .i64 x.f2] 33)).cell? ⟨wr.heap.size, 0, none⟩ = some (.slice A0 x.f0.length c0) := (blk_cell (blk_new wr _) 0).trans rfl
    go_wp2_with fail
    obtain ⟨b, hb⟩ : ∃ b, b = wr.heap.size := ⟨_, rfl⟩
    obtain ⟨w1, hw1⟩ : ∃ w1, w1 = wr.alloc (.cells #[.slice A0 x.f0.length c0, .int .i64 x.f1.f0, .int .i64 x.f1.f1, .int .i64 x.f2] 33) := ⟨_, rfl⟩
    rw [← hw1, ← hb]
    have hb1 : Below wr.heap.size wr w1 := by rw [hw1]; exact below_alloc (Below.refl _ _) _
    have BX1 := Aside0.mk (show w1.heap[b]? = some (.cells #[.slice A0 x.f0.length c0, .int .i64 x.f1.f0, .int .i64 x.f1.f1, .int .i64 x.f2] 33 (0, 0)) by rw [hw1, hb]; exact blk_new wr _)
    have HB1 := Aside0.mk (below_then HB.out HB.out.size hb1)
    have HR1 := Aside0.mk (Kd.R_mono (Kd.R_below (Kd.R_bound HR.out) hb1) (ok' := fun j => j < b) (fun j hj => by rw [hb]; exact hj.2.2.1))
    replace hb := Aside0.mk hb
    have hs00 := Aside0.mk HB.out.size
    clear hw1 hb1 z0 y0 y1 y2 y3 HR HB
    refine (api_Val_28.calls A0 c0 x.f0 x.f0 _ (Kd.C_below hC0.out HB1.out) hl0 hcl).mono ?_
    rintro e w2 ⟨v2, rfl, hR2, hb2⟩
    obtain ⟨B2, d2, rfl⟩ := Kd.R_slice hR2
    have BX2 := Aside0.mk (blk_below BX1.out hb2)
    have HB2 := Aside0.mk (below_then HB1.out HB1.out.size hb2)
    have HR2 := Aside0.mk (Kd.R_below HR1.out hb2)
    have R2 := Aside0.mk (Kd.R_mono (Kd.R_bound hR2) (ok' := fun j => b < j ∧ j < w2.heap.size) (fun j hj => ⟨Nat.lt_of_lt_of_le (blk_lt BX1.out) hj.2.1, hj.2.2.1⟩))
    have hs12 := Aside0.mk hb2.size
    have z0 : w2.cell? ⟨b, 0, none⟩ = some (.slice A0 x.f0.length c0) := (blk_cell BX2.out 0).trans rfl
    have z1 : w2.cell? ⟨b, 1, none⟩ = some (.int .i64 x.f1.f0) := (blk_cell BX2.out 1).trans rfl
    have z2 : w2.cell? ⟨b, 2, none⟩ = some (.int .i64 x.f1.f1) := (blk_cell BX2.out 2).trans rfl
    have z3 : w2.cell? ⟨b, 3, none⟩ = some (.int .i64 x.f2) := (blk_cell BX2.out 3).trans rfl
    have f0 := blk_frozen BX2.out 0
    clear hR2 hb2
    go_wp2_with (((with_reducible refine gate_builtin (b := .append) (xs := #[.tmp 21, .tmp 23]) rfl ?_); at_builtin; refine Kd.R_append k33 (w0 := w) w.heap.size rfl (.tmp 21) (.tmp 23) 29 33 (.agg #[.slice none 0 0, .int .i64 0, .int .i64 0, .int .i64 0]) 48 rfl Try.underlying29 info33 rfl (show 0 < 4 by decide) (by decide) u3 (us.take k) x [.slice B2 x.f0.length d2, .int .i64 x.f1.f0, .int .i64 x.f1.f1, .int .i64 x.f2] (fun _ => True) (fun j => b < j ∧ j < w2.heap.size) rfl ?aX ?aP ?aK (fun _ _ => trivial) ?aO ?aB ?aS ?aL ?_; (case aX => rw [setCell_size]; rfl); (case aP => exact k33_mkM _ _ _ x (Kd.R_far (Kd.R_lower R2.out HB1.out.size) (fun j hj => Nat.ne_of_gt hj.1) _)); (case aK => exact fun j hj => ⟨trivial, fun he => by have := HR2.out.1 j he.symm; omega⟩); (case aO => exact Kd.R_mono (Kd.R_far HR2.out (fun j hj => Nat.ne_of_lt hj) _) (fun _ _ => trivial)); (case aB => exact HB2.out.setCell (p := ⟨b, 0, none⟩) (by rw [hb.out]; exact hs00.out) _); (case aS => rw [setCell_size]; exact HB2.out.size); (case aL => rw [List.length_take]; omega); intro v5 w5 hR5 hB5 hg5 hat5; have R5 := Aside0.mk hR5; have B5 := Aside0.mk hB5; clear hR5 hB5 hg5 hat5))
    go_roundg (n - (k + 1))
    case measure => omega
    case rel => exact ⟨k + 1, by go_num, by omega, Nat.le_refl _, ⟨by rw [← take_snoc hxe.out]; exact R5.out⟩, B5⟩
  · have hz : decide ((k : Int) < (n : Int)) = false := decide_eq_false (by omega)
    go_wp2
    go_ret
    refine ⟨_, rfl, ?_, HB.out⟩
    have hkn : us.take k = us := List.take_of_length_le (by have := hnn.out; omega)
    rw [← hkn]
    exact HR.out
end Go.Proofs.Ytednmkmhileikaa.G
