/- (*hold.Hold).Lower. -/
import Derived.Test.YtednmkmhileikaaG9
namespace Go.Proofs.Ytednmkmhileikaa.G
open Go.RowKit Go.Proofs.YtednmkmhileikaaW.PrintWords Go.Proofs.YtednmkmhileikaaW.PrintLast Go.Proofs.YtednmkmhileikaaW.PrintMore Go.Proofs.Ytednmkmhileikaa.PHoldPlays
attribute [local go_sem] max2_int min2_int max_two min_two max_three min_three max_four min_four
set_option linter.unusedVariables false
set_option linter.unusedSimpArgs false
/-- What New answers at times. -/
def NewAt (ts rs : List S24) : Prop := ∀ (w : World) (A : Option Addr) (c : Nat), Kd.C k24 w A ts.length ts → ts.length ≤ c → Calls Try.prog 40 #[.slice A ts.length c] w fun e w' => ∃ v, e = .returned v ∧ Kd.R k24 24 w' w.heap.size (fun _ => True) v rs ∧ Below w.heap.size w w'
def Lowered (w : World) (rs : List S24) (e : Ending) (w' : World) : Prop := ∃ v, e = .returned v ∧ Kd.R k24 24 w' w.heap.size (fun _ => True) v rs ∧ Below w.heap.size w w'
set_option maxHeartbeats 4000000 in
set_option maxRecDepth 100000 in
theorem lower_calls {w : World} {us : List S33} (q : Option Addr) (hU : Calls Try.prog 14 #[.pointer q] w (UpsR w us)) (hn : us.length ≤ 1000) (rs : List S24) (hN : NewAt (us.map (·.f1)) rs) : Calls Try.prog 22 #[.pointer q] w (Lowered w rs) := by
 replace hU := Aside0.mk hU
 replace hN := Aside0.mk hN
 go_enter Try.func22, Try.ntmps22
 go_wp2_with fail
 refine hU.out.mono ?_
 rintro e w1 ⟨v1, rfl, hR1, hB1⟩
 obtain ⟨E, ce, rfl⟩ := Kd.R_slice hR1
 obtain ⟨n, hnn⟩ : ∃ n, n = us.length := ⟨_, rfl⟩
 have hC := Aside0.mk (hnn ▸ (Kd.R_reads' hR1).2.2)
 rw [← hnn] at hn ⊢
 replace hnn := Aside0.mk hnn
 replace hB1 := Aside0.mk hB1
 clear hR1 hU
 go_wp2_with fail
 go_loopg [3, 9] n (fun gk v3 v9 wr => ∃ (k : Nat), v9 = .int .i64 k ∧ k ≤ n ∧ n - k ≤ gk ∧ Aside0 (Kd.R k24 24 wr w1.heap.size (fun _ => True) v3 ((us.take k).map (·.f1))) ∧ Aside0 (Below w1.heap.size w1 wr))
 case atStart => exact ⟨0, rfl, Nat.zero_le _, by omega, ⟨Kd.R_nil _ _ _ _ _⟩, ⟨Below.refl _ _⟩⟩
 case round =>
  obtain ⟨k, rfl, hk, hgk, HR, HB1⟩ := hrel
  by_cases hlt : k < n
  · have hz : decide ((k : Int) < (n : Int)) = true := decide_eq_true (by omega)
    have hkz : (k : Int) < (n : Int) := by omega
    obtain ⟨x, hx⟩ : ∃ x, us[k]? = some x := ⟨_, List.getElem?_eq_getElem (by have := hnn.out; omega)⟩
    obtain ⟨ad, A0, c0, e0, y0, y1, y2, y3, hl0, hC0⟩ := at_T33 hC.out (k : Int) (by omega) (by omega)
    rw [rd_33 hx] at y0 y1 y2 y3 hl0 hC0
    simp only [Int.toNat_natCast] at y0 y1 y2 y3
    cases e0
    replace y0 := HB1.out.cell (World.block_lt_of_cell? w1 _ y0) |>.trans y0
    replace y1 := HB1.out.cell (World.block_lt_of_cell? w1 _ y1) |>.trans y1
    replace y2 := HB1.out.cell (World.block_lt_of_cell? w1 _ y2) |>.trans y2
    replace y3 := HB1.out.cell (World.block_lt_of_cell? w1 _ y3) |>.trans y3
    have hxe := Aside0.mk hx
    clear hx hl0 hC0
    obtain ⟨w2, hw2⟩ : ∃ w2, w2 = wr.alloc (.cells #[.slice A0 x.f0.length c0, .int .i64 x.f1.f0, .int .i64 x.f1.f1, .int .i64 x.f2] 33) := ⟨_, rfl⟩
    have hb2 : Below wr.heap.size wr w2 := by rw [hw2]; exact below_alloc (Below.refl _ _) _
    have z1 : (wr.alloc (.cells #[.slice A0 x.f0.length c0, .int .i64 x.f1.f0, .int .i64 x.f1.f1, .int .i64 x.f2] 33)).cell? ⟨wr.heap.size, 1, none⟩ = some (.int .i64 x.f1.f0) := (blk_cell (blk_new wr _) 1).trans rfl
    have z2 : (wr.alloc (.cells #[.slice A0 x.f0.length c0, .int .i64 x.f1.f0, .int .i64 x.f1.f1, .int .i64 x.f2] 33)).cell? ⟨wr.heap.size, 2, none⟩ = some (.int .i64 x.f1.f1) := (blk_cell (blk_new wr _) 2).trans rfl
    have HR2 := Aside0.mk (Kd.R_below HR.out hb2)
    have HB12 := Aside0.mk (below_then HB1.out HB1.out.size hb2)
    replace hw2 := Aside0.mk hw2
    clear hb2 HR HB1
    go_wp2_with (((with_reducible refine gate_builtin (b := .append) (xs := #[.tmp 13, .tmp 16]) rfl ?_); at_builtin; refine Kd.R_append k24 (w0 := w1) w1.heap.size rfl (.tmp 13) (.tmp 16) 34 24 (.agg #[.int .i64 0, .int .i64 0]) 16 rfl Try.underlying34 info24 rfl (show 0 < 2 by decide) (by decide) u3 ((us.take k).map (·.f1)) x.f1 [.int .i64 x.f1.f0, .int .i64 x.f1.f1] (fun _ => True) (fun _ => False) rfl ?aX ?aP ?aK (fun _ _ => trivial) ?aO ?aB ?aS ?aL ?_; (case aX => first | rfl | (rw [World.size_alloc]; rfl)); (case aP => exact k24_mkM _ _ _ x.f1); (case aK => exact fun j hj => hj.elim); (case aO => rw [← hw2.out]; exact HR2.out); (case aB => rw [← hw2.out]; exact HB12.out); (case aS => rw [← hw2.out]; exact HB12.out.size); (case aL => rw [List.length_map, List.length_take]; omega); rw [← hw2.out]; intro v5 w5 hR5 hB5 hg5 hat5; have R5 := Aside0.mk hR5; have B5 := Aside0.mk hB5; clear hR5 hB5 hg5 hat5))
    go_roundg (n - (k + 1))
    case measure => omega
    case rel => exact ⟨k + 1, by go_num, by omega, Nat.le_refl _, ⟨by rw [← take_snoc hxe.out, List.map_append]; exact R5.out⟩, B5⟩
  · have hz : decide ((k : Int) < (n : Int)) = false := decide_eq_false (by omega)
    have hkn : us.take k = us := List.take_of_length_le (by have := hnn.out; omega)
    rw [hkn] at HR
    obtain ⟨B, d, e3⟩ := Kd.R_slice HR.out
    have hlm : (us.map (·.f1)).length = n := by rw [List.length_map]; exact hnn.out.symm
    have hr' := Kd.R_reads' (e3 ▸ HR.out)
    have HNC := hN.out wr B d hr'.2.2 hr'.2.1
    rw [hlm] at HNC e3
    subst e3
    replace HNC := Aside0.mk HNC
    have HB := Aside0.mk (below_then hB1.out hB1.out.size HB1.out)
    clear hr' hlm
    go_wp2_with fail
    refine HNC.out.mono ?_
    rintro e w6 ⟨v6, rfl, hR6, hB6⟩
    have R6 := Aside0.mk (Kd.R_lower hR6 HB.out.size)
    have B6 := Aside0.mk (below_then HB.out HB.out.size hB6)
    clear hR6 hB6
    go_wp2
    go_ret
    exact ⟨v6, rfl, R6.out, B6.out⟩
end Go.Proofs.Ytednmkmhileikaa.G
