/- (*hold.Hold).Lower. -/
import Derived.Test.YtednmkmhileikaaG7
namespace Go.Proofs.Ytednmkmhileikaa.G
open Go.RowKit Go.Proofs.YtednmkmhileikaaW.PrintWords Go.Proofs.YtednmkmhileikaaW.PrintLast Go.Proofs.YtednmkmhileikaaW.PrintMore Go.Proofs.Ytednmkmhileikaa.PHoldPlays
attribute [local go_sem] max2_int min2_int max_two min_two max_three min_three max_four min_four
set_option linter.unusedVariables false
set_option linter.unusedSimpArgs false
/-- There is none. -/
def NextNone (w : World) (e : Ending) (w' : World) : Prop := e = .returned (.tuple #[.agg #[.slice none 0 0, .int .i64 0, .int .i64 0, .int .i64 0], .bool false]) ∧ Below w.heap.size w w'
/-- x is told, and is held no more. -/
def NextSome (w : World) (h : Nat) (L : Nat → Prop) (ro : Option Nat) (x : S33) (vs : List S33) (e : Ending) (w' : World) : Prop := ∃ D d, e = .returned (.tuple #[.agg #[.slice D x.f0.length d, .int .i64 x.f1.f0, .int .i64 x.f1.f1, .int .i64 x.f2], .bool true]) ∧ x.f0.length ≤ d ∧ Kd.F k61 w' (fun k => ¬ Own h ro k ∧ L k) D x.f0.length x.f0 ∧ Hs w' h L ro vs ∧ Fr w w' (Own h ro)
set_option maxHeartbeats 4000000 in
set_option maxRecDepth 100000 in
theorem next_calls {w : World} {h : Nat} {L : Nat → Prop} {ro : Option Nat} {us : List S33} (A : Option Addr) (c : Nat) (fs : List S24) (hH : Hs w h L ro us) (hn : us.length ≤ 1000) (hC : k24.C w A fs.length fs) (hc : fs.length ≤ c) (hfn : fs.length < 4398046511104) (q : Option Nat) (hq : (us.findIdx? fun x => !(fs.any fun y => le y x.f1)) = q) (Po : Ending → World → Prop)
  (hPo : (q = none ∧ Po = NextNone w) ∨ ∃ p x, q = some p ∧ us[p]? = some x ∧ Po = NextSome w h L ro x (us.eraseIdx p)) : Calls Try.prog 11 #[.pointer (some ⟨h, 0, none⟩), .slice A fs.length c] w Po := by
 obtain ⟨hL, E, ce, hb, hr, hN⟩ := hH
 replace hb := Aside0.mk hb
 replace hN := Aside0.mk hN
 replace hr := Aside0.mk hr
 replace hC := Aside0.mk hC
 replace hPo := Aside0.mk hPo
 have HS := Aside0.mk (fun (B : Nat) (W : World) (hW : Below w.heap.size w W) (h0 : W.cell? ⟨B, 0, none⟩ = some (.slice A fs.length c)) => hq ▸ index_up E ce us A c fs B W (Kd.C_below (Kd.N_reads' hN.out).2.2 hW) (Kd.N_reads' hN.out).2.1 (by omega) (Kd.C_below hC.out hW) hc hfn h0)
 clear hq
 go_enter Try.func11, Try.ntmps11
 go_wp2_with (first
  | ((with_reducible refine gate_dst (N := 3) rfl ?_); refine box_event ?hg (N := 3) ?hd (cs := #[.slice A fs.length c]) (t := 34) ?hr ?_; (case hd => rfl); (case hg => rfl); (case hr => first | (go_simp; done) | (go_simp; rfl)); intro g0 hg0 w0 BK hb0; have hB := hb0; have GE : Aside0 (w.heap.size ≤ g0) := ⟨(by rw [hg0]; exact Nat.le_refl _)⟩; clear hb0 hg0)
  | ((with_reducible refine gate_dst (N := 4) rfl ?_); refine box_event ?hg (N := 4) ?hd (cs := #[.slice none 0 0, .int .i64 0, .int .i64 0, .int .i64 0]) (t := 33) ?hr ?_; (case hd => rfl); (case hg => rfl); (case hr => first | (go_simp; done) | (go_simp; rfl)); intro g1 hg1 w2 BG hb0; have BK2 := Aside0.mk (blk_below (g := g0) (o := .cells #[.slice A fs.length c] 34 (0, 0)) BK hb0); have hB2 : Aside0 (Below w.heap.size w w2) := ⟨below_step hB hb0⟩; have GE1 : Aside0 (w.heap.size ≤ g1) := ⟨(by rw [hg1]; exact below_size hB)⟩; have BG2 := Aside0.mk BG; have hn : g0 ≠ g1 := (by rw [hg1]; exact Nat.ne_of_lt (blk_lt BK)); clear hb0 hg1 BK hB BG; have x0 : w2.cell? ⟨h, 0, none⟩ = some (.slice E us.length ce) := (blk_cell (blk_below hb.out hB2.out) 0).trans rfl))
 refine (HS.out g0 w2 hB2.out ((blk_cell BK2.out 0).trans rfl)).mono ?_
 rintro e w3 ⟨rfl, hb3⟩
 have hB3 := Aside0.mk (below_then hB2.out hB2.out.size hb3)
 have BG3 := Aside0.mk (blk_below BG2.out hb3)
 have HX3 := Aside0.mk (blk_below hb.out hB3.out)
 clear hb3 BK2 BG2 hB2 x0 HS
 rcases hPo.out with ⟨rfl, hPe⟩ | ⟨p, x, rfl, hx, hPe⟩
 · have d1 : posI none = -1 := rfl
   rw [d1]
   have ac0 : w3.cell? ⟨g1, 0, none⟩ = some (.slice none 0 0) := (blk_cell BG3.out 0).trans rfl
   have af0 := blk_frozen BG3.out 0
   have ac1 : w3.cell? ⟨g1, 1, none⟩ = some (.int .i64 0) := (blk_cell BG3.out 1).trans rfl
   have af1 := blk_frozen BG3.out 1
   have ac2 : w3.cell? ⟨g1, 2, none⟩ = some (.int .i64 0) := (blk_cell BG3.out 2).trans rfl
   have af2 := blk_frozen BG3.out 2
   have ac3 : w3.cell? ⟨g1, 3, none⟩ = some (.int .i64 0) := (blk_cell BG3.out 3).trans rfl
   have af3 := blk_frozen BG3.out 3
   replace hPe := Aside0.mk hPe
   go_wp2
   (try simp only [Exit.inBlock, Exit.then])
   refine bodyPost_ret (v := .tuple #[.agg #[.slice none 0 0, .int .i64 0, .int .i64 0, .int .i64 0], .bool false]) ?_ rfl ?_
   · rw [results_cell_tmp rfl]
     go_simp
   · rw [hPe.out]
     refine ⟨rfl, ?_⟩
     iterate 4 refine below_set ?_ GE1.out
     exact hB3.out
 · have d1 : posI (some p) = (p : Int) := rfl
   rw [d1]
   have hpl : p < us.length := (List.getElem?_eq_some_iff.1 hx).1
   obtain ⟨g, rfl⟩ := N_some hN.out (by omega)
   have HN3 := Aside0.mk (Kd.N_below (Kd.N_bound hN.out) hB3.out)
   obtain ⟨cs, hcsl, hKx, hcc⟩ := Kd.N_get hN.out z33 (p : Int) (by omega) (by omega)
   have hgx : us.getD ((p : Int)).toNat z33 = x := by rw [Int.toNat_natCast, List.getD_eq_getElem?_getD, hx]; rfl
   rw [hgx] at hKx
   obtain ⟨A0, c0, hcs0, hl0, hF0⟩ := k33_openF hKx
   subst hcs0
   have hcc' : ∀ j v, [Value.slice A0 x.f0.length c0, .int .i64 x.f1.f0, .int .i64 x.f1.f1, .int .i64 x.f2][j]? = some v → w3.cell? ⟨g, p * 4 + j, none⟩ = some v := fun j v hj => by
     have := hcc j v hj
     rw [Int.toNat_natCast, show k33.sz = 4 from rfl, add_plain] at this
     exact (hB3.out.cell (World.block_lt_of_cell? w _ this)).trans this
   have y0 : w3.cell? ⟨g, p * 4, none⟩ = some (.slice A0 x.f0.length c0) := hcc' 0 _ rfl
   have y1 : w3.cell? ⟨g, p * 4 + 1, none⟩ = some (.int .i64 x.f1.f0) := hcc' 1 _ rfl
   have y2 : w3.cell? ⟨g, p * 4 + 2, none⟩ = some (.int .i64 x.f1.f1) := hcc' 2 _ rfl
   have y3 : w3.cell? ⟨g, p * 4 + 3, none⟩ = some (.int .i64 x.f2) := hcc' 3 _ rfl
   have x0 : w3.cell? ⟨h, 0, none⟩ = some (.slice (some ⟨g, 0, none⟩) us.length ce) := (blk_cell HX3.out 0).trans rfl
   have hlt : (p : Int) < (us.length : Int) := by omega
   have hneg : decide ((p : Int) < 0) = false := decide_eq_false (by omega)
   have e1 : IntKind.i64.wrap ((p : Int) + 1) = (p : Int) + 1 := IntWalk.i64_in _ (by omega)
   replace hPe := Aside0.mk hPe
   replace hF0 := Aside0.mk (Kd.F_below (Kd.F_bound hF0) hB3.out)
   replace hl0 := Aside0.mk hl0
   clear hcc hcc' hcsl hgx hKx hx
   have x4 : (w3.alloc (.cells #[.slice A0 x.f0.length c0, .int .i64 x.f1.f0, .int .i64 x.f1.f1, .int .i64 x.f2] 33)).cell? ⟨h, 0, none⟩ = some (.slice (some ⟨g, 0, none⟩) us.length ce) := pw_cell_below (below_alloc (Below.refl _ _) _) x0
   go_wp2_with fail
   obtain ⟨b2, hb2⟩ : ∃ b2, b2 = w3.heap.size := ⟨_, rfl⟩
   obtain ⟨w4, hw4⟩ : ∃ w4, w4 = w3.alloc (.cells #[.slice A0 x.f0.length c0, .int .i64 x.f1.f0, .int .i64 x.f1.f1, .int .i64 x.f2] 33) := ⟨_, rfl⟩
   rw [← hw4, ← hb2]
   have hB34 : Below w3.heap.size w3 w4 := by rw [hw4]; exact below_alloc (Below.refl _ _) _
   have B24 := Aside0.mk (show w4.heap[b2]? = some (.cells #[.slice A0 x.f0.length c0, .int .i64 x.f1.f0, .int .i64 x.f1.f1, .int .i64 x.f2] 33 (0, 0)) by rw [hw4, hb2]; exact blk_new w3 _)
   have hB4 := Aside0.mk (below_then hB3.out hB3.out.size hB34)
   have HX4 := Aside0.mk (blk_below HX3.out hB34)
   have BG4 := Aside0.mk (blk_below BG3.out hB34)
   have HN4 := Aside0.mk (Kd.N_below HN3.out hB34)
   have F04 := Aside0.mk (Kd.F_below hF0.out hB34)
   have hglt : g < w.heap.size := Kd.N_lt hN.out g rfl
   have hglt3 : g < w3.heap.size := Nat.lt_of_lt_of_le hglt hB3.out.size
   have hgh : g ≠ h := (hN.out.1 g rfl).1
   have hhlt : h < w.heap.size := blk_lt hb.out
   have ng1 : Aside0 (g1 ≠ g ∧ b2 ≠ g ∧ b2 ≠ h ∧ g1 ≠ h ∧ b2 ≠ g1 ∧ w.heap.size ≤ b2) := ⟨by have := GE1.out; omega, by omega, by have := hB3.out.size; omega, by have := GE1.out; omega, by have := blk_lt BG3.out; omega, by have := hB3.out.size; omega⟩
   clear hw4 hb2 hB34 x4 x0 y0 y1 y2 y3 HX3 BG3 HN3 hB3 hF0
   refine (delete_calls HN4.out hpl (by omega)).mono ?_
   rintro e w5 ⟨rfl, hN5, hF5⟩
   have N5 := Aside0.mk hN5
   have F5 := Aside0.mk hF5
   have HX5 := Aside0.mk (hF5.keep HX4.out (fun he => hgh he.symm))
   have BG5 := Aside0.mk (hF5.keep BG4.out ng1.out.1)
   have B25 := Aside0.mk (hF5.keep B24.out ng1.out.2.1)
   have F05 := Aside0.mk (Kd.F_step F04.out (fun k hk hlt => hF5.block k hlt (fun he => hk.1.2 (by rw [he]; rfl))))
   have x5 : w5.cell? ⟨h, 0, none⟩ = some (.slice (some ⟨g, 0, none⟩) us.length ce) := (blk_cell HX5.out 0).trans rfl
   have f5 := blk_frozen HX5.out 0
   have ac0 : w5.cell? ⟨g1, 0, none⟩ = some (.slice none 0 0) := (blk_cell BG5.out 0).trans rfl
   have af0 := blk_frozen BG5.out 0
   have ac1 : w5.cell? ⟨g1, 1, none⟩ = some (.int .i64 0) := (blk_cell BG5.out 1).trans rfl
   have af1 := blk_frozen BG5.out 1
   have ac2 : w5.cell? ⟨g1, 2, none⟩ = some (.int .i64 0) := (blk_cell BG5.out 2).trans rfl
   have af2 := blk_frozen BG5.out 2
   have ac3 : w5.cell? ⟨g1, 3, none⟩ = some (.int .i64 0) := (blk_cell BG5.out 3).trans rfl
   have af3 := blk_frozen BG5.out 3
   have bc0 : w5.cell? ⟨b2, 0, none⟩ = some (.slice A0 x.f0.length c0) := (blk_cell B25.out 0).trans rfl
   have bc1 : w5.cell? ⟨b2, 1, none⟩ = some (.int .i64 x.f1.f0) := (blk_cell B25.out 1).trans rfl
   have bc2 : w5.cell? ⟨b2, 2, none⟩ = some (.int .i64 x.f1.f1) := (blk_cell B25.out 2).trans rfl
   have bc3 : w5.cell? ⟨b2, 3, none⟩ = some (.int .i64 x.f2) := (blk_cell B25.out 3).trans rfl
   have n1 := ng1.out.2.2.1
   have n2 := ng1.out.2.2.2.1
   have n3 := ng1.out.2.2.2.2.1
   have n4 := Ne.symm n1
   have n5 := Ne.symm n2
   have n6 := Ne.symm n3
   clear hN5 hF5 HX4 BG4 B24 HN4 F04
   go_wp2
   (try simp only [Exit.inBlock, Exit.then])
   refine bodyPost_ret (v := .tuple #[.agg #[.slice A0 x.f0.length c0, .int .i64 x.f1.f0, .int .i64 x.f1.f1, .int .i64 x.f2], .bool true]) ?_ rfl ?_
   · rw [results_cell_tmp rfl]
     go_simp
   · rw [hPe.out]
     have key : ∀ k, k ≠ h → k ≠ g1 → (((((w5.setCell ⟨h, 0, none⟩ (.slice (some ⟨g, 0, none⟩) (us.length - 1) ce)).setCell ⟨g1, 0, none⟩ (.slice A0 x.f0.length c0)).setCell ⟨g1, 1, none⟩ (.int .i64 x.f1.f0)).setCell ⟨g1, 2, none⟩ (.int .i64 x.f1.f1)).setCell ⟨g1, 3, none⟩ (.int .i64 x.f2)).heap[k]? = w5.heap[k]? := fun k h1 h2 => by
      rw [Below.heap_setCell _ _ _ _ h2, Below.heap_setCell _ _ _ _ h2, Below.heap_setCell _ _ _ _ h2, Below.heap_setCell _ _ _ _ h2, Below.heap_setCell _ _ _ _ h1]
     have hel : (us.eraseIdx p).length = us.length - 1 := by rw [List.length_eraseIdx, if_pos hpl]
     refine ⟨A0, c0, rfl, hl0.out, ?_, ⟨fun b hbb => hL b (by rw [setCell_size, setCell_size, setCell_size, setCell_size, setCell_size] at hbb; have := hB4.out.size; have := F5.out.size; omega), some ⟨g, 0, none⟩, ce, ?_, by rw [hr.out]; rfl, ?_⟩, ?_⟩
     · refine Kd.F_mono (Kd.F_step F05.out (fun k hk _ => key k hk.1.1.1 (by have := hk.2; have := GE1.out; omega))) (fun k hk => ⟨?_, hk.1.1.2⟩)
       rintro (h1 | h1)
       · exact hk.1.1.1 h1
       · exact hk.1.2 (by rw [h1, hr.out])
     · rw [hel]
       refine blk_far (blk_far (blk_far (blk_far ?_ n5 _) n5 _) n5 _) n5 _
       exact blk_put (cs := #[.slice (some ⟨g, 0, none⟩) us.length ce]) HX5.out 0 _ rfl
     · rw [hel]
       exact Kd.N_mono (Kd.N_step N5.out (fun k hk _ => key k hk.1.1 (by have := hk.2; have := GE1.out; omega))) (fun k hk => hk.1)
     · have F0 := (Fr.of_below hB4.out (Own h ro)).trans F5.out (fun i _ hi => .inr (by rw [hr.out, hi]; rfl))
       have hg1' : g1 < w.heap.size → Own h ro g1 := fun hlt => absurd hlt (by have := GE1.out; omega)
       exact ((((F0.set (p := ⟨h, 0, none⟩) (fun _ => .inl rfl) _).set (p := ⟨g1, 0, none⟩) hg1' _).set (p := ⟨g1, 1, none⟩) hg1' _).set (p := ⟨g1, 2, none⟩) hg1' _).set (p := ⟨g1, 3, none⟩) hg1' _
end Go.Proofs.Ytednmkmhileikaa.G
namespace Go.Proofs.Ytednmkmhileikaa.G
open Go.RowKit Go.Proofs.YtednmkmhileikaaW.PrintWords Go.Proofs.YtednmkmhileikaaW.PrintLast Go.Proofs.YtednmkmhileikaaW.PrintMore Go.Proofs.Ytednmkmhileikaa.PHoldPlays
attribute [local go_sem] max2_int min2_int max_two min_two max_three min_three max_four min_four
set_option linter.unusedVariables false
set_option linter.unusedSimpArgs false
theorem hnew (w : World) : Calls Try.prog 8 #[] w fun e w' => ∃ h, e = .returned (.pointer (some ⟨h, 0, none⟩)) ∧ Hs w' h (fun _ => True) none [] ∧ w.heap.size ≤ h ∧ Below w.heap.size w w' := by
 refine (new_calls w).mono ?_
 rintro e w' ⟨h, rfl, hh, hc, hB⟩
 exact ⟨h, rfl, ⟨fun _ _ => trivial, none, 0, hc, rfl, Kd.N_nil _ _ _ _ _⟩, hh, hB⟩
theorem hlen {w : World} {h : Nat} {L : Nat → Prop} {ro : Option Nat} {us : List S33} (hH : Hs w h L ro us) : Calls Try.prog 19 #[.pointer (some ⟨h, 0, none⟩)] w fun e w' => e = .returned (.int .i64 us.length) ∧ ∃ nd, w' = w.drewN nd := by
 obtain ⟨_, A, c, hb, _⟩ := hH
 exact len_calls hb
def UpsR (w : World) (us : List S33) (e : Ending) (w' : World) : Prop := ∃ v, e = .returned v ∧ k33.R 33 w' w.heap.size (fun _ => True) v us ∧ Below w.heap.size w w'
theorem take_snoc {α : Type} {us : List α} {k : Nat} {x : α} (h : us[k]? = some x) : us.take k ++ [x] = us.take (k + 1) := by
 rw [List.take_add_one, h]
 rfl
set_option maxHeartbeats 4000000 in
set_option maxRecDepth 100000 in
theorem ups_calls {w : World} {h : Nat} {L : Nat → Prop} {ro : Option Nat} {us : List S33} (hH : Hs w h L ro us) (hn : us.length ≤ 1000) (hrow : ∀ u ∈ us, u.f0.length < 4398046511104) : Calls Try.prog 14 #[.pointer (some ⟨h, 0, none⟩)] w (UpsR w us) := by
 obtain ⟨hL, E, ce, hb, hr, hN⟩ := hH
 obtain ⟨n, hnn⟩ : ∃ n, n = us.length := ⟨_, rfl⟩
 rw [← hnn] at hn hb hN
 have hC := Aside0.mk (hnn ▸ (Kd.N_reads' hN).2.2)
 have x0 : w.cell? ⟨h, 0, none⟩ = some (.slice E n ce) := (blk_cell hb 0).trans rfl
 replace hnn := Aside0.mk hnn
 replace hrow := Aside0.mk hrow
 clear hb hr hN
 go_enter Try.func14, Try.ntmps14
 go_wp2_with fail
 go_loopg [3, 13] n (fun gk v3 v13 wr => ∃ k : Nat, v13 = .int .i64 k ∧ k ≤ n ∧ n - k ≤ gk ∧ Aside0 (k33.R 33 wr w.heap.size (fun _ => True) v3 (us.take k)) ∧ Aside0 (Below w.heap.size w wr))
 case atStart => exact ⟨0, rfl, Nat.zero_le _, by omega, ⟨Kd.R_nil _ _ _ _ _⟩, ⟨Below.refl _ _⟩⟩
 case round =>
  obtain ⟨k, rfl, hk, hgk, HR, HB⟩ := hrel
  by_cases hlt : k < n
  · have hz : decide ((k : Int) < (n : Int)) = true := decide_eq_true (by omega)
    have hkz : (k : Int) < (n : Int) := by omega
    obtain ⟨x, hx⟩ : ∃ x, us[k]? = some x := ⟨_, List.getElem?_eq_getElem (by have := hnn.out; omega)⟩
    obtain ⟨ad, A0, c0, e0, y0, y1, y2, y3, hl0, hC0⟩ := at_T33 hC.out (k : Int) (by omega) (by omega)
    rw [rd_33 hx] at y0 y1 y2 y3 hl0 hC0
    simp only [Int.toNat_natCast] at y0 y1 y2 y3
    cases e0
    replace y0 := HB.out.cell (World.block_lt_of_cell? w _ y0) |>.trans y0
    replace y1 := HB.out.cell (World.block_lt_of_cell? w _ y1) |>.trans y1
    replace y2 := HB.out.cell (World.block_lt_of_cell? w _ y2) |>.trans y2
    replace y3 := HB.out.cell (World.block_lt_of_cell? w _ y3) |>.trans y3
    have hxe := Aside0.mk hx
    replace hC0 := Aside0.mk hC0
    have hcl := clone_ok x.f0 (hrow.out x (List.mem_of_getElem? hx))
    clear hx
    have z0 : (wr.alloc (.cells #[.slice A0 x.f0.length c0, .int .i64 x.f1.f0, .int .i64 x.f1.f1, .int .i64 x.f2] 33)).cell? ⟨wr.heap.size, 0, none⟩ = some (.slice A0 x.f0.length c0) := (blk_cell (blk_new wr _) 0).trans rfl
    go_wp2_with fail
    obtain ⟨b, hb⟩ : ∃ b, b = wr.heap.size := ⟨_, rfl⟩
    obtain ⟨w1, hw1⟩ : ∃ w1, w1 = wr.alloc (.cells #[.slice A0 x.f0.length c0, .int .i64 x.f1.f0, .int .i64 x.f1.f1, .int .i64 x.f2] 33) := ⟨_, rfl⟩
    rw [← hw1, ← hb]
    have hb1 : Below wr.heap.size wr w1 := by rw [hw1]; exact below_alloc (Below.refl _ _) _
    have BX1 := Aside0.mk (show w1.heap[b]? = some (.cells #[.slice A0 x.f0.length c0, .int .i64 x.f1.f0, .int .i64 x.f1.f1, .int .i64 x.f2] 33 (0, 0)) by rw [hw1, hb]; exact blk_new wr _)
    have HB1 := Aside0.mk (below_then HB.out HB.out.size hb1)
    have HR1 := Aside0.mk (Kd.R_mono (Kd.R_below (Kd.R_bound HR.out) hb1) (ok' := fun j => j < b) (fun j hj => by rw [hb]; exact hj.2.2.1))
    replace hb := Aside0.mk hb
    have hs00 := Aside0.mk HB.out.size
    clear hw1 hb1 z0 y0 y1 y2 y3 HR HB
    refine (api_Val_28.calls A0 c0 x.f0 x.f0 _ (Kd.C_below hC0.out HB1.out) hl0 hcl).mono ?_
    rintro e w2 ⟨v2, rfl, hR2, hb2⟩
    obtain ⟨B2, d2, rfl⟩ := Kd.R_slice hR2
    have BX2 := Aside0.mk (blk_below BX1.out hb2)
    have HB2 := Aside0.mk (below_then HB1.out HB1.out.size hb2)
    have HR2 := Aside0.mk (Kd.R_below HR1.out hb2)
    have R2 := Aside0.mk (Kd.R_mono (Kd.R_bound hR2) (ok' := fun j => b < j ∧ j < w2.heap.size) (fun j hj => ⟨Nat.lt_of_lt_of_le (blk_lt BX1.out) hj.2.1, hj.2.2.1⟩))
    have hs12 := Aside0.mk hb2.size
    have z0 : w2.cell? ⟨b, 0, none⟩ = some (.slice A0 x.f0.length c0) := (blk_cell BX2.out 0).trans rfl
    have z1 : w2.cell? ⟨b, 1, none⟩ = some (.int .i64 x.f1.f0) := (blk_cell BX2.out 1).trans rfl
    have z2 : w2.cell? ⟨b, 2, none⟩ = some (.int .i64 x.f1.f1) := (blk_cell BX2.out 2).trans rfl
    have z3 : w2.cell? ⟨b, 3, none⟩ = some (.int .i64 x.f2) := (blk_cell BX2.out 3).trans rfl
    have f0 := blk_frozen BX2.out 0
    clear hR2 hb2
    go_wp2_with (((with_reducible refine gate_builtin (b := .append) (xs := #[.tmp 21, .tmp 23]) rfl ?_); at_builtin; refine Kd.R_append k33 (w0 := w) w.heap.size rfl (.tmp 21) (.tmp 23) 29 33 (.agg #[.slice none 0 0, .int .i64 0, .int .i64 0, .int .i64 0]) 48 rfl Try.underlying29 info33 rfl (show 0 < 4 by decide) (by decide) u3 (us.take k) x [.slice B2 x.f0.length d2, .int .i64 x.f1.f0, .int .i64 x.f1.f1, .int .i64 x.f2] (fun _ => True) (fun j => b < j ∧ j < w2.heap.size) rfl ?aX ?aP ?aK (fun _ _ => trivial) ?aO ?aB ?aS ?aL ?_; (case aX => rw [setCell_size]; rfl); (case aP => exact k33_mkM _ _ _ x (Kd.R_far (Kd.R_lower R2.out HB1.out.size) (fun j hj => Nat.ne_of_gt hj.1) _)); (case aK => exact fun j hj => ⟨trivial, fun he => by have := HR2.out.1 j he.symm; omega⟩); (case aO => exact Kd.R_mono (Kd.R_far HR2.out (fun j hj => Nat.ne_of_lt hj) _) (fun _ _ => trivial)); (case aB => exact HB2.out.setCell (p := ⟨b, 0, none⟩) (by rw [hb.out]; exact hs00.out) _); (case aS => rw [setCell_size]; exact HB2.out.size); (case aL => rw [List.length_take]; omega); intro v5 w5 hR5 hB5 hg5 hat5; have R5 := Aside0.mk hR5; have B5 := Aside0.mk hB5; clear hR5 hB5 hg5 hat5))
    go_roundg (n - (k + 1))
    case measure => omega
    case rel => exact ⟨k + 1, by go_num, by omega, Nat.le_refl _, ⟨by rw [← take_snoc hxe.out]; exact R5.out⟩, B5⟩
  · have hz : decide ((k : Int) < (n : Int)) = false := decide_eq_false (by omega)
    go_wp2
    go_ret
    refine ⟨_, rfl, ?_, HB.out⟩
    have hkn : us.take k = us := List.take_of_length_le (by have := hnn.out; omega)
    rw [← hkn]
    exact HR.out
end Go.Proofs.Ytednmkmhileikaa.G
namespace Go.Proofs.Ytednmkmhileikaa.G
open Go.RowKit Go.Proofs.YtednmkmhileikaaW.PrintWords Go.Proofs.YtednmkmhileikaaW.PrintLast Go.Proofs.YtednmkmhileikaaW.PrintMore Go.Proofs.Ytednmkmhileikaa.PHoldPlays
attribute [local go_sem] max2_int min2_int max_two min_two max_three min_three max_four min_four
set_option linter.unusedVariables false
set_option linter.unusedSimpArgs false
end Go.Proofs.Ytednmkmhileikaa.G
