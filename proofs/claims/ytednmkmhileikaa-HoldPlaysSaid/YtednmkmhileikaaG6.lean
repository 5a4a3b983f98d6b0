/- (*hold.Hold).Add of a change that is there. -/
import Derived.Test.YtednmkmhileikaaG5
namespace Go.Proofs.Ytednmkmhileikaa.G
open Go.RowKit Go.Proofs.YtednmkmhileikaaW.PrintWords Go.Proofs.YtednmkmhileikaaW.PrintLast Go.Proofs.YtednmkmhileikaaW.PrintMore Go.Proofs.Ytednmkmhileikaa.PHoldPlays
attribute [local go_sem] max2_int min2_int max_two min_two max_three min_three max_four min_four
set_option linter.unusedVariables false
set_option linter.unusedSimpArgs false
section
variable {w : World} {h L : Nat} {ro : Option Nat} {us : List S33}
set_option maxHeartbeats 4000000 in
set_option maxRecDepth 100000 in
theorem add_found (B : Option Addr) (d : Nat) (u : S33) (f : Nat → Int) (p : Nat) (hH : Hs w h L ro us) (hR : k61.C w B u.f0.length u.f0) (hd : u.f0.length ≤ d) (hlen : u.f0.length < 4398046511104) (hn : us.length ≤ 1000)
  (hf : ∀ j x, us[j]? = some x → Ord x u (f j)) (hp : p ≤ us.length) (h1 : ∀ j, j < p → f j < 0) (h2 : ∀ j, p ≤ j → j < us.length → 0 ≤ f j) (hyes : p < us.length ∧ f p = 0) {x : S33} (hx : us[p]? = some x) {s er : Int} (hs : weigh_Add.f x.f2 u.f2 = some (s, er)) :
  Calls Try.prog 10 #[.pointer (some ⟨h, 0, none⟩), .agg #[.slice B u.f0.length d, .int .i64 u.f1.f0, .int .i64 u.f1.f1, .int .i64 u.f2]] w (Added w h L ro (if er ≠ 0 then us else if s = 0 then us.eraseIdx p else us.set p ⟨x.f0, x.f1, s⟩) er) := by
 obtain ⟨vs, hvs⟩ : ∃ vs, vs = (if er ≠ 0 then us else if s = 0 then us.eraseIdx p else us.set p ⟨x.f0, x.f1, s⟩) := ⟨_, rfl⟩
 rw [← hvs]
 replace hvs := Aside0.mk hvs
 have hH0 := Aside0.mk hH
 obtain ⟨hL, A, c, hb, hr, hN⟩ := hH
 replace hb := Aside0.mk hb
 replace hN := Aside0.mk hN
 replace hR := Aside0.mk hR
 replace hr := Aside0.mk hr
 have HS := Aside0.mk (fun (W : World) (hW : Below w.heap.size w W) => search_calls W A B c d us u f p ((Kd.N_reads' hN.out).2.2 |> fun q => Kd.C_below q hW) (Kd.N_reads' hN.out).2.1 (by omega) (Kd.C_below hR.out hW) hd hf hp h1 h2)
 have htrue : (decide (p < us.length ∧ f p = 0)) = true := decide_eq_true hyes
 rw [htrue] at HS
 have hpl := hyes.1
 clear hf h1 h2 hyes htrue
 go_enter Try.func10, Try.ntmps10
 go_wp2_with fail
 obtain ⟨b, hbb⟩ : ∃ b, b = w.heap.size := ⟨_, rfl⟩
 obtain ⟨w2, hw2⟩ : ∃ w2, w2 = w.alloc (.cells #[.slice B u.f0.length d, .int .i64 u.f1.f0, .int .i64 u.f1.f1, .int .i64 u.f2] 33) := ⟨_, rfl⟩
 rw [← hw2, ← hbb]
 have hB2 : Aside0 (Below w.heap.size w w2) := ⟨by rw [hw2]; exact below_alloc (Below.refl _ _) _⟩
 have BX2 : Aside0 (w2.heap[b]? = some (.cells #[.slice B u.f0.length d, .int .i64 u.f1.f0, .int .i64 u.f1.f1, .int .i64 u.f2] 33 (0, 0))) := ⟨by rw [hw2, hbb]; exact blk_new w _⟩
 replace hbb := Aside0.mk hbb
 clear hw2
 have z0 : w2.cell? ⟨b, 0, none⟩ = some (.slice B u.f0.length d) := (blk_cell BX2.out 0).trans rfl
 have z1 : w2.cell? ⟨b, 1, none⟩ = some (.int .i64 u.f1.f0) := (blk_cell BX2.out 1).trans rfl
 have z2 : w2.cell? ⟨b, 2, none⟩ = some (.int .i64 u.f1.f1) := (blk_cell BX2.out 2).trans rfl
 have z3 : w2.cell? ⟨b, 3, none⟩ = some (.int .i64 u.f2) := (blk_cell BX2.out 3).trans rfl
 have x0 : w2.cell? ⟨h, 0, none⟩ = some (.slice A us.length c) := (blk_cell (blk_below hb.out hB2.out) 0).trans rfl
 go_region_held3 (fun w' => w'.cell? ⟨b, 0, none⟩ = some (.slice B u.f0.length d) ∧ w'.cell? ⟨b, 1, none⟩ = some (.int .i64 u.f1.f0) ∧ w'.cell? ⟨b, 2, none⟩ = some (.int .i64 u.f1.f1) ∧ w'.cell? ⟨b, 3, none⟩ = some (.int .i64 u.f2) ∧ w'.cell? ⟨h, 0, none⟩ = some (.slice A us.length c)) (first | exact ⟨z0, z1, z2, z3, x0⟩ | exact ⟨pw_cell_below HB3.out z0, pw_cell_below HB3.out z1, pw_cell_below HB3.out z2, pw_cell_below HB3.out z3, pw_cell_below HB3.out x0⟩) (first | (go_at_call 25; (with_reducible refine (HS.out _ ?h1).mono ?_); (case h1 => exact below_drew hB2.out); rintro e w3 ⟨rfl, hb3⟩; have HB3 : Aside0 (Below w2.heap.size w2 w3) := Aside0.mk (below_then (below_drew (Below.refl _ _)) (Nat.le_refl _) hb3); clear hb3))
 have hB3 := Aside0.mk (below_then hB2.out hB2.out.size HB3.out)
 have BX3 := Aside0.mk (blk_below BX2.out HB3.out)
 clear z0 z1 z2 z3 x0 hB2 BX2 HB3 HS
 have z0 : w3.cell? ⟨b, 0, none⟩ = some (.slice B u.f0.length d) := (blk_cell BX3.out 0).trans rfl
 have z1 : w3.cell? ⟨b, 1, none⟩ = some (.int .i64 u.f1.f0) := (blk_cell BX3.out 1).trans rfl
 have z2 : w3.cell? ⟨b, 2, none⟩ = some (.int .i64 u.f1.f1) := (blk_cell BX3.out 2).trans rfl
 have z3 : w3.cell? ⟨b, 3, none⟩ = some (.int .i64 u.f2) := (blk_cell BX3.out 3).trans rfl
 have HN3 := Aside0.mk (Kd.N_below hN.out hB3.out)
 have hb3 := Aside0.mk (blk_below hb.out hB3.out)
 have x0 : w3.cell? ⟨h, 0, none⟩ = some (.slice A us.length c) := (blk_cell hb3.out 0).trans rfl
 obtain ⟨g, rfl⟩ := N_some hN.out (by omega)
 obtain ⟨cs, hcsl, hKx, hcc⟩ := Kd.N_get HN3.out z33 (p : Int) (by omega) (by omega)
 obtain ⟨cur, hcur⟩ := N_block HN3.out
 have hgx : us.getD ((p : Int)).toNat z33 = x := by rw [Int.toNat_natCast, List.getD_eq_getElem?_getD, hx]; rfl
 rw [hgx] at hKx
 obtain ⟨A0, c0, hcs0, hl0, hF0⟩ := k33_openF hKx
 subst hcs0
 have y3 : w3.cell? ⟨g, p * 4 + 3, none⟩ = some (.int .i64 x.f2) := by
  have := hcc 3 _ rfl
  rwa [Int.toNat_natCast, show k33.sz = 4 from rfl, add_plain] at this
 have f3 := blk_frozen hcur.1 (p * 4 + 3)
 have hlt : (p : Int) < (us.length : Int) := by omega
 have hgh := hcur.2.2.2.2.1
 replace hKx := Aside0.mk hKx
 replace hcc := Aside0.mk hcc
 replace hcur := Aside0.mk hcur.1
 clear hcsl hgx hl0 hF0
 go_wp2_with fail
 go_region_held3 (fun w' => w'.cell? ⟨b, 3, none⟩ = some (.int .i64 u.f2) ∧ w'.cell? ⟨h, 0, none⟩ = some (.slice (some ⟨g, 0, none⟩) us.length c) ∧ w'.cell? ⟨g, p * 4 + 3, none⟩ = some (.int .i64 x.f2)) (first | exact ⟨z3, x0, y3⟩) (first | (go_at_call 29; (with_reducible refine (weigh_Add.calls _ _ s er _ hs).mono ?_); rintro e w4 ⟨rfl, ⟨nd, rfl⟩⟩))
 have HN4 := Aside0.mk (show Kd.N k33 33 (w3.drewN (1 + nd)) 0 (fun b => b ≠ h ∧ L ≤ b) (.slice (some ⟨g, 0, none⟩) us.length c) us from Kd.N_drewN HN3.out _)
 have hb4 := Aside0.mk (show (w3.drewN (1 + nd)).heap[h]? = some (.cells #[.slice (some ⟨g, 0, none⟩) us.length c] 63 (0, 0)) from hb3.out)
 have hB4 := Aside0.mk (show Below w.heap.size w (w3.drewN (1 + nd)) from pw_below_drewN hB3.out _)
 have hcur4 := Aside0.mk (show (w3.drewN (1 + nd)).heap[g]? = some (.cells cur 33 (0, 0)) from hcur.out)
 have hK4 := Aside0.mk (show Kd.FK k33 (w3.drewN (1 + nd)) (fun k => (k ≠ h ∧ L ≤ k) ∧ some k ≠ (Value.slice (some ⟨g, 0, none⟩) us.length c).ownBlock) x [.slice A0 x.f0.length c0, .int .i64 x.f1.f0, .int .i64 x.f1.f1, .int .i64 x.f2] from Kd.FK_below hKx.out (pw_below_drewN (Below.refl _ _) _))
 have hcc4 := Aside0.mk (show ∀ j v, [Value.slice A0 x.f0.length c0, .int .i64 x.f1.f0, .int .i64 x.f1.f1, .int .i64 x.f2][j]? = some v → (w3.drewN (1 + nd)).cell? ⟨g, p * 4 + j, none⟩ = some v from fun j v hj => by
  have := hcc.out j v hj
  rwa [Int.toNat_natCast, show k33.sz = 4 from rfl, add_plain] at this)
 clear z0 z1 z2 z3 x0 y3 f3 HN3 hb3 hB3 hcur hKx hcc BX3 hN hb hbb
 generalize w3.drewN (1 + nd) = w4 at HN4 hb4 hB4 hcur4 hK4 hcc4 ⊢
 have x0 : w4.cell? ⟨h, 0, none⟩ = some (.slice (some ⟨g, 0, none⟩) us.length c) := (blk_cell hb4.out 0).trans rfl
 have fx0 := blk_frozen hb4.out 0
 by_cases he : er = 0
 · have d1 : (er != 0) = false := by simp [he]
   by_cases hz : s = 0
   · have d2 : (s == 0) = true := by simp [hz]
     have hv := Aside0.mk (show vs = us.eraseIdx p by rw [hvs.out, if_neg (by simp [he]), if_pos hz])
     have e1 : IntKind.i64.wrap ((p : Int) + 1) = (p : Int) + 1 := IntWalk.i64_in _ (by omega)
     go_wp2_with fail
     refine (delete_calls HN4.out hpl (by omega)).mono ?_
     rintro e w5 ⟨rfl, hN5, hF5⟩
     have N5 := Aside0.mk hN5
     have F5 := Aside0.mk hF5
     have HX5 := Aside0.mk (hF5.keep hb4.out (fun he => hgh he.symm))
     have x5 : w5.cell? ⟨h, 0, none⟩ = some (.slice (some ⟨g, 0, none⟩) us.length c) := (blk_cell HX5.out 0).trans rfl
     have f5 := blk_frozen HX5.out 0
     clear hN5 hF5 x0 fx0
     go_wp2
     go_ret
     refine ⟨by rw [he]; rfl, ro, ⟨by rw [setCell_size]; have := hB4.out.size; have := F5.out.size; omega, some ⟨g, 0, none⟩, c, ?_, by rw [hr.out]; rfl, ?_⟩, ?_, .inl rfl⟩
     · rw [hv.out, List.length_eraseIdx, if_pos hpl]
       exact blk_put (cs := #[.slice (some ⟨g, 0, none⟩) us.length c]) HX5.out 0 _ rfl
     · rw [hv.out, List.length_eraseIdx, if_pos hpl]
       exact Kd.N_step N5.out (fun k hk _ => Below.heap_setCell _ _ _ _ hk.1)
     · refine Fr.set ?_ (fun _ => .inl rfl) _
       exact (Fr.of_below hB4.out (Own h ro)).trans F5.out (fun i _ hi => .inr (by rw [hr.out, hi]; rfl))
   · have d2 : (s == 0) = false := by simp [hz]
     have hv := Aside0.mk (show vs = us.set p ⟨x.f0, x.f1, s⟩ by rw [hvs.out, if_neg (by simp [he]), if_neg hz])
     have y3 : w4.cell? ⟨g, p * 4 + 3, none⟩ = some (.int .i64 x.f2) := hcc4.out 3 _ rfl
     have f3 := blk_frozen hcur4.out (p * 4 + 3)
     go_wp2
     go_ret
     have hseg := Kd.N_seg (d := k33) (seg := [.int .i64 s]) (j := 3) (x' := ⟨x.f0, x.f1, s⟩) HN4.out (p : Int) (by omega) (by omega) (c := [.slice A0 x.f0.length c0, .int .i64 x.f1.f0, .int .i64 x.f1.f1, .int .i64 x.f2]) rfl (fun j v hj => by rw [Int.toNat_natCast]; exact hcc4.out j v hj) (show 4 ≤ 4 from Nat.le_refl _) (okp := fun k => (k ≠ h ∧ L ≤ k) ∧ some k ≠ (Value.slice (some ⟨g, 0, none⟩) us.length c).ownBlock) (by
      obtain ⟨A1, c1, he1, hl1, hF1⟩ := k33_openF hK4.out
      injection he1 with he1
      injection he1 with h1 _ h3
      subst h1 h3
      exact k33_mkF _ _ (⟨x.f0, x.f1, s⟩ : S33) hl1 hF1) (fun k hk => ⟨hk.1, fun e => hk.2 (by rw [e]; rfl)⟩)
     rw [Int.toNat_natCast] at hseg
     obtain ⟨hN5, hG5⟩ := hseg
     refine ⟨by rw [he]; rfl, ro, ⟨by rw [setCell_size]; have := hB4.out.size; omega, some ⟨g, 0, none⟩, c, ?_, by rw [hr.out]; rfl, ?_⟩, ?_, .inl rfl⟩
     · rw [hv.out, List.length_set]
       exact blk_far hb4.out (fun e => hgh e.symm) _
     · rw [hv.out, List.length_set]
       exact hN5
     · refine Fr.set (Fr.of_below hB4.out _) (fun _ => .inr (by rw [hr.out]; rfl)) _
 · have d1 : (er != 0) = true := by simp [he]
   have hv : vs = us := by rw [hvs.out, if_pos (by simpa using he)]
   subst hv
   go_wp2
   go_ret
   exact ⟨rfl, ro, hH0.out.below hB4.out, Fr.of_below hB4.out _, .inl rfl⟩
end
end Go.Proofs.Ytednmkmhileikaa.G
