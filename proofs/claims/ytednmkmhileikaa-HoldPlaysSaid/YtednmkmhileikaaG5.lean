/- (*hold.Hold).Add. -/
import Derived.Test.YtednmkmhileikaaG4
import Derived.Test.YtednmkmhileikaaOHoldPlaysx4
namespace Go.Proofs.Ytednmkmhileikaa.G
open Go.RowKit Go.Proofs.YtednmkmhileikaaW.PrintWords Go.Proofs.YtednmkmhileikaaW.PrintLast Go.Proofs.YtednmkmhileikaaW.PrintMore Go.Proofs.Ytednmkmhileikaa.PHoldPlays
attribute [local go_sem] max2_int min2_int max_two min_two max_three min_three max_four min_four
set_option linter.unusedVariables false
set_option linter.unusedSimpArgs false
/-- At block h lies a hold of us; ro: their row's block. -/
def Hs (w : World) (h L : Nat) (ro : Option Nat) (us : List S33) : Prop := L ≤ w.heap.size ∧ ∃ A c, w.heap[h]? = some (.cells #[.slice A us.length c] 63 (0, 0)) ∧ ro = (Value.slice A us.length c).ownBlock ∧ Kd.N k33 33 w 0 (fun b => b ≠ h ∧ L ≤ b) (.slice A us.length c) us
/-- The blocks of a hold. -/
def Own (h : Nat) (ro : Option Nat) (b : Nat) : Prop := b = h ∨ some b = ro
section
variable {w w' : World} {h L : Nat} {ro ro' : Option Nat} {us : List S33}
theorem Hs.lt (hH : Hs w h L ro us) : ∀ b, Own h ro b → b < w.heap.size := by
 obtain ⟨hL, A, c, hb, hr, hN⟩ := hH
 rintro b (rfl | hb')
 · exact blk_lt hb
 · exact Kd.N_lt hN b (by rw [← hr, hb'])
theorem Hs.keep (hH : Hs w h L ro us) (hk : ∀ b, b < w.heap.size → w'.heap[b]? = w.heap[b]?) (hs : w.heap.size ≤ w'.heap.size) : Hs w' h L ro us := by
 obtain ⟨hL, A, c, hb, hr, hN⟩ := hH
 exact ⟨Nat.le_trans hL hs, A, c, (hk h (blk_lt hb)).trans hb, hr, Kd.N_step hN (fun k _ hlt => hk k hlt)⟩
theorem Hs.below (hH : Hs w h L ro us) (hb : Below w.heap.size w w') : Hs w' h L ro us := hH.keep hb.block hb.size
theorem Hs.drewN (hH : Hs w h L ro us) (n : Nat) : Hs (w.drewN n) h L ro us := hH.keep (fun _ _ => rfl) (Nat.le_refl _)
theorem Hs.drew (hH : Hs w h L ro us) : Hs w.drew h L ro us := hH.keep (fun _ _ => rfl) (Nat.le_refl _)
theorem Hs.far (hH : Hs w h L ro us) {p : Addr} (hp : w.heap.size ≤ p.block) (v : Value) : Hs (w.setCell p v) h L ro us := hH.keep (fun b hb => Below.heap_setCell _ _ _ _ (by omega)) (by rw [setCell_size]; exact Nat.le_refl _)
end
theorem clone_ok (l : List S61) (h : l.length < 4398046511104) : api_Val_28.f l = some l := by simp [api_Val_28.f, h]
theorem one_up (W : World) (N : Nat) (u : S33) (B : Option Addr) (d : Nat) (hR : k61.R 61 W N (fun _ => True) (.slice B u.f0.length d) u.f0) : Kd.FK k33 W (fun k => N ≤ k ∧ k < W.heap.size) u [.slice B u.f0.length d, .int .i64 u.f1.f0, .int .i64 u.f1.f1, .int .i64 u.f2] :=
 Kd.FK_mono (Kd.FK_of_M (k33_mkM _ _ _ u (Kd.R_bound hR))) (fun k hk => ⟨hk.2.1, hk.2.2.1⟩)
theorem ins_at {w3 w4 : World} {h L n c p : Nat} {us : List S33} {A B4 : Option Addr} {d4 : Nat} {u : S33} (hN : Kd.N k33 33 w3 0 (fun b => b ≠ h ∧ L ≤ b) (.slice A n c) us) (hh : h < w3.heap.size) (hL : L ≤ w3.heap.size) (hB : Below w3.heap.size w3 w4) (hR4 : k61.R 61 w4 w3.heap.size (fun _ => True) (.slice B4 u.f0.length d4) u.f0) (hp : p ≤ n) (hn : n ≤ 1000) :
  Calls Try.prog 27 #[.slice A n c, .int .i64 p, .slice (some ⟨w4.heap.size, 0, none⟩) 1 1] (w4.alloc (.cells #[.slice B4 u.f0.length d4, .int .i64 u.f1.f0, .int .i64 u.f1.f1, .int .i64 u.f2] 33)) (Inserted (w4.alloc (.cells #[.slice B4 u.f0.length d4, .int .i64 u.f1.f0, .int .i64 u.f1.f1, .int .i64 u.f2] 33)) 0 (fun b => b ≠ h ∧ L ≤ b) (Value.slice A n c).ownBlock n p u us) := by
 have hs := hB.size
 have hb5 : Below w4.heap.size w4 (w4.alloc (.cells #[.slice B4 u.f0.length d4, .int .i64 u.f1.f0, .int .i64 u.f1.f1, .int .i64 u.f2] 33)) := below_alloc (Below.refl _ _) _
 refine insert_calls (b := w4.heap.size) (okp := fun k => w3.heap.size ≤ k ∧ k < w4.heap.size) (xc := [.slice B4 u.f0.length d4, .int .i64 u.f1.f0, .int .i64 u.f1.f1, .int .i64 u.f2]) (Kd.N_below (Kd.N_below hN hB) hb5) hp (by omega) (blk_new w4 _) (Kd.FK_below (one_up _ _ _ _ _ hR4) hb5) (fun k hk => ⟨⟨by omega, by omega⟩, fun he => ?_⟩) ⟨by omega, by omega⟩ (fun he => ?_) (fun k hk => ?_) (Nat.zero_le _)
 · have := Kd.N_lt hN k he.symm
   omega
 · have := Kd.N_lt hN _ he.symm
   omega
 · have := hb5.size
   exact ⟨by omega, by omega⟩
/-- What Add leaves. -/
def Added (w : World) (h L : Nat) (ro : Option Nat) (vs : List S33) (r : Int) (e : Ending) (w' : World) : Prop := e = .returned (.int .i64 r) ∧ ∃ ro', Hs w' h L ro' vs ∧ Fr w w' (Own h ro) ∧ (ro' = ro ∨ ∃ q, ro' = some q ∧ w.heap.size ≤ q)
theorem add_done {w w3 w4 w5 : World} {h L g5 c5 c p : Nat} {ro : Option Nat} {A : Option Addr} {us vs : List S33} {u : S33} {o : Obj} (hL : L ≤ w.heap.size) (hb : w.heap[h]? = some (.cells #[.slice A us.length c] 63 (0, 0))) (hr : ro = (Value.slice A us.length c).ownBlock) (hB3 : Below w.heap.size w w3) (hB4 : Below w3.heap.size w3 w4) (hp : p ≤ us.length)
  (HX : w5.heap[h]? = some (.cells #[.slice A us.length c] 63 (0, 0))) (N5 : Kd.N k33 33 w5 0 (fun b => b ≠ h ∧ L ≤ b) (.slice (some ⟨g5, 0, none⟩) (us.length + 1) c5) (ins p u us)) (F5 : Fr (w4.alloc o) w5 (fun k => some k = (Value.slice A us.length c).ownBlock)) (G5 : some g5 = (Value.slice A us.length c).ownBlock ∨ (w4.alloc o).heap.size ≤ g5) (hv : vs = ins p u us) :
  Added w h L ro vs 0 (.returned (.int .i64 0)) (w5.setCell ⟨h, 0, none⟩ (.slice (some ⟨g5, 0, none⟩) (us.length + 1) c5)) := by
 subst hv
 have hs3 := hB3.size
 have hs4 := hB4.size
 have hs5 : w4.heap.size ≤ (w4.alloc o).heap.size := (below_alloc (Below.refl _ _) o).size
 have hb5 : Below w.heap.size w (w4.alloc o) := (below_then hB3 hs3 hB4).alloc (by omega) o
 have hl : (ins p u us).length = us.length + 1 := ins_length _ _ _
 refine ⟨rfl, some g5, ⟨by rw [setCell_size]; have := hb5.size; have := F5.size; omega, some ⟨g5, 0, none⟩, c5, ?_, rfl, ?_⟩, ?_, ?_⟩
 · rw [hl]
   exact blk_put (cs := #[.slice A us.length c]) HX 0 _ rfl
 · rw [hl]
   exact Kd.N_step N5 (fun k hk _ => Below.heap_setCell _ _ _ _ hk.1)
 · refine Fr.set ?_ (fun _ => .inl rfl) _
   exact (Fr.of_below hb5 (Own h ro)).trans F5 (fun i _ hi => .inr (by rw [hr]; exact hi))
 · rcases G5 with h1 | h1
   · exact .inl (h1.trans hr.symm)
   · exact .inr ⟨g5, rfl, by have := hb5.size; omega⟩
section
variable {w : World} {h L : Nat} {ro : Option Nat} {us : List S33}
set_option maxHeartbeats 4000000 in
set_option maxRecDepth 100000 in
theorem add_calls (B : Option Addr) (d : Nat) (u : S33) (f : Nat → Int) (p : Nat) (hH : Hs w h L ro us) (hR : k61.C w B u.f0.length u.f0) (hd : u.f0.length ≤ d) (hlen : u.f0.length < 4398046511104) (hn : us.length ≤ 1000)
  (hf : ∀ j x, us[j]? = some x → Ord x u (f j)) (hp : p ≤ us.length) (h1 : ∀ j, j < p → f j < 0) (h2 : ∀ j, p ≤ j → j < us.length → 0 ≤ f j) (hno : ¬ (p < us.length ∧ f p = 0)) :
  Calls Try.prog 10 #[.pointer (some ⟨h, 0, none⟩), .agg #[.slice B u.f0.length d, .int .i64 u.f1.f0, .int .i64 u.f1.f1, .int .i64 u.f2]] w (Added w h L ro (if u.f2 = 0 then us else ins p u us) 0) := by
 obtain ⟨vs, hvs⟩ : ∃ vs, vs = (if u.f2 = 0 then us else ins p u us) := ⟨_, rfl⟩
 rw [← hvs]
 replace hvs := Aside0.mk hvs
 have hH0 := Aside0.mk hH
 obtain ⟨hL, A, c, hb, hr, hN⟩ := hH
 replace hb := Aside0.mk hb
 replace hN := Aside0.mk hN
 replace hR := Aside0.mk hR
 replace hr := Aside0.mk hr
 have HS := Aside0.mk (fun (W : World) (hW : Below w.heap.size w W) => search_calls W A B c d us u f p ((Kd.N_reads' hN.out).2.2 |> fun q => Kd.C_below q hW) (Kd.N_reads' hN.out).2.1 (by omega) (Kd.C_below hR.out hW) hd hf hp h1 h2)
 have hfalse : (decide (p < us.length ∧ f p = 0)) = false := decide_eq_false hno
 rw [hfalse] at HS
 clear hf h1 h2 hno hfalse
 go_enter Try.func10, Try.ntmps10
 go_wp2_with fail
 obtain ⟨b, hbb⟩ : ∃ b, b = w.heap.size := ⟨_, rfl⟩
 obtain ⟨w2, hw2⟩ : ∃ w2, w2 = w.alloc (.cells #[.slice B u.f0.length d, .int .i64 u.f1.f0, .int .i64 u.f1.f1, .int .i64 u.f2] 33) := ⟨_, rfl⟩
 rw [← hw2, ← hbb]
 have hB2 : Aside0 (Below w.heap.size w w2) := ⟨by rw [hw2]; exact below_alloc (Below.refl _ _) _⟩
 have BX2 : Aside0 (w2.heap[b]? = some (.cells #[.slice B u.f0.length d, .int .i64 u.f1.f0, .int .i64 u.f1.f1, .int .i64 u.f2] 33 (0, 0))) := ⟨by rw [hw2, hbb]; exact blk_new w _⟩
 replace hbb := Aside0.mk hbb
 clear hw2
 have z0 : w2.cell? ⟨b, 0, none⟩ = some (.slice B u.f0.length d) := (blk_cell BX2.out 0).trans rfl
 have z1 : w2.cell? ⟨b, 1, none⟩ = some (.int .i64 u.f1.f0) := (blk_cell BX2.out 1).trans rfl
 have z2 : w2.cell? ⟨b, 2, none⟩ = some (.int .i64 u.f1.f1) := (blk_cell BX2.out 2).trans rfl
 have z3 : w2.cell? ⟨b, 3, none⟩ = some (.int .i64 u.f2) := (blk_cell BX2.out 3).trans rfl
 have x0 : w2.cell? ⟨h, 0, none⟩ = some (.slice A us.length c) := (blk_cell (blk_below hb.out hB2.out) 0).trans rfl
 go_region_held3 (fun w' => w'.cell? ⟨b, 0, none⟩ = some (.slice B u.f0.length d) ∧ w'.cell? ⟨b, 1, none⟩ = some (.int .i64 u.f1.f0) ∧ w'.cell? ⟨b, 2, none⟩ = some (.int .i64 u.f1.f1) ∧ w'.cell? ⟨b, 3, none⟩ = some (.int .i64 u.f2) ∧ w'.cell? ⟨h, 0, none⟩ = some (.slice A us.length c)) (first | exact ⟨z0, z1, z2, z3, x0⟩ | exact ⟨pw_cell_below HB3.out z0, pw_cell_below HB3.out z1, pw_cell_below HB3.out z2, pw_cell_below HB3.out z3, pw_cell_below HB3.out x0⟩) (first | (go_at_call 25; (with_reducible refine (HS.out _ ?h1).mono ?_); (case h1 => exact below_drew hB2.out); rintro e w3 ⟨rfl, hb3⟩; have HB3 : Aside0 (Below w2.heap.size w2 w3) := Aside0.mk (below_then (below_drew (Below.refl _ _)) (Nat.le_refl _) hb3); clear hb3))
 have hB3 := Aside0.mk (below_then hB2.out hB2.out.size HB3.out)
 have BX3 := Aside0.mk (blk_below BX2.out HB3.out)
 clear z0 z1 z2 z3 x0 hB2 BX2 HB3 HS
 have z0 : w3.cell? ⟨b, 0, none⟩ = some (.slice B u.f0.length d) := (blk_cell BX3.out 0).trans rfl
 have z1 : w3.cell? ⟨b, 1, none⟩ = some (.int .i64 u.f1.f0) := (blk_cell BX3.out 1).trans rfl
 have z2 : w3.cell? ⟨b, 2, none⟩ = some (.int .i64 u.f1.f1) := (blk_cell BX3.out 2).trans rfl
 have z3 : w3.cell? ⟨b, 3, none⟩ = some (.int .i64 u.f2) := (blk_cell BX3.out 3).trans rfl
 by_cases hz : u.f2 = 0
 · have d1 : (u.f2 != 0) = false := by simp [hz]
   have hv : vs = us := by rw [hvs.out, if_pos hz]
   subst hv
   go_wp2
   go_ret
   exact ⟨rfl, ro, hH0.out.below hB3.out, Fr.of_below hB3.out _, .inl rfl⟩
 · have d1 : (u.f2 != 0) = true := by simp [hz]
   have hv := Aside0.mk (show vs = ins p u us by rw [hvs.out, if_neg hz])
   have hpz : p ≤ us.length := hp
   have hb3 := Aside0.mk (blk_below hb.out hB3.out)
   have x0 : w3.cell? ⟨h, 0, none⟩ = some (.slice A us.length c) := (blk_cell hb3.out 0).trans rfl
   have HN3 := Aside0.mk (Kd.N_below hN.out hB3.out)
   have hlt3 : Aside0 (h < w3.heap.size ∧ b < w3.heap.size ∧ w.heap.size ≤ b ∧ h < w.heap.size) := ⟨⟨blk_lt hb3.out, blk_lt BX3.out, by rw [hbb.out]; exact Nat.le_refl _, blk_lt hb.out⟩⟩
   have hcl := clone_ok u.f0 hlen
   have hbne : b ≠ h := by have := hlt3.out; omega
   have hob : Aside0 (∀ k, some k = (Value.slice A us.length c).ownBlock → k < w.heap.size) := ⟨fun k hk => Kd.N_lt hN.out k hk.symm⟩
   go_wp2_with fail
   refine start_ (n := 19) (S := fun w' => w'.cell? ⟨b, 0, none⟩ = some (.slice B u.f0.length d) ∧ w'.cell? ⟨b, 1, none⟩ = some (.int .i64 u.f1.f0) ∧ w'.cell? ⟨b, 2, none⟩ = some (.int .i64 u.f1.f1) ∧ w'.cell? ⟨b, 3, none⟩ = some (.int .i64 u.f2) ∧ w'.cell? ⟨h, 0, none⟩ = some (.slice A us.length c)) (ds := [18]) #[false, false, false, false, false, false, false, false, false, false, false, false, false, false, false, false, false, false, false] (by kernel_rfl) rfl rfl ⟨z0, z1, z2, z3, x0⟩ (fun hHeld => ?_)
   refine pure_ (i := 0) (N := some 25) (v := ?_) (a' := ?_) #[true, false, false, false, false, false, false, false, false, false, false, false, false, false, false, false, false, false, false] rfl rfl (by kernel_rfl) (fun _ _ _ h => h) (Or.inl ⟨by rfl, ?_⟩) ?_ ?_
   rotate_left
   ·
    intro w'
    go_simp
    with_reducible rfl
   rotate_left
   ·
    simp only [Act.put, List.setIfInBounds_toArray, List.set_cons_zero, List.set_cons_succ, i64_w, i32_w]
    rfl
   refine pure_ (i := 1) (N := some 26) (v := ?_) (a' := ?_) #[true, true, false, false, false, false, false, false, false, false, false, false, false, false, false, false, false, false, false] rfl rfl (by kernel_rfl) (fun _ _ _ h => h) (Or.inl ⟨by rfl, ?_⟩) ?_ ?_
   rotate_left
   ·
    intro w'
    go_simp
    with_reducible rfl
   rotate_left
   ·
    simp only [Act.put, List.setIfInBounds_toArray, List.set_cons_zero, List.set_cons_succ, i64_w, i32_w]
    rfl
   refine pure_ (i := 2) (N := some 27) (v := ?_) (a' := ?_) #[true, true, true, false, false, false, false, false, false, false, false, false, false, false, false, false, false, false, false] rfl rfl (by kernel_rfl) (fun _ _ _ h => h) (Or.inl ⟨by rfl, ?_⟩) ?_ ?_
   rotate_left
   ·
    intro w'
    go_simp
    with_reducible rfl
   rotate_left
   ·
    simp only [Act.put, List.setIfInBounds_toArray, List.set_cons_zero, List.set_cons_succ, i64_w, i32_w]
    rfl
   refine pure_ (i := 3) (N := some 28) (v := ?_) (a' := ?_) #[true, true, true, true, false, false, false, false, false, false, false, false, false, false, false, false, false, false, false] rfl rfl (by kernel_rfl) (fun _ _ _ h => h) (Or.inl ⟨by rfl, ?_⟩) ?_ ?_
   rotate_left
   ·
    intro w'
    go_simp
    with_reducible rfl
   rotate_left
   ·
    simp only [Act.put, List.setIfInBounds_toArray, List.set_cons_zero, List.set_cons_succ, i64_w, i32_w]
    rfl
   refine take_ (i := 4) (N := some 29) (v := ?_) (a' := ?_) #[true, true, true, true, true, false, false, false, false, false, false, false, false, false, false, false, false, false, false] rfl rfl (by kernel_rfl) (fun _ _ _ h => h) (Or.inl ⟨by rfl, ?_⟩) hHeld ?_ ?_
   rotate_left
   ·
    rintro w' ⟨s0, s1, s2, s3, s4⟩
    go_simp
    with_reducible rfl
   rotate_left
   ·
    simp only [Act.put, List.setIfInBounds_toArray, List.set_cons_zero, List.set_cons_succ, i64_w, i32_w]
    rfl
   refine pure_ (i := 5) (N := some 30) (v := ?_) (a' := ?_) #[true, true, true, true, true, true, false, false, false, false, false, false, false, false, false, false, false, false, false] rfl rfl (by kernel_rfl) (fun _ _ _ h => h) (Or.inl ⟨by rfl, ?_⟩) ?_ ?_
   rotate_left
   ·
    intro w'
    go_simp
    with_reducible rfl
   rotate_left
   ·
    simp only [Act.put, List.setIfInBounds_toArray, List.set_cons_zero, List.set_cons_succ, i64_w, i32_w]
    rfl
   refine pure_ (i := 6) (N := some 31) (v := ?_) (a' := ?_) #[true, true, true, true, true, true, true, false, false, false, false, false, false, false, false, false, false, false, false] rfl rfl (by kernel_rfl) (fun _ _ _ h => h) (Or.inl ⟨by rfl, ?_⟩) ?_ ?_
   rotate_left
   ·
    intro w'
    go_simp
    with_reducible rfl
   rotate_left
   ·
    simp only [Act.put, List.setIfInBounds_toArray, List.set_cons_zero, List.set_cons_succ, i64_w, i32_w]
    rfl
   refine take_ (i := 7) (N := some 32) (v := ?_) (a' := ?_) #[true, true, true, true, true, true, true, true, false, false, false, false, false, false, false, false, false, false, false] rfl rfl (by kernel_rfl) (fun _ _ _ h => h) (Or.inl ⟨by rfl, ?_⟩) hHeld ?_ ?_
   rotate_left
   ·
    rintro w' ⟨s0, s1, s2, s3, s4⟩
    go_simp
    with_reducible rfl
   rotate_left
   ·
    simp only [Act.put, List.setIfInBounds_toArray, List.set_cons_zero, List.set_cons_succ, i64_w, i32_w]
    rfl
   refine pure_ (i := 9) (N := some 34) (v := ?_) (a' := ?_) #[true, true, true, true, true, true, true, true, false, true, false, false, false, false, false, false, false, false, false] rfl rfl (by kernel_rfl) (fun _ _ _ h => h) (Or.inl ⟨by rfl, ?_⟩) ?_ ?_
   rotate_left
   ·
    intro w'
    go_simp
    with_reducible rfl
   rotate_left
   ·
    simp only [Act.put, List.setIfInBounds_toArray, List.set_cons_zero, List.set_cons_succ, i64_w, i32_w]
    rfl
   refine take_ (i := 10) (N := some 35) (v := ?_) (a' := ?_) #[true, true, true, true, true, true, true, true, false, true, true, false, false, false, false, false, false, false, false] rfl rfl (by kernel_rfl) (fun _ _ _ h => h) (Or.inl ⟨by rfl, ?_⟩) hHeld ?_ ?_
   rotate_left
   ·
    rintro w' ⟨s0, s1, s2, s3, s4⟩
    go_simp
    with_reducible rfl
   rotate_left
   ·
    simp only [Act.put, List.setIfInBounds_toArray, List.set_cons_zero, List.set_cons_succ, i64_w, i32_w]
    rfl
   refine pure_ (i := 11) (N := some 36) (v := ?_) (a' := ?_) #[true, true, true, true, true, true, true, true, false, true, true, true, false, false, false, false, false, false, false] rfl rfl (by kernel_rfl) (fun _ _ _ h => h) (Or.inl ⟨by rfl, ?_⟩) ?_ ?_
   rotate_left
   ·
    intro w'
    go_simp
    with_reducible rfl
   rotate_left
   ·
    simp only [Act.put, List.setIfInBounds_toArray, List.set_cons_zero, List.set_cons_succ, i64_w, i32_w]
    rfl
   refine take_ (i := 12) (N := some 37) (v := ?_) (a' := ?_) #[true, true, true, true, true, true, true, true, false, true, true, true, true, false, false, false, false, false, false] rfl rfl (by kernel_rfl) (fun _ _ _ h => h) (Or.inl ⟨by rfl, ?_⟩) hHeld ?_ ?_
   rotate_left
   ·
    rintro w' ⟨s0, s1, s2, s3, s4⟩
    go_simp
    with_reducible rfl
   rotate_left
   ·
    simp only [Act.put, List.setIfInBounds_toArray, List.set_cons_zero, List.set_cons_succ, i64_w, i32_w]
    rfl
   refine one_ (i := 8) (N := some 33) #[true, true, true, true, true, true, true, true, true, true, true, true, true, false, false, false, false, false, false] rfl rfl (by kernel_rfl) (by decide) (fun K hK => ?_)
   go_simp
   (go_at_call 28; (with_reducible refine (api_Val_28.calls B d u.f0 u.f0 _ ?h1 hd hcl).mono ?_); (case h1 => exact Kd.C_below hR.out (below_drew hB3.out)); rintro e w4 ⟨v4, rfl, hR4, hb4⟩; obtain ⟨B4, d4, rfl⟩ := Kd.R_slice hR4; have R4 : Aside0 (k61.R 61 w4 w3.heap.size (fun _ => True) (.slice B4 u.f0.length d4) u.f0) := ⟨hR4⟩; have HB4 : Aside0 (Below w3.heap.size w3 w4) := Aside0.mk (below_then (below_drew (Below.refl _ _)) (Nat.le_refl _) hb4); have x4 : w4.cell? ⟨h, 0, none⟩ = some (.slice A us.length c) := pw_cell_below HB4.out x0; have q0 := pw_cell_below HB4.out z0; have q1 := pw_cell_below HB4.out z1; have q2 := pw_cell_below HB4.out z2; have q3 := pw_cell_below HB4.out z3; have r0 := pw_cell_below (below_alloc (Below.refl w4.heap.size w4) (.cells #[.slice B4 u.f0.length d4, .int .i64 u.f1.f0, .int .i64 u.f1.f1, .int .i64 u.f2] 33)) q0; have r1 := pw_cell_below (below_alloc (Below.refl w4.heap.size w4) (.cells #[.slice B4 u.f0.length d4, .int .i64 u.f1.f0, .int .i64 u.f1.f1, .int .i64 u.f2] 33)) q1; have r2 := pw_cell_below (below_alloc (Below.refl w4.heap.size w4) (.cells #[.slice B4 u.f0.length d4, .int .i64 u.f1.f0, .int .i64 u.f1.f1, .int .i64 u.f2] 33)) q2; have r3 := pw_cell_below (below_alloc (Below.refl w4.heap.size w4) (.cells #[.slice B4 u.f0.length d4, .int .i64 u.f1.f0, .int .i64 u.f1.f1, .int .i64 u.f2] 33)) q3; have x5 := pw_cell_below (below_alloc (Below.refl w4.heap.size w4) (.cells #[.slice B4 u.f0.length d4, .int .i64 u.f1.f0, .int .i64 u.f1.f1, .int .i64 u.f2] 33)) x4; clear hR4 hb4)
   refine hK.out _ _ ⟨q0, q1, q2, q3, x4⟩ (fun hHeld => ?_)
   clear hK K
   refine pure_ (i := 13) (N := some 38) (v := ?_) (a' := ?_) #[true, true, true, true, true, true, true, true, true, true, true, true, true, true, false, false, false, false, false] rfl rfl (by kernel_rfl) (fun _ _ _ h => h) (Or.inl ⟨by rfl, ?_⟩) ?_ ?_
   rotate_left
   ·
    intro w'
    go_simp
    with_reducible rfl
   rotate_left
   ·
    simp only [Act.put, List.setIfInBounds_toArray, List.set_cons_zero, List.set_cons_succ, i64_w, i32_w]
    rfl
   refine one_ (i := 14) (N := some 39) #[true, true, true, true, true, true, true, true, true, true, true, true, true, true, true, false, false, false, false] rfl rfl (by kernel_rfl) (by decide) (fun K hK => ?_)
   go_simp
   refine hK.out _ _ ⟨r0, r1, r2, r3, x5⟩ (fun hHeld => ?_)
   clear hK K
   refine one_ (i := 15) (N := some 40) #[true, true, true, true, true, true, true, true, true, true, true, true, true, true, true, true, false, false, false] rfl rfl (by kernel_rfl) (by decide) (fun K hK => ?_)
   go_simp
   (go_at_call 27; (with_reducible refine (ins_at (w3 := w3) (w4 := w4) HN3.out hlt3.out.1 (Nat.le_trans hL hB3.out.size) HB4.out R4.out hpz hn).mono ?_); rintro e w5 ⟨g5, c5, rfl, hN5, hF5, hg5⟩; have N5 := Aside0.mk hN5; have F5 := Aside0.mk hF5; have G5 := Aside0.mk hg5; have HX5 := Aside0.mk (hF5.keep (blk_below (blk_below hb3.out HB4.out) (below_alloc (Below.refl _ _) _)) (fun he => (HN3.out.1 h he.symm).1 rfl)); have BX5 := Aside0.mk (hF5.keep (blk_below (blk_below BX3.out HB4.out) (below_alloc (Below.refl _ _) _)) (fun he => by have := hob.out b he; have := hlt3.out; omega)); have x6 : w5.cell? ⟨h, 0, none⟩ = some (.slice A us.length c) := (blk_cell HX5.out 0).trans rfl; have fx6 := blk_frozen HX5.out 0; have s0 : w5.cell? ⟨b, 0, none⟩ = some (.slice B u.f0.length d) := (blk_cell BX5.out 0).trans rfl; have s1 : w5.cell? ⟨b, 1, none⟩ = some (.int .i64 u.f1.f0) := (blk_cell BX5.out 1).trans rfl; have s2 : w5.cell? ⟨b, 2, none⟩ = some (.int .i64 u.f1.f1) := (blk_cell BX5.out 2).trans rfl; have s3 : w5.cell? ⟨b, 3, none⟩ = some (.int .i64 u.f2) := (blk_cell BX5.out 3).trans rfl; clear hN5 hF5 hg5)
   refine hK.out _ _ ⟨s0, s1, s2, s3, x6⟩ (fun hHeld => ?_)
   clear hK K
   refine pure_ (i := 16) (N := some 41) (v := ?_) (a' := ?_) #[true, true, true, true, true, true, true, true, true, true, true, true, true, true, true, true, true, false, false] rfl rfl (by kernel_rfl) (fun _ _ _ h => h) (Or.inl ⟨by rfl, ?_⟩) ?_ ?_
   rotate_left
   ·
    intro w'
    go_simp
    with_reducible rfl
   rotate_left
   ·
    simp only [Act.put, List.setIfInBounds_toArray, List.set_cons_zero, List.set_cons_succ, i64_w, i32_w]
    rfl
   refine pure_ (i := 17) (N := some 42) (v := ?_) (a' := ?_) #[true, true, true, true, true, true, true, true, true, true, true, true, true, true, true, true, true, true, false] rfl rfl (by kernel_rfl) (fun _ _ _ h => h) (Or.inl ⟨by rfl, ?_⟩) ?_ ?_
   rotate_left
   ·
    intro w'
    go_simp
    with_reducible rfl
   rotate_left
   ·
    simp only [Act.put, List.setIfInBounds_toArray, List.set_cons_zero, List.set_cons_succ, i64_w, i32_w]
    rfl
   refine last_ (i := 18) (N := none) #[true, true, true, true, true, true, true, true, true, true, true, true, true, true, true, true, true, true, true] rfl rfl (by kernel_rfl) (by decide) (fun K hK => ?_)
   go_simp
   refine hK.out _ _ ?_
   clear hK K
   refine done_ (by kernel_rfl) ?_
   all_goals go_wp2
   all_goals go_ret
   all_goals exact add_done hL hb.out hr.out hB3.out HB4.out hp HX5.out N5.out F5.out G5.out hv.out
end
end Go.Proofs.Ytednmkmhileikaa.G
