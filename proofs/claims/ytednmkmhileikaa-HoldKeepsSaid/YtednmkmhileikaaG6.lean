/- (*hold.Hold).Add of a change that is there. -/
import Derived.Test.YtednmkmhileikaaG4
import Derived.Test.YtednmkmhileikaaOHoldPlaysx4
namespace Go.Proofs.Ytednmkmhileikaa.G
open Go.RowKit Go.Proofs.YtednmkmhileikaaW.PrintWords Go.Proofs.YtednmkmhileikaaW.PrintLast Go.Proofs.YtednmkmhileikaaW.PrintMore Go.Proofs.Ytednmkmhileikaa.PHoldPlays
attribute [local go_sem] max2_int min2_int max_two min_two max_three min_three max_four min_four
set_option linter.unusedVariables false
set_option linter.unusedSimpArgs false
/-- At block h lies a hold of us; ro: their row's block. -/
def Hs (w : World) (h : Nat) (L : Nat → Prop) (ro : Option Nat) (us : List S33) : Prop := (∀ b, w.heap.size ≤ b → L b) ∧ ∃ A c, w.heap[h]? = some (.cells #[.slice A us.length c] 63 (0, 0)) ∧ ro = (Value.slice A us.length c).ownBlock ∧ Kd.N k33 33 w 0 (fun b => b ≠ h ∧ L b) (.slice A us.length c) us
/-- The blocks of a hold. -/
def Own (h : Nat) (ro : Option Nat) (b : Nat) : Prop := b = h ∨ some b = ro
section
variable {w w' : World} {h : Nat} {L : Nat → Prop} {ro ro' : Option Nat} {us : List S33}
theorem Hs.lt (hH : Hs w h L ro us) : ∀ b, Own h ro b → b < w.heap.size := by
 obtain ⟨hL, A, c, hb, hr, hN⟩ := hH
 rintro b (rfl | hb')
 · exact blk_lt hb
 · exact Kd.N_lt hN b (by rw [← hr, hb'])
theorem Hs.keep (hH : Hs w h L ro us) (hk : ∀ b, b < w.heap.size → w'.heap[b]? = w.heap[b]?) (hs : w.heap.size ≤ w'.heap.size) : Hs w' h L ro us := by
 obtain ⟨hL, A, c, hb, hr, hN⟩ := hH
 exact ⟨fun b hb => hL b (Nat.le_trans hs hb), A, c, (hk h (blk_lt hb)).trans hb, hr, Kd.N_step hN (fun k _ hlt => hk k hlt)⟩
theorem Hs.below (hH : Hs w h L ro us) (hb : Below w.heap.size w w') : Hs w' h L ro us := hH.keep hb.block hb.size
theorem Hs.drewN (hH : Hs w h L ro us) (n : Nat) : Hs (w.drewN n) h L ro us := hH.keep (fun _ _ => rfl) (Nat.le_refl _)
theorem Hs.drew (hH : Hs w h L ro us) : Hs w.drew h L ro us := hH.keep (fun _ _ => rfl) (Nat.le_refl _)
theorem Hs.far (hH : Hs w h L ro us) {p : Addr} (hp : w.heap.size ≤ p.block) (v : Value) : Hs (w.setCell p v) h L ro us := hH.keep (fun b hb => Below.heap_setCell _ _ _ _ (by omega)) (by rw [setCell_size]; exact Nat.le_refl _)
end
theorem clone_ok (l : List S61) (h : l.length < 4398046511104) : api_Val_28.f l = some l := by simp [api_Val_28.f, h]
theorem one_up (W : World) (N : Nat) (u : S33) (B : Option Addr) (d : Nat) (hR : k61.R 61 W N (fun _ => True) (.slice B u.f0.length d) u.f0) : Kd.FK k33 W (fun k => N ≤ k ∧ k < W.heap.size) u [.slice B u.f0.length d, .int .i64 u.f1.f0, .int .i64 u.f1.f1, .int .i64 u.f2] :=
 Kd.FK_mono (Kd.FK_of_M (k33_mkM _ _ _ u (Kd.R_bound hR))) (fun k hk => ⟨hk.2.1, hk.2.2.1⟩)
theorem ins_at {w3 w4 : World} {h n c p : Nat} {L : Nat → Prop} {us : List S33} {A B4 : Option Addr} {d4 : Nat} {u : S33} (hN : Kd.N k33 33 w3 0 (fun b => b ≠ h ∧ L b) (.slice A n c) us) (hh : h < w3.heap.size) (hL : ∀ b, w3.heap.size ≤ b → L b) (hB : Below w3.heap.size w3 w4) (hR4 : k61.R 61 w4 w3.heap.size (fun _ => True) (.slice B4 u.f0.length d4) u.f0) (hp : p ≤ n) (hn : n ≤ 1000) :
  Calls Try.prog 27 #[.slice A n c, .int .i64 p, .slice (some ⟨w4.heap.size, 0, none⟩) 1 1] (w4.alloc (.cells #[.slice B4 u.f0.length d4, .int .i64 u.f1.f0, .int .i64 u.f1.f1, .int .i64 u.f2] 33)) (Inserted (w4.alloc (.cells #[.slice B4 u.f0.length d4, .int .i64 u.f1.f0, .int .i64 u.f1.f1, .int .i64 u.f2] 33)) 0 (fun b => b ≠ h ∧ L b) (Value.slice A n c).ownBlock n p u us) := by
 have hs := hB.size
 have hb5 : Below w4.heap.size w4 (w4.alloc (.cells #[.slice B4 u.f0.length d4, .int .i64 u.f1.f0, .int .i64 u.f1.f1, .int .i64 u.f2] 33)) := below_alloc (Below.refl _ _) _
 refine insert_calls (b := w4.heap.size) (okp := fun k => w3.heap.size ≤ k ∧ k < w4.heap.size) (xc := [.slice B4 u.f0.length d4, .int .i64 u.f1.f0, .int .i64 u.f1.f1, .int .i64 u.f2]) (Kd.N_below (Kd.N_below hN hB) hb5) hp (by omega) (blk_new w4 _) (Kd.FK_below (one_up _ _ _ _ _ hR4) hb5) (fun k hk => ⟨⟨by omega, hL k (by omega)⟩, fun he => ?_⟩) ⟨by omega, hL _ (by omega)⟩ (fun he => ?_) (fun k hk => ?_) (Nat.zero_le _)
 · have := Kd.N_lt hN k he.symm
   omega
 · have := Kd.N_lt hN _ he.symm
   omega
 · have := hb5.size
   exact ⟨by omega, hL k (by omega)⟩
/-- What Add leaves. -/
def Added (w : World) (h : Nat) (L : Nat → Prop) (ro : Option Nat) (vs : List S33) (r : Int) (e : Ending) (w' : World) : Prop := e = .returned (.int .i64 r) ∧ ∃ ro', Hs w' h L ro' vs ∧ Fr w w' (Own h ro) ∧ (ro' = ro ∨ ∃ q, ro' = some q ∧ w.heap.size ≤ q)
theorem add_done {w w3 w4 w5 : World} {h g5 c5 c p : Nat} {L : Nat → Prop} {ro : Option Nat} {A : Option Addr} {us vs : List S33} {u : S33} {o : Obj} (hL : (∀ b, w.heap.size ≤ b → L b)) (hb : w.heap[h]? = some (.cells #[.slice A us.length c] 63 (0, 0))) (hr : ro = (Value.slice A us.length c).ownBlock) (hB3 : Below w.heap.size w w3) (hB4 : Below w3.heap.size w3 w4) (hp : p ≤ us.length)
  (HX : w5.heap[h]? = some (.cells #[.slice A us.length c] 63 (0, 0))) (N5 : Kd.N k33 33 w5 0 (fun b => b ≠ h ∧ L b) (.slice (some ⟨g5, 0, none⟩) (us.length + 1) c5) (ins p u us)) (F5 : Fr (w4.alloc o) w5 (fun k => some k = (Value.slice A us.length c).ownBlock)) (G5 : some g5 = (Value.slice A us.length c).ownBlock ∨ (w4.alloc o).heap.size ≤ g5) (hv : vs = ins p u us) :
  Added w h L ro vs 0 (.returned (.int .i64 0)) (w5.setCell ⟨h, 0, none⟩ (.slice (some ⟨g5, 0, none⟩) (us.length + 1) c5)) := by
 subst hv
 have hs3 := hB3.size
 have hs4 := hB4.size
 have hs5 : w4.heap.size ≤ (w4.alloc o).heap.size := (below_alloc (Below.refl _ _) o).size
 have hb5 : Below w.heap.size w (w4.alloc o) := (below_then hB3 hs3 hB4).alloc (by omega) o
 have hl : (ins p u us).length = us.length + 1 := ins_length _ _ _
 refine ⟨rfl, some g5, ⟨fun b hbb => hL b (by rw [setCell_size] at hbb; have := hb5.size; have := F5.size; omega), some ⟨g5, 0, none⟩, c5, ?_, rfl, ?_⟩, ?_, ?_⟩
 · rw [hl]
   exact blk_put (cs := #[.slice A us.length c]) HX 0 _ rfl
 · rw [hl]
   exact Kd.N_step N5 (fun k hk _ => Below.heap_setCell _ _ _ _ hk.1)
 · refine Fr.set ?_ (fun _ => .inl rfl) _
   exact (Fr.of_below hb5 (Own h ro)).trans F5 (fun i _ hi => .inr (by rw [hr]; exact hi))
 · rcases G5 with h1 | h1
   · exact .inl (h1.trans hr.symm)
   · exact .inr ⟨g5, rfl, by have := hb5.size; omega⟩
section
variable {w : World} {h : Nat} {L : Nat → Prop} {ro : Option Nat} {us : List S33}
set_option maxHeartbeats 4000000 in
set_option maxRecDepth 100000 in
theorem add_calls (B : Option Addr) (d : Nat) (u : S33) (f : Nat → Int) (p : Nat) (hH : Hs w h L ro us) (hR : k61.C w B u.f0.length u.f0) (hd : u.f0.length ≤ d) (hlen : u.f0.length < 4398046511104) (hn : us.length ≤ 1000)
  (hf : ∀ j x, us[j]? = some x → Ord x u (f j)) (hp : p ≤ us.length) (h1 : ∀ j, j < p → f j < 0) (h2 : ∀ j, p ≤ j → j < us.length → 0 ≤ f j) (hno : ¬ (p < us.length ∧ f p = 0)) :
  Calls Try.prog 10 #[.pointer (some ⟨h, 0, none⟩), .agg #[.slice B u.f0.length d, .int .i64 u.f1.f0, .int .i64 u.f1.f1, .int .i64 u.f2]] w (Added w h L ro (if u.f2 = 0 then us else ins p u us) 0) := by
 obtain ⟨vs, hvs⟩ : ∃ vs, vs = (if u.f2 = 0 then us else ins p u us) := ⟨_, rfl⟩
 rw [← hvs]
 replace hvs := Aside0.mk hvs
 have hH0 := Aside0.mk hH
 obtain ⟨hL, A, c, hb, hr, hN⟩ := hH
 replace hb := Aside0.mk hb
 replace hN := Aside0.mk hN
 replace hR := Aside0.mk hR
 replace hr := Aside0.mk hr
 have HS := Aside0.mk (fun (W : World) (hW : Below w.heap.size w W) => search_calls W A B c d us u f p ((Kd.N_reads' hN.out).2.2 |> fun q => Kd.C_below q hW) (Kd.N_reads' hN.out).2.1 (by omega) (Kd.C_below hR.out hW) hd hf hp h1 h2)
 have hfalse : (decide (p < us.length ∧ f p = 0)) = false := decide_eq_false hno
 rw [hfalse] at HS
 clear hf h1 h2 hno hfalse
 go_enter Try.func10, Try.ntmps10
 go_wp2_with fail
 obtain ⟨b, hbb⟩ : ∃ b, b = w.heap.size := ⟨_, rfl⟩
 obtain ⟨w2, hw2⟩ : ∃ w2, w2 = w.alloc (.cells #[.slice B u.f0.length d, .int .i64 u.f1.f0, .int .i64 u.f1.f1, .int .i64 u.f2] 33) := ⟨_, rfl⟩
 rw [← hw2, ← hbb]
 have hB2 : Aside0 (Below w.heap.size w w2) := ⟨by rw [hw2]; exact below_alloc (Below.refl _ _) _⟩
 have BX2 : Aside0 (w2.heap[b]? = some (.cells #[.slice B u.f0.length d, .int .i64 u.f1.f0, .int .i64 u.f1.f1, .int .i64 u.f2] 33 (0, 0))) := ⟨by rw [hw2, hbb]; exact blk_new w _⟩
 replace hbb := Aside0.mk hbb
 clear hw2
 have z0 : w2.cell? ⟨b, 0, none⟩ = some (.slice B u.f0.length d) := (blk_cell BX2.out 0).trans rfl
 have z1 : w2.cell? ⟨b, 1, none⟩ = some (.int .i64 u.f1.f0) := (blk_cell BX2.out 1).trans rfl
 have z2 : w2.cell? ⟨b, 2, none⟩ = some (.int .i64 u.f1.f1) := (blk_cell BX2.out 2).trans rfl
 have z3 : w2.cell? ⟨b, 3, none⟩ = some (.int .i64 u.f2) := (blk_cell BX2.out 3).trans rfl
 have x0 : w2.cell? ⟨h, 0, none⟩ = some (.slice A us.length c) := (blk_cell (blk_below hb.out hB2.out) 0).trans rfl
 go_region_held3 (fun w' => w'.cell? ⟨b, 0, none⟩ = some (.slice B u.f0.length d) ∧ w'.cell? ⟨b, 1, none⟩ = some (.int .i64 u.f1.f0) ∧ w'.cell? ⟨b, 2, none⟩ = some (.int .i64 u.f1.f1) ∧ w'.cell? ⟨b, 3, none⟩ = some (.int .i64 u.f2) ∧ w'.cell? ⟨h, 0, none⟩ = some (.slice A us.length c)) (first | exact ⟨z0, z1, z2, z3, x0⟩ | exact ⟨pw_cell_below HB3.out z0, pw_cell_below HB3.out z1, pw_cell_below HB3.out z2, pw_cell_below HB3.out z3, pw_cell_below HB3.out x0⟩) (first | (go_at_call 25; (with_reducible refine (HS.out _ ?h1).mono ?_); (case h1 => exact below_drew hB2.out); rintro e w3 ⟨rfl, hb3⟩; have HB3 : Aside0 (Below w2.heap.size w2 w3) := Aside0.mk (below_then (below_drew (Below.refl _ _)) (Nat.le_refl _) hb3); clear hb3))
 have hB3 := Aside0.mk (below_then hB2.out hB2.out.size HB3.out)
 have BX3 := Aside0.mk (blk_below BX2.out HB3.out)
 clear z0 z1 z2 z3 x0 hB2 BX2 HB3 HS
 have z0 : w3.cell? ⟨b, 0, none⟩ = some (.slice B u.f0.length d) := (blk_cell BX3.out 0).trans rfl
 have z1 : w3.cell? ⟨b, 1, none⟩ = some (.int .i64 u.f1.f0) := (blk_cell BX3.out 1).trans rfl
 have z2 : w3.cell? ⟨b, 2, none⟩ = some (.int .i64 u.f1.f1) := (blk_cell BX3.out 2).trans rfl
 have z3 : w3.cell? ⟨b, 3, none⟩ = some (.int .i64 u.f2) := (blk_cell BX3.out 3).trans rfl
 by_cases hz : u.f2 = 0
 · have d1 : (u.f2 != 0) = false := by simp [hz]
   have hv : vs = us := by rw [hvs.out, if_pos hz]
   subst hv
   go_wp2
   go_ret
   exact ⟨rfl, ro, hH0.out.below hB3.out, Fr.of_below hB3.out _, .inl rfl⟩
 · have d1 : (u.f2 != 0) = true := by simp [hz]
   have hv := Aside0.mk (show vs = ins p u us by rw [hvs.out, if_neg hz])
   have hpz : p ≤ us.length := hp
   have hb3 := Aside0.mk (blk_below hb.out hB3.out)
   have x0 : w3.cell? ⟨h, 0, none⟩ = some (.slice A us.length c) := (blk_cell hb3.out 0).trans rfl
   have HN3 := Aside0.mk (Kd.N_below hN.out hB3.out)
   have hlt3 : Aside0 (h < w3.heap.size ∧ b < w3.heap.size ∧ w.heap.size ≤ b ∧ h < w.heap.size) := ⟨⟨blk_lt hb3.out, blk_lt BX3.out, by rw [hbb.out]; exact Nat.le_refl _, blk_lt hb.out⟩⟩
   have hcl := clone_ok u.f0 hlen
   have hbne : b ≠ h := by have := hlt3.out; omega
   have hob : Aside0 (∀ k, some k = (Value.slice A us.length c).ownBlock → k < w.heap.size) := ⟨fun k hk => Kd.N_lt hN.out k hk.symm⟩
   go_wp2_with fail
   refine start_ (n := 19) (S := fun w' => w'.cell? ⟨b, 0, none⟩ = some (.slice B u.f0.length d) ∧ w'.cell? ⟨b, 1, none⟩ = some (.int .i64 u.f1.f0) ∧ w'.cell? ⟨b, 2, none⟩ = some (.int .i64 u.f1.f1) ∧ w'.cell? ⟨b, 3, none⟩ = some (.int .i64 u.f2) ∧ w'.cell? ⟨h, 0, none⟩ = some (.slice A us.length c)) (ds := [18]) #[false, false, false, false, false, false, false, false, false, false, false, false, false, false, false, false, false, false, false] (by kernel_rfl) rfl rfl ⟨z0, z1, z2, z3, x0⟩ (fun hHeld => ?_)
   refine pure_ (i := 0) (N := some 25) (v := ?_) (a' := ?_) #[true, false, false, false, false, false, false, false, false, false, false, false, false, false, false, false, false, false, false] rfl rfl (by kernel_rfl) (fun _ _ _ h => h) (Or.inl ⟨by rfl, ?_⟩) ?_ ?_
   rotate_left
   ·
    intro w'
    go_simp
    with_reducible rfl
   rotate_left
   ·
    simp only [Act.put, List.setIfInBounds_toArray, List.set_cons_zero, List.set_cons_succ, i64_w, i32_w]
    rfl
   refine pure_ (i := 1) (N := some 26) (v := ?_) (a' := ?_) #[true, true, false, false, false, false, false, false, false, false, false, false, false, false, false, false, false, false, false] rfl rfl (by kernel_rfl) (fun _ _ _ h => h) (Or.inl ⟨by rfl, ?_⟩) ?_ ?_
   rotate_left
   ·
    intro w'
    go_simp
    with_reducible rfl
   rotate_left
   ·
    simp only [Act.put, List.setIfInBounds_toArray, List.set_cons_zero, List.set_cons_succ, i64_w, i32_w]
    rfl
   refine pure_ (i := 2) (N := some 27) (v := ?_) (a' := ?_) #[true, true, true, false, false, false, false, false, false, false, false, false, false, false, false, false, false, false, false] rfl rfl (by kernel_rfl) (fun _ _ _ h => h) (Or.inl ⟨by rfl, ?_⟩) ?_ ?_
   rotate_left
   ·
    intro w'
    go_simp
    with_reducible rfl
   rotate_left
   ·
    simp only [Act.put, List.setIfInBounds_toArray, List.set_cons_zero, List.set_cons_succ, i64_w, i32_w]
    rfl
   refine pure_ (i := 3) (N := some 28) (v := ?_) (a' := ?_) #[true, true, true, true, false, false, false, false, false, false, false, false, false, false, false, false, false, false, false] rfl rfl (by kernel_rfl) (fun _ _ _ h => h) (Or.inl ⟨by rfl, ?_⟩) ?_ ?_
   rotate_left
   ·
    intro w'
    go_simp
    with_reducible rfl
   rotate_left
   ·
    simp only [Act.put, List.setIfInBounds_toArray, List.set_cons_zero, List.set_cons_succ, i64_w, i32_w]
    rfl
   refine take_ (i := 4) (N := some 29) (v := ?_) (a' := ?_) #[true, true, true, true, true, false, false, false, false, false, false, false, false, false, false, false, false, false, false] rfl rfl (by kernel_rfl) (fun _ _ _ h => h) (Or.inl ⟨by rfl, ?_⟩) hHeld ?_ ?_
   rotate_left
   ·
    rintro w' ⟨s0, s1, s2, s3, s4⟩
    go_simp
    with_reducible rfl
   rotate_left
   ·
    simp only [Act.put, List.setIfInBounds_toArray, List.set_cons_zero, List.set_cons_succ, i64_w, i32_w]
    rfl
   refine pure_ (i := 5) (N := some 30) (v := ?_) (a' := ?_) #[true, true, true, true, true, true, false, false, false, false, false, false, false, false, false, false, false, false, false] rfl rfl (by kernel_rfl) (fun _ _ _ h => h) (Or.inl ⟨by rfl, ?_⟩) ?_ ?_
   rotate_left
   ·
    intro w'
    go_simp
    with_reducible rfl
   rotate_left
   ·
    simp only [Act.put, List.setIfInBounds_toArray, List.set_cons_zero, List.set_cons_succ, i64_w, i32_w]
    rfl
   refine pure_ (i := 6) (N := some 31) (v := ?_) (a' := ?_) #[true, true, true, true, true, true, true, false, false, false, false, false, false, false, false, false, false, false, false] rfl rfl (by kernel_rfl) (fun _ _ _ h => h) (Or.inl ⟨by rfl, ?_⟩) ?_ ?_
   rotate_left
   ·
    intro w'
    go_simp
    with_reducible rfl
   rotate_left
   ·
    simp only [Act.put, List.setIfInBounds_toArray, List.set_cons_zero, List.set_cons_succ, i64_w, i32_w]
    rfl
   refine take_ (i := 7) (N := some 32) (v := ?_) (a' := ?_) #[true, true, true, true, true, true, true, true, false, false, false, false, false, false, false, false, false, false, false] rfl rfl (by kernel_rfl) (fun _ _ _ h => h) (Or.inl ⟨by rfl, ?_⟩) hHeld ?_ ?_
   rotate_left
   ·
    rintro w' ⟨s0, s1, s2, s3, s4⟩
    go_simp
    with_reducible rfl
   rotate_left
   ·
    simp only [Act.put, List.setIfInBounds_toArray, List.set_cons_zero, List.set_cons_succ, i64_w, i32_w]
    rfl
   refine pure_ (i := 9) (N := some 34) (v := ?_) (a' := ?_) #[true, true, true, true, true, true, true, true, false, true, false, false, false, false, false, false, false, false, false] rfl rfl (by kernel_rfl) (fun _ _ _ h => h) (Or.inl ⟨by rfl, ?_⟩) ?_ ?_
   rotate_left
   ·
    intro w'
    go_simp
    with_reducible rfl
   rotate_left
   ·
    simp only [Act.put, List.setIfInBounds_toArray, List.set_cons_zero, List.set_cons_succ, i64_w, i32_w]
    rfl
   refine take_ (i := 10) (N := some 35) (v := ?_) (a' := ?_) #[true, true, true, true, true, true, true, true, false, true, true, false, false, false, false, false, false, false, false] rfl rfl (by kernel_rfl) (fun _ _ _ h => h) (Or.inl ⟨by rfl, ?_⟩) hHeld ?_ ?_
   rotate_left
   ·
    rintro w' ⟨s0, s1, s2, s3, s4⟩
    go_simp
    with_reducible rfl
   rotate_left
   ·
    simp only [Act.put, List.setIfInBounds_toArray, List.set_cons_zero, List.set_cons_succ, i64_w, i32_w]
    rfl
   refine pure_ (i := 11) (N := some 36) (v := ?_) (a' := ?_) #[true, true, true, true, true, true, true, true, false, true, true, true, false, false, false, false, false, false, false] rfl rfl (by kernel_rfl) (fun _ _ _ h => h) (Or.inl ⟨by rfl, ?_⟩) ?_ ?_
   rotate_left
   ·
    intro w'
    go_simp
    with_reducible rfl
   rotate_left
   ·
    simp only [Act.put, List.setIfInBounds_toArray, List.set_cons_zero, List.set_cons_succ, i64_w, i32_w]
    rfl
   refine take_ (i := 12) (N := some 37) (v := ?_) (a' := ?_) #[true, true, true, true, true, true, true, true, false, true, true, true, true, false, false, false, false, false, false] rfl rfl (by kernel_rfl) (fun _ _ _ h => h) (Or.inl ⟨by rfl, ?_⟩) hHeld ?_ ?_
   rotate_left
   ·
    rintro w' ⟨s0, s1, s2, s3, s4⟩
    go_simp
    with_reducible rfl
   rotate_left
   ·
    simp only [Act.put, List.setIfInBounds_toArray, List.set_cons_zero, List.set_cons_succ, i64_w, i32_w]
    rfl
   refine one_ (i := 8) (N := some 33) #[true, true, true, true, true, true, true, true, true, true, true, true, true, false, false, false, false, false, false] rfl rfl (by kernel_rfl) (by decide) (fun K hK => ?_)
   go_simp
   (go_at_call 28; (with_reducible refine (api_Val_28.calls B d u.f0 u.f0 _ ?h1 hd hcl).mono ?_); (case h1 => exact Kd.C_below hR.out (below_drew hB3.out)); rintro e w4 ⟨v4, rfl, hR4, hb4⟩; obtain ⟨B4, d4, rfl⟩ := Kd.R_slice hR4; have R4 : Aside0 (k61.R 61 w4 w3.heap.size (fun _ => True) (.slice B4 u.f0.length d4) u.f0) := ⟨hR4⟩; have HB4 : Aside0 (Below w3.heap.size w3 w4) := Aside0.mk (below_then (below_drew (Below.refl _ _)) (Nat.le_refl _) hb4); have x4 : w4.cell? ⟨h, 0, none⟩ = some (.slice A us.length c) := pw_cell_below HB4.out x0; have q0 := pw_cell_below HB4.out z0; have q1 := pw_cell_below HB4.out z1; have q2 := pw_cell_below HB4.out z2; have q3 := pw_cell_below HB4.out z3; have r0 := pw_cell_below (below_alloc (Below.refl w4.heap.size w4) (.cells #[.slice B4 u.f0.length d4, .int .i64 u.f1.f0, .int .i64 u.f1.f1, .int .i64 u.f2] 33)) q0; have r1 := pw_cell_below (below_alloc (Below.refl w4.heap.size w4) (.cells #[.slice B4 u.f0.length d4, .int .i64 u.f1.f0, .int .i64 u.f1.f1, .int .i64 u.f2] 33)) q1; have r2 := pw_cell_below (below_alloc (Below.refl w4.heap.size w4) (.cells #[.slice B4 u.f0.length d4, .int .i64 u.f1.f0, .int .i64 u.f1.f1, .int .i64 u.f2] 33)) q2; have r3 := pw_cell_below (below_alloc (Below.refl w4.heap.size w4) (.cells #[.slice B4 u.f0.length d4, .int .i64 u.f1.f0, .int .i64 u.f1.f1, .int .i64 u.f2] 33)) q3; have x5 := pw_cell_below (below_alloc (Below.refl w4.heap.size w4) (.cells #[.slice B4 u.f0.length d4, .int .i64 u.f1.f0, .int .i64 u.f1.f1, .int .i64 u.f2] 33)) x4; clear hR4 hb4)
   refine hK.out _ _ ⟨q0, q1, q2, q3, x4⟩ (fun hHeld => ?_)
   clear hK K
   refine pure_ (i := 13) (N := some 38) (v := ?_) (a' := ?_) #[true, true, true, true, true, true, true, true, true, true, true, true, true, true, false, false, false, false, false] rfl rfl (by kernel_rfl) (fun _ _ _ h => h) (Or.inl ⟨by rfl, ?_⟩) ?_ ?_
   rotate_left
   ·
    intro w'
    go_simp
    with_reducible rfl
   rotate_left
   ·
    simp only [Act.put, List.setIfInBounds_toArray, List.set_cons_zero, List.set_cons_succ, i64_w, i32_w]
    rfl
   refine one_ (i := 14) (N := some 39) #[true, true, true, true, true, true, true, true, true, true, true, true, true, true, true, false, false, false, false] rfl rfl (by kernel_rfl) (by decide) (fun K hK => ?_)
   go_simp
   refine hK.out _ _ ⟨r0, r1, r2, r3, x5⟩ (fun hHeld => ?_)
   clear hK K
   refine one_ (i := 15) (N := some 40) #[true, true, true, true, true, true, true, true, true, true, true, true, true, true, true, true, false, false, false] rfl rfl (by kernel_rfl) (by decide) (fun K hK => ?_)
   go_simp
   (go_at_call 27; (with_reducible refine (ins_at (w3 := w3) (w4 := w4) HN3.out hlt3.out.1 (fun b hbb => hL b (Nat.le_trans hB3.out.size hbb)) HB4.out R4.out hpz hn).mono ?_); rintro e w5 ⟨g5, c5, rfl, hN5, hF5, hg5⟩; have N5 := Aside0.mk hN5; have F5 := Aside0.mk hF5; have G5 := Aside0.mk hg5; have HX5 := Aside0.mk (hF5.keep (blk_below (blk_below hb3.out HB4.out) (below_alloc (Below.refl _ _) _)) (fun he => (HN3.out.1 h he.symm).1 rfl)); have BX5 := Aside0.mk (hF5.keep (blk_below (blk_below BX3.out HB4.out) (below_alloc (Below.refl _ _) _)) (fun he => by have := hob.out b he; have := hlt3.out; omega)); have x6 : w5.cell? ⟨h, 0, none⟩ = some (.slice A us.length c) := (blk_cell HX5.out 0).trans rfl; have fx6 := blk_frozen HX5.out 0; have s0 : w5.cell? ⟨b, 0, none⟩ = some (.slice B u.f0.length d) := (blk_cell BX5.out 0).trans rfl; have s1 : w5.cell? ⟨b, 1, none⟩ = some (.int .i64 u.f1.f0) := (blk_cell BX5.out 1).trans rfl; have s2 : w5.cell? ⟨b, 2, none⟩ = some (.int .i64 u.f1.f1) := (blk_cell BX5.out 2).trans rfl; have s3 : w5.cell? ⟨b, 3, none⟩ = some (.int .i64 u.f2) := (blk_cell BX5.out 3).trans rfl; clear hN5 hF5 hg5)
   refine hK.out _ _ ⟨s0, s1, s2, s3, x6⟩ (fun hHeld => ?_)
   clear hK K
   refine pure_ (i := 16) (N := some 41) (v := ?_) (a' := ?_) #[true, true, true, true, true, true, true, true, true, true, true, true, true, true, true, true, true, false, false] rfl rfl (by kernel_rfl) (fun _ _ _ h => h) (Or.inl ⟨by rfl, ?_⟩) ?_ ?_
   rotate_left
   ·
    intro w'
    go_simp
    with_reducible rfl
   rotate_left
   ·
    simp only [Act.put, List.setIfInBounds_toArray, List.set_cons_zero, List.set_cons_succ, i64_w, i32_w]
    rfl
   refine pure_ (i := 17) (N := some 42) (v := ?_) (a' := ?_) #[true, true, true, true, true, true, true, true, true, true, true, true, true, true, true, true, true, true, false] rfl rfl (by kernel_rfl) (fun _ _ _ h => h) (Or.inl ⟨by rfl, ?_⟩) ?_ ?_
   rotate_left
   ·
    intro w'
    go_simp
    with_reducible rfl
   rotate_left
   ·
    simp only [Act.put, List.setIfInBounds_toArray, List.set_cons_zero, List.set_cons_succ, i64_w, i32_w]
    rfl
   refine last_ (i := 18) (N := none) #[true, true, true, true, true, true, true, true, true, true, true, true, true, true, true, true, true, true, true] rfl rfl (by kernel_rfl) (by decide) (fun K hK => ?_)
   go_simp
   refine hK.out _ _ ?_
   clear hK K
   refine done_ (by kernel_rfl) ?_
   all_goals go_wp2
   all_goals go_ret
   all_goals exact add_done hL hb.out hr.out hB3.out HB4.out hp HX5.out N5.out F5.out G5.out hv.out
end
end Go.Proofs.Ytednmkmhileikaa.G
namespace Go.Proofs.Ytednmkmhileikaa.G
open Go.RowKit Go.Proofs.YtednmkmhileikaaW.PrintWords Go.Proofs.YtednmkmhileikaaW.PrintLast Go.Proofs.YtednmkmhileikaaW.PrintMore Go.Proofs.Ytednmkmhileikaa.PHoldPlays
attribute [local go_sem] max2_int min2_int max_two min_two max_three min_three max_four min_four
set_option linter.unusedVariables false
set_option linter.unusedSimpArgs false
section
variable {w : World} {h : Nat} {L : Nat → Prop} {ro : Option Nat} {us : List S33}
set_option maxHeartbeats 4000000 in
set_option maxRecDepth 100000 in
theorem add_found (B : Option Addr) (d : Nat) (u : S33) (f : Nat → Int) (p : Nat) (hH : Hs w h L ro us) (hR : k61.C w B u.f0.length u.f0) (hd : u.f0.length ≤ d) (hlen : u.f0.length < 4398046511104) (hn : us.length ≤ 1000)
  (hf : ∀ j x, us[j]? = some x → Ord x u (f j)) (hp : p ≤ us.length) (h1 : ∀ j, j < p → f j < 0) (h2 : ∀ j, p ≤ j → j < us.length → 0 ≤ f j) (hyes : p < us.length ∧ f p = 0) {x : S33} (hx : us[p]? = some x) {s er : Int} (hs : weigh_Add.f x.f2 u.f2 = some (s, er)) :
  Calls Try.prog 10 #[.pointer (some ⟨h, 0, none⟩), .agg #[.slice B u.f0.length d, .int .i64 u.f1.f0, .int .i64 u.f1.f1, .int .i64 u.f2]] w (Added w h L ro (if er ≠ 0 then us else if s = 0 then us.eraseIdx p else us.set p ⟨x.f0, x.f1, s⟩) er) := by
 obtain ⟨vs, hvs⟩ : ∃ vs, vs = (if er ≠ 0 then us else if s = 0 then us.eraseIdx p else us.set p ⟨x.f0, x.f1, s⟩) := ⟨_, rfl⟩
 rw [← hvs]
 replace hvs := Aside0.mk hvs
 have hH0 := Aside0.mk hH
 obtain ⟨hL, A, c, hb, hr, hN⟩ := hH
 replace hb := Aside0.mk hb
 replace hN := Aside0.mk hN
 replace hR := Aside0.mk hR
 replace hr := Aside0.mk hr
 have HS := Aside0.mk (fun (W : World) (hW : Below w.heap.size w W) => search_calls W A B c d us u f p ((Kd.N_reads' hN.out).2.2 |> fun q => Kd.C_below q hW) (Kd.N_reads' hN.out).2.1 (by omega) (Kd.C_below hR.out hW) hd hf hp h1 h2)
 have htrue : (decide (p < us.length ∧ f p = 0)) = true := decide_eq_true hyes
 rw [htrue] at HS
 have hpl := hyes.1
 clear hf h1 h2 hyes htrue
 go_enter Try.func10, Try.ntmps10
 go_wp2_with fail
 obtain ⟨b, hbb⟩ : ∃ b, b = w.heap.size := ⟨_, rfl⟩
 obtain ⟨w2, hw2⟩ : ∃ w2, w2 = w.alloc (.cells #[.slice B u.f0.length d, .int .i64 u.f1.f0, .int .i64 u.f1.f1, .int .i64 u.f2] 33) := ⟨_, rfl⟩
 rw [← hw2, ← hbb]
 have hB2 : Aside0 (Below w.heap.size w w2) := ⟨by rw [hw2]; exact below_alloc (Below.refl _ _) _⟩
 have BX2 : Aside0 (w2.heap[b]? = some (.cells #[.slice B u.f0.length d, .int .i64 u.f1.f0, .int .i64 u.f1.f1, .int .i64 u.f2] 33 (0, 0))) := ⟨by rw [hw2, hbb]; exact blk_new w _⟩
 replace hbb := Aside0.mk hbb
 clear hw2
 have z0 : w2.cell? ⟨b, 0, none⟩ = some (.slice B u.f0.length d) := (blk_cell BX2.out 0).trans rfl
 have z1 : w2.cell? ⟨b, 1, none⟩ = some (.int .i64 u.f1.f0) := (blk_cell BX2.out 1).trans rfl
 have z2 : w2.cell? ⟨b, 2, none⟩ = some (.int .i64 u.f1.f1) := (blk_cell BX2.out 2).trans rfl
 have z3 : w2.cell? ⟨b, 3, none⟩ = some (.int .i64 u.f2) := (blk_cell BX2.out 3).trans rfl
 have x0 : w2.cell? ⟨h, 0, none⟩ = some (.slice A us.length c) := (blk_cell (blk_below hb.out hB2.out) 0).trans rfl
 go_region_held3 (fun w' => w'.cell? ⟨b, 0, none⟩ = some (.slice B u.f0.length d) ∧ w'.cell? ⟨b, 1, none⟩ = some (.int .i64 u.f1.f0) ∧ w'.cell? ⟨b, 2, none⟩ = some (.int .i64 u.f1.f1) ∧ w'.cell? ⟨b, 3, none⟩ = some (.int .i64 u.f2) ∧ w'.cell? ⟨h, 0, none⟩ = some (.slice A us.length c)) (first | exact ⟨z0, z1, z2, z3, x0⟩ | exact ⟨pw_cell_below HB3.out z0, pw_cell_below HB3.out z1, pw_cell_below HB3.out z2, pw_cell_below HB3.out z3, pw_cell_below HB3.out x0⟩) (first | (go_at_call 25; (with_reducible refine (HS.out _ ?h1).mono ?_); (case h1 => exact below_drew hB2.out); rintro e w3 ⟨rfl, hb3⟩; have HB3 : Aside0 (Below w2.heap.size w2 w3) := Aside0.mk (below_then (below_drew (Below.refl _ _)) (Nat.le_refl _) hb3); clear hb3))
 have hB3 := Aside0.mk (below_then hB2.out hB2.out.size HB3.out)
 have BX3 := Aside0.mk (blk_below BX2.out HB3.out)
 clear z0 z1 z2 z3 x0 hB2 BX2 HB3 HS
 have z0 : w3.cell? ⟨b, 0, none⟩ = some (.slice B u.f0.length d) := (blk_cell BX3.out 0).trans rfl
 have z1 : w3.cell? ⟨b, 1, none⟩ = some (.int .i64 u.f1.f0) := (blk_cell BX3.out 1).trans rfl
 have z2 : w3.cell? ⟨b, 2, none⟩ = some (.int .i64 u.f1.f1) := (blk_cell BX3.out 2).trans rfl
 have z3 : w3.cell? ⟨b, 3, none⟩ = some (.int .i64 u.f2) := (blk_cell BX3.out 3).trans rfl
 have HN3 := Aside0.mk (Kd.N_below hN.out hB3.out)
 have hb3 := Aside0.mk (blk_below hb.out hB3.out)
 have x0 : w3.cell? ⟨h, 0, none⟩ = some (.slice A us.length c) := (blk_cell hb3.out 0).trans rfl
 obtain ⟨g, rfl⟩ := N_some hN.out (by omega)
 obtain ⟨cs, hcsl, hKx, hcc⟩ := Kd.N_get HN3.out z33 (p : Int) (by omega) (by omega)
 obtain ⟨cur, hcur⟩ := N_block HN3.out
 have hgx : us.getD ((p : Int)).toNat z33 = x := by rw [Int.toNat_natCast, List.getD_eq_getElem?_getD, hx]; rfl
 rw [hgx] at hKx
 obtain ⟨A0, c0, hcs0, hl0, hF0⟩ := k33_openF hKx
 subst hcs0
 have y3 : w3.cell? ⟨g, p * 4 + 3, none⟩ = some (.int .i64 x.f2) := by
  have := hcc 3 _ rfl
  rwa [Int.toNat_natCast, show k33.sz = 4 from rfl, add_plain] at this
 have f3 := blk_frozen hcur.1 (p * 4 + 3)
 have hlt : (p : Int) < (us.length : Int) := by omega
 have hgh := hcur.2.2.2.2.1
 replace hKx := Aside0.mk hKx
 replace hcc := Aside0.mk hcc
 replace hcur := Aside0.mk hcur.1
 clear hcsl hgx hl0 hF0
 go_wp2_with fail
 go_region_held3 (fun w' => w'.cell? ⟨b, 3, none⟩ = some (.int .i64 u.f2) ∧ w'.cell? ⟨h, 0, none⟩ = some (.slice (some ⟨g, 0, none⟩) us.length c) ∧ w'.cell? ⟨g, p * 4 + 3, none⟩ = some (.int .i64 x.f2)) (first | exact ⟨z3, x0, y3⟩) (first | (go_at_call 29; (with_reducible refine (weigh_Add.calls _ _ s er _ hs).mono ?_); rintro e w4 ⟨rfl, ⟨nd, rfl⟩⟩))
 have HN4 := Aside0.mk (show Kd.N k33 33 (w3.drewN (1 + nd)) 0 (fun b => b ≠ h ∧ L b) (.slice (some ⟨g, 0, none⟩) us.length c) us from Kd.N_drewN HN3.out _)
 have hb4 := Aside0.mk (show (w3.drewN (1 + nd)).heap[h]? = some (.cells #[.slice (some ⟨g, 0, none⟩) us.length c] 63 (0, 0)) from hb3.out)
 have hB4 := Aside0.mk (show Below w.heap.size w (w3.drewN (1 + nd)) from pw_below_drewN hB3.out _)
 have hcur4 := Aside0.mk (show (w3.drewN (1 + nd)).heap[g]? = some (.cells cur 33 (0, 0)) from hcur.out)
 have hK4 := Aside0.mk (show Kd.FK k33 (w3.drewN (1 + nd)) (fun k => (k ≠ h ∧ L k) ∧ some k ≠ (Value.slice (some ⟨g, 0, none⟩) us.length c).ownBlock) x [.slice A0 x.f0.length c0, .int .i64 x.f1.f0, .int .i64 x.f1.f1, .int .i64 x.f2] from Kd.FK_below hKx.out (pw_below_drewN (Below.refl _ _) _))
 have hcc4 := Aside0.mk (show ∀ j v, [Value.slice A0 x.f0.length c0, .int .i64 x.f1.f0, .int .i64 x.f1.f1, .int .i64 x.f2][j]? = some v → (w3.drewN (1 + nd)).cell? ⟨g, p * 4 + j, none⟩ = some v from fun j v hj => by
  have := hcc.out j v hj
  rwa [Int.toNat_natCast, show k33.sz = 4 from rfl, add_plain] at this)
 clear z0 z1 z2 z3 x0 y3 f3 HN3 hb3 hB3 hcur hKx hcc BX3 hN hb hbb
 generalize w3.drewN (1 + nd) = w4 at HN4 hb4 hB4 hcur4 hK4 hcc4 ⊢
 have x0 : w4.cell? ⟨h, 0, none⟩ = some (.slice (some ⟨g, 0, none⟩) us.length c) := (blk_cell hb4.out 0).trans rfl
 have fx0 := blk_frozen hb4.out 0
 by_cases he : er = 0
 · have d1 : (er != 0) = false := by simp [he]
   by_cases hz : s = 0
   · have d2 : (s == 0) = true := by simp [hz]
     have hv := Aside0.mk (show vs = us.eraseIdx p by rw [hvs.out, if_neg (by simp [he]), if_pos hz])
     have e1 : IntKind.i64.wrap ((p : Int) + 1) = (p : Int) + 1 := IntWalk.i64_in _ (by omega)
     go_wp2_with fail
     refine (delete_calls HN4.out hpl (by omega)).mono ?_
     rintro e w5 ⟨rfl, hN5, hF5⟩
     have N5 := Aside0.mk hN5
     have F5 := Aside0.mk hF5
     have HX5 := Aside0.mk (hF5.keep hb4.out (fun he => hgh he.symm))
     have x5 : w5.cell? ⟨h, 0, none⟩ = some (.slice (some ⟨g, 0, none⟩) us.length c) := (blk_cell HX5.out 0).trans rfl
     have f5 := blk_frozen HX5.out 0
     clear hN5 hF5 x0 fx0
     go_wp2
     go_ret
     refine ⟨by rw [he]; rfl, ro, ⟨fun b hbb => hL b (by rw [setCell_size] at hbb; have := hB4.out.size; have := F5.out.size; omega), some ⟨g, 0, none⟩, c, ?_, by rw [hr.out]; rfl, ?_⟩, ?_, .inl rfl⟩
     · rw [hv.out, List.length_eraseIdx, if_pos hpl]
       exact blk_put (cs := #[.slice (some ⟨g, 0, none⟩) us.length c]) HX5.out 0 _ rfl
     · rw [hv.out, List.length_eraseIdx, if_pos hpl]
       exact Kd.N_step N5.out (fun k hk _ => Below.heap_setCell _ _ _ _ hk.1)
     · refine Fr.set ?_ (fun _ => .inl rfl) _
       exact (Fr.of_below hB4.out (Own h ro)).trans F5.out (fun i _ hi => .inr (by rw [hr.out, hi]; rfl))
   · have d2 : (s == 0) = false := by simp [hz]
     have hv := Aside0.mk (show vs = us.set p ⟨x.f0, x.f1, s⟩ by rw [hvs.out, if_neg (by simp [he]), if_neg hz])
     have y3 : w4.cell? ⟨g, p * 4 + 3, none⟩ = some (.int .i64 x.f2) := hcc4.out 3 _ rfl
     have f3 := blk_frozen hcur4.out (p * 4 + 3)
     go_wp2
     go_ret
     have hseg := Kd.N_seg (d := k33) (seg := [.int .i64 s]) (j := 3) (x' := ⟨x.f0, x.f1, s⟩) HN4.out (p : Int) (by omega) (by omega) (c := [.slice A0 x.f0.length c0, .int .i64 x.f1.f0, .int .i64 x.f1.f1, .int .i64 x.f2]) rfl (fun j v hj => by rw [Int.toNat_natCast]; exact hcc4.out j v hj) (show 4 ≤ 4 from Nat.le_refl _) (okp := fun k => (k ≠ h ∧ L k) ∧ some k ≠ (Value.slice (some ⟨g, 0, none⟩) us.length c).ownBlock) (by
      obtain ⟨A1, c1, he1, hl1, hF1⟩ := k33_openF hK4.out
      injection he1 with he1
      injection he1 with h1 _ h3
      subst h1 h3
      exact k33_mkF _ _ (⟨x.f0, x.f1, s⟩ : S33) hl1 hF1) (fun k hk => ⟨hk.1, fun e => hk.2 (by rw [e]; rfl)⟩)
     rw [Int.toNat_natCast] at hseg
     obtain ⟨hN5, hG5⟩ := hseg
     refine ⟨by rw [he]; rfl, ro, ⟨fun b hbb => hL b (by rw [setCell_size] at hbb; have := hB4.out.size; omega), some ⟨g, 0, none⟩, c, ?_, by rw [hr.out]; rfl, ?_⟩, ?_, .inl rfl⟩
     · rw [hv.out, List.length_set]
       exact blk_far hb4.out (fun e => hgh e.symm) _
     · rw [hv.out, List.length_set]
       exact hN5
     · refine Fr.set (Fr.of_below hB4.out _) (fun _ => .inr (by rw [hr.out]; rfl)) _
 · have d1 : (er != 0) = true := by simp [he]
   have hv : vs = us := by rw [hvs.out, if_pos (by simpa using he)]
   subst hv
   go_wp2
   go_ret
   exact ⟨rfl, ro, hH0.out.below hB4.out, Fr.of_below hB4.out _, .inl rfl⟩
end
end Go.Proofs.Ytednmkmhileikaa.G
