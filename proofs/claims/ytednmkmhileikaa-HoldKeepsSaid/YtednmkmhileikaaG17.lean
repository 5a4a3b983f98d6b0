/- HoldKeeps: the reference's Less: the walk. -/
import Derived.Test.YtednmkmhileikaaG13
import Derived.Test.YtednmkmhileikaaOHoldPlaysx20
namespace Go.Proofs.Ytednmkmhileikaa.G
open Go.RowKit Go.Proofs.YtednmkmhileikaaW.PrintWords Go.Proofs.YtednmkmhileikaaW.PrintLast Go.Proofs.YtednmkmhileikaaW.PrintMore Go.Proofs.Ytednmkmhileikaa.PHoldPlays
attribute [local go_sem] max2_int min2_int max_two min_two max_three min_three max_four min_four
set_option linter.unusedVariables false
set_option linter.unusedSimpArgs false
/-- A row of marks. -/
def Dn (w : World) (g n : Nat) (done : Nat → Bool) : Prop := ∃ cs : Array Value, w.heap[g]? = some (.cells cs 4 (0, 0)) ∧ ∀ i, i < n → cs[i]? = some (.bool (done i))
section
variable {w w1 : World} {g n : Nat} {done : Nat → Bool}
theorem Dn.cell (h : Dn w g n done) {i : Nat} (hi : i < n) : w.cell? ⟨g, i, none⟩ = some (.bool (done i)) := by
 obtain ⟨cs, hb, hc⟩ := h
 exact (blk_cell hb i).trans (hc i hi)
theorem Dn.frozen (h : Dn w g n done) (i : Nat) : w.frozen? ⟨g, i, none⟩ = false := by
 obtain ⟨cs, hb, _⟩ := h
 exact blk_frozen hb i
theorem Dn.below (h : Dn w g n done) (hb : Below w.heap.size w w1) : Dn w1 g n done := by
 obtain ⟨cs, hc, hd⟩ := h
 exact ⟨cs, blk_below hc hb, hd⟩
theorem Dn.keep (h : Dn w g n done) (hk : w1.heap[g]? = w.heap[g]?) : Dn w1 g n done := by
 obtain ⟨cs, hc, hd⟩ := h
 exact ⟨cs, hk.trans hc, hd⟩
theorem Dn.lt (h : Dn w g n done) : g < w.heap.size := by
 obtain ⟨cs, hc, _⟩ := h
 exact blk_lt hc
theorem Dn.far (h : Dn w g n done) {p : Addr} (hp : g ≠ p.block) (v : Value) : Dn (w.setCell p v) g n done := by
 obtain ⟨cs, hc, hd⟩ := h
 exact ⟨cs, blk_far hc hp v, hd⟩
theorem Dn.set (h : Dn w g n done) (i : Nat) : Dn (w.setCell ⟨g, i, none⟩ (.bool true)) g n (fun j => done j || j == i) := by
 obtain ⟨cs, hc, hd⟩ := h
 refine ⟨_, blk_put hc i _ rfl, fun j hj => ?_⟩
 have := hd j hj
 rw [Array.getElem?_setIfInBounds]
 by_cases hij : i = j
 · subst hij
   obtain ⟨hlt, _⟩ := Array.getElem?_eq_some_iff.1 this
   rw [if_pos rfl, if_pos hlt]
   simp
 · rw [if_neg hij, this]
   have : (j == i) = false := by simp; omega
   show _ = some (Value.bool (done j || j == i))
   rw [this, Bool.or_false]
end
theorem Dn.made (w : World) (n : Nat) : Dn (w.alloc (.cells (madeCells #[.bool false] n) 4)) w.heap.size n (fun _ => false) := by
 refine ⟨_, blk_new w _, fun i hi => ?_⟩
 rw [Array.getElem?_eq_getElem (by simpa [size_madeCells] using hi)]
 simp [madeCells, Nat.mod_one]
/-- The rows' order, as told. -/
def ROrdL (x y : List S61) (r : Int) : Prop := ∃ k, runnelref03_Order.f k x y = some r
/-- The sum of those that are like b among the first n. -/
def sumTo (oo : Nat → Nat → Int) (xs : List S76) (b : Nat) : Nat → Int
 | 0 => 0
 | n + 1 => if oo n b = 0 then sumTo oo xs b n + (xs.getD n z76).f1 else sumTo oo xs b n
/-- Those that are like b are done then. -/
def mark (oo : Nat → Nat → Int) (b : Nat) (done : Nat → Bool) (n i : Nat) : Bool := done i || (decide (i < n) && decide (oo i b = 0))
def lessN (oo : Nat → Nat → Int) (xs : List S76) : Nat → (Nat → Bool) → List S76 → Option (List S76)
 | 0, _, _ => none
 | k + 1, done, out => match bst done oo xs.length with
   | none => some out
   | some b => lessN oo xs k (mark oo b done xs.length) (if sumTo oo xs b xs.length = 0 then out else out ++ [⟨(xs.getD b z76).f0, sumTo oo xs b xs.length⟩])
theorem mark_zero (oo : Nat → Nat → Int) (b : Nat) (done : Nat → Bool) : mark oo b done 0 = done := by
 funext i
 simp [mark]
theorem mark_succ {oo : Nat → Nat → Int} {b n : Nat} {done : Nat → Bool} (h : oo n b = 0) : mark oo b done (n + 1) = fun j => mark oo b done n j || j == n := by
 funext i
 unfold mark
 by_cases hi : i = n
 · subst hi; simp [h]
 · have h1 : (i == n) = false := by simpa using hi
   have h2 : decide (i < n + 1) = decide (i < n) := by by_cases h3 : i < n <;> simp [h3] <;> omega
   rw [h1, h2, Bool.or_false]
theorem mark_skip {oo : Nat → Nat → Int} {b n : Nat} {done : Nat → Bool} (h : ¬ oo n b = 0) : mark oo b done (n + 1) = mark oo b done n := by
 funext i
 unfold mark
 by_cases hi : i = n
 · subst hi; simp [h]
 · have h2 : decide (i < n + 1) = decide (i < n) := by by_cases h3 : i < n <;> simp [h3] <;> omega
   rw [h2]
theorem bst_done {ah : Nat → Bool} {oo : Nat → Nat → Int} {n : Nat} (h : ah n = true) : bst ah oo (n + 1) = bst ah oo n := by
 conv => lhs; unfold bst
 rw [h]
 cases bst ah oo n <;> rfl
theorem bst_first {ah : Nat → Bool} {oo : Nat → Nat → Int} {n : Nat} (h : ah n = false) (hb : bst ah oo n = none) : bst ah oo (n + 1) = some n := by
 conv => lhs; unfold bst
 rw [h, hb]
 rfl
theorem bst_two {ah : Nat → Bool} {oo : Nat → Nat → Int} {n b : Nat} (h : ah n = false) (hb : bst ah oo n = some b) : bst ah oo (n + 1) = if oo n b < 0 then some n else some b := by
 conv => lhs; unfold bst
 rw [h, hb]
 rfl
theorem rd_76 {xs : List S76} {i : Nat} {x : S76} (h : xs[i]? = some x) : rd_T76 xs (i : Int) = x := by
 unfold rd_T76
 rw [Int.toNat_natCast, List.getD_eq_getElem?_getD, h]
 rfl
theorem rorderL_at (w : World) (A : Option Addr) (c : Nat) (x : List S61) (B : Option Addr) (d : Nat) (y : List S61) (r : Int) (h1 : k61.C w A x.length x) (h2 : x.length ≤ c) (h3 : k61.C w B y.length y) (h4 : y.length ≤ d) (h : ROrdL x y r) : Calls Try.prog 36 #[.slice A x.length c, .slice B y.length d] w fun e w' => e = .returned (.int .i64 r) ∧ Below w.heap.size w w' := by
 obtain ⟨k, h⟩ := h
 exact runnelref03_Order.calls k A c x B d y r w h1 h2 h3 h4 h
theorem N_empty76 {W : World} {ok : Nat → Prop} (hok : ok W.heap.size) : Kd.N k76 76 (W.alloc (.cells #[] 76)) W.heap.size ok (.slice (some ⟨W.heap.size, 0, none⟩) 0 0) [] :=
 Kd.R_N ⟨fun k hk => by
   have : W.heap.size = k := by simpa [Value.ownBlock] using hk
   subst this
   exact hok, [], ⟨rfl, .inr ⟨W.heap.size, 0, #[], rfl, Nat.le_refl _, blk_new W _, Nat.le_refl _, by decide, rfl, rfl⟩⟩, Reps.none _ _⟩
end Go.Proofs.Ytednmkmhileikaa.G
namespace Go.Proofs.Ytednmkmhileikaa.G
open Go.RowKit Go.Proofs.YtednmkmhileikaaW.PrintWords Go.Proofs.YtednmkmhileikaaW.PrintLast Go.Proofs.YtednmkmhileikaaW.PrintMore Go.Proofs.Ytednmkmhileikaa.PHoldPlays
attribute [local go_sem] max2_int min2_int max_two min_two max_three min_three max_four min_four
set_option linter.unusedVariables false
set_option linter.unusedSimpArgs false
theorem kh61' : Kd.Heap k61 := Kd.heap_iso _ (Kd.heap_pair (Kd.heap_int .i64) (Kd.heap_pair (Kd.heap_int .i64) Kd.heap_string))
theorem kh76 : Kd.Heap k76 := Kd.heap_iso _ (Kd.heap_pair (Kd.heap_slice 61 kh61') (Kd.heap_int .i64))
set_option maxHeartbeats 4000000 in
set_option maxRecDepth 100000 in
theorem less_calls {w : World} (A : Option Addr) (c : Nat) (xs r : List S76) (hC : k76.C w A xs.length xs) (hc : xs.length ≤ c) (hn : xs.length ≤ 1000) (oo : Nat → Nat → Int) (ho : ∀ i j x y, xs[i]? = some x → xs[j]? = some y → ROrdL x.f0 y.f0 (oo i j)) (hs : ∀ b i x, xs[i]? = some x → oo i b = 0 → runnelref06_Add.f (sumTo oo xs b i) x.f1 = some (sumTo oo xs b i + x.f1, 0)) (k : Nat) (hr : lessN oo xs k (fun _ => false) [] = some r) (hk : k ≤ 2000) :
  Calls Try.prog 35 #[.slice A xs.length c, .slice none 0 0] w fun e w' => ∃ v, e = .returned (.tuple #[v, .int .i64 0]) ∧ Kd.V k76 76 w' 0 (fun _ => True) v r ∧ Below w.heap.size w w' := by
 obtain ⟨n, hnn⟩ : ∃ n, n = xs.length := ⟨_, rfl⟩
 have F0 := Aside0.mk (Kd.C_F kh76 hC)
 rw [← hnn] at F0 hc hn ⊢
 have hmk : ∀ X, (Instr.makeSlice 88 (.int .i64 (n : Int)) (.int .i64 (n : Int))).run Try.prog X = .ok (.slice (some ⟨X.heap.size, 0, none⟩) n n) (X.alloc (.cells (madeCells #[.bool false] n) 4)) := print_make_of 88 4 (.bool false) 1 Try.underlying88 info4 rfl (by decide) n (by omega)
 replace hnn := Aside0.mk hnn
 replace ho := Aside0.mk ho
 replace hs := Aside0.mk hs
 replace hr := Aside0.mk hr
 clear hC
 go_enter Try.func35, Try.ntmps35
 go_wp2_with (first
  | ((with_reducible refine gate_builtin (b := .append) (xs := #[.tmp 15, .tmp 16]) rfl ?_); at_builtin; refine Kd.N_append_rows k76 (w0 := w) w.heap.size rfl (.tmp 15) (.tmp 16) 43 76 (.agg #[.slice none 0 0, .int .i64 0]) 32 rfl Try.underlying43 info76 rfl (show 0 < 2 by decide) (by decide) (.slice (some ⟨w.heap.size, 0, none⟩) 0 0) [] xs A n c (fun _ => True) (fun k => k < w.heap.size) rfl rfl (N_empty76 trivial) (Kd.F_alloc F0.out _) ?aK (fun _ _ => trivial) (below_alloc (Below.refl _ _) _) ?aS ?aL ?_; (case aK => exact fun k hk => ⟨trivial, fun e => by have e : k = w.heap.size := Option.some.inj e; omega⟩); (case aS => exact (below_alloc (w := w) (Below.refl _ _) _).size); (case aL => simp; omega); intro v1 w1 hN hB hg hat; have N1 := Aside0.mk hN; have B1 := Aside0.mk hB; clear hN hB hg hat)
  | ((with_reducible refine gate_builtin (b := .append) (xs := #[.tmp 17, .tmp 18]) rfl ?_); at_builtin; refine Kd.N_append_rows k76 (w0 := w) w.heap.size rfl (.tmp 17) (.tmp 18) 43 76 (.agg #[.slice none 0 0, .int .i64 0]) 32 rfl Try.underlying43 info76 rfl (show 0 < 2 by decide) (by decide) v1 ([] ++ xs) [] none 0 0 (fun _ => True) (fun _ => False) rfl rfl N1.out (fun W _ => Kd.C_nil _ _) (fun _ h => h.elim) (fun _ _ => trivial) B1.out B1.out.size ?aL ?_; (case aL => have := hnn.out; simp; omega); intro v2 w2 hN hB hg hat; have e2 : (([] : List S76) ++ xs ++ []) = xs := (by simp); rw [e2] at hN; obtain ⟨L, lc, rfl⟩ := Kd.N_slice hN; rw [← hnn.out] at hN ⊢; have LF2 := Aside0.mk (Kd.F_mono (Kd.F_bound (Kd.N_F hN)) (ok' := fun k => k < w2.heap.size) (fun k hk => hk.2)); have B2 := Aside0.mk hB; clear hN hB hg hat N1 B1 e2))
 obtain ⟨g7, hg7⟩ : ∃ g, g = w2.heap.size := ⟨_, rfl⟩
 have D7 := Dn.made w2 n
 have LF7 := Kd.F_alloc LF2.out (.cells (madeCells #[.bool false] n) 4)
 have B7 := B2.out.alloc B2.out.size (.cells (madeCells #[.bool false] n) 4)
 have hgw : w.heap.size ≤ g7 := by rw [hg7]; exact B2.out.size
 rw [← hg7] at D7 LF7 ⊢
 obtain ⟨w3, hw3⟩ : ∃ w', w' = w2.alloc (.cells (madeCells #[.bool false] n) 4) := ⟨_, rfl⟩
 rw [← hw3] at D7 LF7 B7 ⊢
 have D3 := Aside0.mk D7
 have LF3 := Aside0.mk (show Kd.F k76 w3 (fun j => j < g7) L n xs from LF7)
 have B3 := Aside0.mk B7
 have GE := Aside0.mk hgw
 clear D7 LF7 B7 hw3 hgw LF2 B2 hmk F0 hg7
 go_wp2_with fail
 go_loopg [8] k (fun gk v8 wr => ∃ (done : Nat → Bool) (out : List S76), Aside0 (lessN oo xs gk done out = some r) ∧ Aside0 (Kd.N k76 76 wr (g7 + 1) (fun j => j ≠ g7) v8 out) ∧ Aside0 (out.length + gk ≤ k) ∧ Aside0 (Dn wr g7 n done) ∧ Aside0 (Kd.F k76 wr (fun j => j < g7) L n xs) ∧ Aside0 (Below w.heap.size w wr))
 case atStart => exact ⟨_, [], hr, ⟨Kd.N_nil _ _ _ _ _⟩, ⟨by simp⟩, D3, LF3, B3⟩
 case round =>
  clear D3 LF3 B3
  obtain ⟨done, out, HR, HO, HL, HD, LF, BB⟩ := hrel
  cases gk with
  | zero => have := HR.out; simp [lessN] at this
  | succ ko =>
   obtain ⟨wo, rfl⟩ : ∃ x, x = wr := ⟨_, rfl⟩
   obtain ⟨O8, o8, rfl⟩ := Kd.N_slice HO.out
   go_wp2_with fail
   go_loopg [9, 10] n (fun g2 v9 v10 wr2 => ∃ i : Nat, v9 = .int .i64 (posI (bst done oo i)) ∧ v10 = .int .i64 i ∧ i ≤ n ∧ n - i ≤ g2 ∧ Aside0 (Below wo.heap.size wo wr2))
   case atStart => exact ⟨0, rfl, rfl, Nat.zero_le _, by omega, ⟨Below.refl _ _⟩⟩
   case round =>
    obtain ⟨i, rfl, rfl, hi, hgi, B2⟩ := hrel
    by_cases hlt : i < n
    · have hz : decide ((i : Int) < (n : Int)) = true := decide_eq_true (by omega)
      have hiz : (i : Int) < (n : Int) := by omega
      have z0 := (HD.out.below B2.out).cell hlt
      cases hdi : done i with
      | true =>
       rw [hdi] at z0
       have hbn := Aside0.mk (bst_done (oo := oo) hdi)
       clear hdi
       go_wp2_with fail
       refine start_ (n := 23) (S := fun w' => w'.cell? ⟨g7, i, none⟩ = some (.bool true)) (ds := []) #[false, false, false, false, false, false, false, false, false, false, false, false, false, false, false, false, false, false, false, false, false, false, false] (by kernel_rfl) rfl rfl z0 (fun hHeld => ?_)
       refine pure_ (i := 0) (N := some 29) (v := ?_) (a' := ?_) #[true, false, false, false, false, false, false, false, false, false, false, false, false, false, false, false, false, false, false, false, false, false, false] rfl rfl (by kernel_rfl) (fun _ _ _ h => h) (Or.inl ⟨by rfl, ?_⟩) ?_ ?_
       rotate_left
       ·
        intro w'
        go_simp
        with_reducible rfl
       rotate_left
       ·
        simp only [Act.put, List.setIfInBounds_toArray, List.set_cons_zero, List.set_cons_succ, i64_w, i32_w]
        rfl
       refine pure_ (i := 1) (N := some 30) (v := ?_) (a' := ?_) #[true, true, false, false, false, false, false, false, false, false, false, false, false, false, false, false, false, false, false, false, false, false, false] rfl rfl (by kernel_rfl) (fun _ _ _ h => h) (Or.inl ⟨by rfl, ?_⟩) ?_ ?_
       rotate_left
       ·
        intro w'
        go_simp
        with_reducible rfl
       rotate_left
       ·
        simp only [Act.put, List.setIfInBounds_toArray, List.set_cons_zero, List.set_cons_succ, i64_w, i32_w]
        rfl
       refine pure_ (i := 2) (N := some 31) (v := ?_) (a' := ?_) #[true, true, true, false, false, false, false, false, false, false, false, false, false, false, false, false, false, false, false, false, false, false, false] rfl rfl (by kernel_rfl) (fun _ _ _ h => h) (Or.inl ⟨by rfl, ?_⟩) ?_ ?_
       rotate_left
       ·
        intro w'
        go_simp
        with_reducible rfl
       rotate_left
       ·
        simp only [Act.put, List.setIfInBounds_toArray, List.set_cons_zero, List.set_cons_succ, i64_w, i32_w]
        rfl
       refine take_ (i := 3) (N := some 32) (v := ?_) (a' := ?_) #[true, true, true, true, false, false, false, false, false, false, false, false, false, false, false, false, false, false, false, false, false, false, false] rfl rfl (by kernel_rfl) (fun _ _ _ h => h) (Or.inl ⟨by rfl, ?_⟩) hHeld ?_ ?_
       rotate_left
       ·
        intro w' s0
        go_simp
        with_reducible rfl
       rotate_left
       ·
        simp only [Act.put, List.setIfInBounds_toArray, List.set_cons_zero, List.set_cons_succ, i64_w, i32_w]
        rfl
       refine pure_ (i := 4) (N := some 33) (v := ?_) (a' := ?_) #[true, true, true, true, true, false, false, false, false, false, false, false, false, false, false, false, false, false, false, false, false, false, false] rfl rfl (by kernel_rfl) (fun _ _ _ h => h) (Or.inl ⟨by rfl, ?_⟩) ?_ ?_
       rotate_left
       ·
        intro w'
        go_simp
        with_reducible rfl
       rotate_left
       ·
        simp only [Act.put, List.setIfInBounds_toArray, List.set_cons_zero, List.set_cons_succ, i64_w, i32_w]
        rfl
       refine pure_ (i := 5) (N := some 34) (v := ?_) (a' := ?_) #[true, true, true, true, true, true, false, false, false, false, false, false, false, false, false, false, false, false, false, false, false, false, false] rfl rfl (by kernel_rfl) (fun _ _ _ h => h) (Or.inl ⟨by rfl, ?_⟩) ?_ ?_
       rotate_left
       ·
        intro w'
        go_simp
        with_reducible rfl
       rotate_left
       ·
        simp only [Act.put, List.setIfInBounds_toArray, List.set_cons_zero, List.set_cons_succ, i64_w, i32_w]
        rfl
       refine pure_ (i := 6) (N := some 35) (v := undef) (a' := ?_) #[true, true, true, true, true, true, true, false, false, false, false, false, false, false, false, false, false, false, false, false, false, false, false] rfl rfl (by kernel_rfl) (fun _ _ _ h => h) (Or.inr ⟨by rfl, rfl⟩) ?_ ?_
       rotate_left
       ·
        simp only [Act.put, List.setIfInBounds_toArray, List.set_cons_zero, List.set_cons_succ, i64_w, i32_w]
        rfl
       refine pure_ (i := 7) (N := some 36) (v := undef) (a' := ?_) #[true, true, true, true, true, true, true, true, false, false, false, false, false, false, false, false, false, false, false, false, false, false, false] rfl rfl (by kernel_rfl) (fun _ _ _ h => h) (Or.inr ⟨by rfl, rfl⟩) ?_ ?_
       rotate_left
       ·
        simp only [Act.put, List.setIfInBounds_toArray, List.set_cons_zero, List.set_cons_succ, i64_w, i32_w]
        rfl
       refine pure_ (i := 8) (N := some 37) (v := undef) (a' := ?_) #[true, true, true, true, true, true, true, true, true, false, false, false, false, false, false, false, false, false, false, false, false, false, false] rfl rfl (by kernel_rfl) (fun _ _ _ h => h) (Or.inr ⟨by rfl, rfl⟩) ?_ ?_
       rotate_left
       ·
        simp only [Act.put, List.setIfInBounds_toArray, List.set_cons_zero, List.set_cons_succ, i64_w, i32_w]
        rfl
       refine pure_ (i := 9) (N := some 38) (v := undef) (a' := ?_) #[true, true, true, true, true, true, true, true, true, true, false, false, false, false, false, false, false, false, false, false, false, false, false] rfl rfl (by kernel_rfl) (fun _ _ _ h => h) (Or.inr ⟨by rfl, rfl⟩) ?_ ?_
       rotate_left
       ·
        simp only [Act.put, List.setIfInBounds_toArray, List.set_cons_zero, List.set_cons_succ, i64_w, i32_w]
        rfl
       refine pure_ (i := 10) (N := some 39) (v := undef) (a' := ?_) #[true, true, true, true, true, true, true, true, true, true, true, false, false, false, false, false, false, false, false, false, false, false, false] rfl rfl (by kernel_rfl) (fun _ _ _ h => h) (Or.inr ⟨by rfl, rfl⟩) ?_ ?_
       rotate_left
       ·
        simp only [Act.put, List.setIfInBounds_toArray, List.set_cons_zero, List.set_cons_succ, i64_w, i32_w]
        rfl
       refine pure_ (i := 11) (N := some 40) (v := undef) (a' := ?_) #[true, true, true, true, true, true, true, true, true, true, true, true, false, false, false, false, false, false, false, false, false, false, false] rfl rfl (by kernel_rfl) (fun _ _ _ h => h) (Or.inr ⟨by rfl, rfl⟩) ?_ ?_
       rotate_left
       ·
        simp only [Act.put, List.setIfInBounds_toArray, List.set_cons_zero, List.set_cons_succ, i64_w, i32_w]
        rfl
       refine pure_ (i := 12) (N := some 41) (v := undef) (a' := ?_) #[true, true, true, true, true, true, true, true, true, true, true, true, true, false, false, false, false, false, false, false, false, false, false] rfl rfl (by kernel_rfl) (fun _ _ _ h => h) (Or.inr ⟨by rfl, rfl⟩) ?_ ?_
       rotate_left
       ·
        simp only [Act.put, List.setIfInBounds_toArray, List.set_cons_zero, List.set_cons_succ, i64_w, i32_w]
        rfl
       refine pure_ (i := 13) (N := some 42) (v := undef) (a' := ?_) #[true, true, true, true, true, true, true, true, true, true, true, true, true, true, false, false, false, false, false, false, false, false, false] rfl rfl (by kernel_rfl) (fun _ _ _ h => h) (Or.inr ⟨by rfl, rfl⟩) ?_ ?_
       rotate_left
       ·
        simp only [Act.put, List.setIfInBounds_toArray, List.set_cons_zero, List.set_cons_succ, i64_w, i32_w]
        rfl
       refine pure_ (i := 14) (N := some 43) (v := undef) (a' := ?_) #[true, true, true, true, true, true, true, true, true, true, true, true, true, true, true, false, false, false, false, false, false, false, false] rfl rfl (by kernel_rfl) (fun _ _ _ h => h) (Or.inr ⟨by rfl, rfl⟩) ?_ ?_
       rotate_left
       ·
        simp only [Act.put, List.setIfInBounds_toArray, List.set_cons_zero, List.set_cons_succ, i64_w, i32_w]
        rfl
       refine pure_ (i := 15) (N := some 44) (v := undef) (a' := ?_) #[true, true, true, true, true, true, true, true, true, true, true, true, true, true, true, true, false, false, false, false, false, false, false] rfl rfl (by kernel_rfl) (fun _ _ _ h => h) (Or.inr ⟨by rfl, rfl⟩) ?_ ?_
       rotate_left
       ·
        simp only [Act.put, List.setIfInBounds_toArray, List.set_cons_zero, List.set_cons_succ, i64_w, i32_w]
        rfl
       refine pure_ (i := 16) (N := some 45) (v := undef) (a' := ?_) #[true, true, true, true, true, true, true, true, true, true, true, true, true, true, true, true, true, false, false, false, false, false, false] rfl rfl (by kernel_rfl) (fun _ _ _ h => h) (Or.inr ⟨by rfl, rfl⟩) ?_ ?_
       rotate_left
       ·
        simp only [Act.put, List.setIfInBounds_toArray, List.set_cons_zero, List.set_cons_succ, i64_w, i32_w]
        rfl
       refine pure_ (i := 17) (N := some 46) (v := undef) (a' := ?_) #[true, true, true, true, true, true, true, true, true, true, true, true, true, true, true, true, true, true, false, false, false, false, false] rfl rfl (by kernel_rfl) (fun _ _ _ h => h) (Or.inr ⟨by rfl, rfl⟩) ?_ ?_
       rotate_left
       ·
        simp only [Act.put, List.setIfInBounds_toArray, List.set_cons_zero, List.set_cons_succ, i64_w, i32_w]
        rfl
       refine pure_ (i := 18) (N := some 47) (v := undef) (a' := ?_) #[true, true, true, true, true, true, true, true, true, true, true, true, true, true, true, true, true, true, true, false, false, false, false] rfl rfl (by kernel_rfl) (fun _ _ _ h => h) (Or.inr ⟨by rfl, rfl⟩) ?_ ?_
       rotate_left
       ·
        simp only [Act.put, List.setIfInBounds_toArray, List.set_cons_zero, List.set_cons_succ, i64_w, i32_w]
        rfl
       refine pure_ (i := 19) (N := some 48) (v := undef) (a' := ?_) #[true, true, true, true, true, true, true, true, true, true, true, true, true, true, true, true, true, true, true, true, false, false, false] rfl rfl (by kernel_rfl) (fun _ _ _ h => h) (Or.inr ⟨by rfl, rfl⟩) ?_ ?_
       rotate_left
       ·
        simp only [Act.put, List.setIfInBounds_toArray, List.set_cons_zero, List.set_cons_succ, i64_w, i32_w]
        rfl
       refine pure_ (i := 20) (N := some 49) (v := undef) (a' := ?_) #[true, true, true, true, true, true, true, true, true, true, true, true, true, true, true, true, true, true, true, true, true, false, false] rfl rfl (by kernel_rfl) (fun _ _ _ h => h) (Or.inr ⟨by rfl, rfl⟩) ?_ ?_
       rotate_left
       ·
        simp only [Act.put, List.setIfInBounds_toArray, List.set_cons_zero, List.set_cons_succ, i64_w, i32_w]
        rfl
       refine pure_ (i := 21) (N := some 50) (v := undef) (a' := ?_) #[true, true, true, true, true, true, true, true, true, true, true, true, true, true, true, true, true, true, true, true, true, true, false] rfl rfl (by kernel_rfl) (fun _ _ _ h => h) (Or.inr ⟨by rfl, rfl⟩) ?_ ?_
       rotate_left
       ·
        simp only [Act.put, List.setIfInBounds_toArray, List.set_cons_zero, List.set_cons_succ, i64_w, i32_w]
        rfl
       refine pure_ (i := 22) (N := some 51) (v := ?_) (a' := ?_) #[true, true, true, true, true, true, true, true, true, true, true, true, true, true, true, true, true, true, true, true, true, true, true] rfl rfl (by kernel_rfl) (fun _ _ _ h => h) (Or.inl ⟨by rfl, ?_⟩) ?_ ?_
       rotate_left
       ·
        intro w'
        go_simp
        with_reducible rfl
       rotate_left
       ·
        simp only [Act.put, List.setIfInBounds_toArray, List.set_cons_zero, List.set_cons_succ, i64_w, i32_w]
        rfl
       refine done_ (by kernel_rfl) ?_
       clear z0
       all_goals go_wp2
       all_goals go_roundg (n - (i + 1))
       case measure => omega
       case rel => exact ⟨i + 1, by rw [hbn.out], by go_num, by omega, Nat.le_refl _, ⟨below_drew B2.out⟩⟩
      | false =>
       rw [hdi] at z0
       rcases hq : bst done oo i with _ | b
       · have hbn := Aside0.mk (bst_first hdi hq)
         have d1 : posI none = -1 := rfl
         rw [d1]
         clear hdi hq
         go_wp2_with fail
         refine start_ (n := 23) (S := fun w' => w'.cell? ⟨g7, i, none⟩ = some (.bool false)) (ds := []) #[false, false, false, false, false, false, false, false, false, false, false, false, false, false, false, false, false, false, false, false, false, false, false] (by kernel_rfl) rfl rfl z0 (fun hHeld => ?_)
         refine pure_ (i := 0) (N := some 29) (v := ?_) (a' := ?_) #[true, false, false, false, false, false, false, false, false, false, false, false, false, false, false, false, false, false, false, false, false, false, false] rfl rfl (by kernel_rfl) (fun _ _ _ h => h) (Or.inl ⟨by rfl, ?_⟩) ?_ ?_
         rotate_left
         ·
          intro w'
          go_simp
          with_reducible rfl
         rotate_left
         ·
          simp only [Act.put, List.setIfInBounds_toArray, List.set_cons_zero, List.set_cons_succ, i64_w, i32_w]
          rfl
         refine pure_ (i := 1) (N := some 30) (v := ?_) (a' := ?_) #[true, true, false, false, false, false, false, false, false, false, false, false, false, false, false, false, false, false, false, false, false, false, false] rfl rfl (by kernel_rfl) (fun _ _ _ h => h) (Or.inl ⟨by rfl, ?_⟩) ?_ ?_
         rotate_left
         ·
          intro w'
          go_simp
          with_reducible rfl
         rotate_left
         ·
          simp only [Act.put, List.setIfInBounds_toArray, List.set_cons_zero, List.set_cons_succ, i64_w, i32_w]
          rfl
         refine pure_ (i := 2) (N := some 31) (v := ?_) (a' := ?_) #[true, true, true, false, false, false, false, false, false, false, false, false, false, false, false, false, false, false, false, false, false, false, false] rfl rfl (by kernel_rfl) (fun _ _ _ h => h) (Or.inl ⟨by rfl, ?_⟩) ?_ ?_
         rotate_left
         ·
          intro w'
          go_simp
          with_reducible rfl
         rotate_left
         ·
          simp only [Act.put, List.setIfInBounds_toArray, List.set_cons_zero, List.set_cons_succ, i64_w, i32_w]
          rfl
         refine take_ (i := 3) (N := some 32) (v := ?_) (a' := ?_) #[true, true, true, true, false, false, false, false, false, false, false, false, false, false, false, false, false, false, false, false, false, false, false] rfl rfl (by kernel_rfl) (fun _ _ _ h => h) (Or.inl ⟨by rfl, ?_⟩) hHeld ?_ ?_
         rotate_left
         ·
          intro w' s0
          go_simp
          with_reducible rfl
         rotate_left
         ·
          simp only [Act.put, List.setIfInBounds_toArray, List.set_cons_zero, List.set_cons_succ, i64_w, i32_w]
          rfl
         refine pure_ (i := 4) (N := some 33) (v := ?_) (a' := ?_) #[true, true, true, true, true, false, false, false, false, false, false, false, false, false, false, false, false, false, false, false, false, false, false] rfl rfl (by kernel_rfl) (fun _ _ _ h => h) (Or.inl ⟨by rfl, ?_⟩) ?_ ?_
         rotate_left
         ·
          intro w'
          go_simp
          with_reducible rfl
         rotate_left
         ·
          simp only [Act.put, List.setIfInBounds_toArray, List.set_cons_zero, List.set_cons_succ, i64_w, i32_w]
          rfl
         refine pure_ (i := 5) (N := some 34) (v := ?_) (a' := ?_) #[true, true, true, true, true, true, false, false, false, false, false, false, false, false, false, false, false, false, false, false, false, false, false] rfl rfl (by kernel_rfl) (fun _ _ _ h => h) (Or.inl ⟨by rfl, ?_⟩) ?_ ?_
         rotate_left
         ·
          intro w'
          go_simp
          with_reducible rfl
         rotate_left
         ·
          simp only [Act.put, List.setIfInBounds_toArray, List.set_cons_zero, List.set_cons_succ, i64_w, i32_w]
          rfl
         refine pure_ (i := 6) (N := some 35) (v := ?_) (a' := ?_) #[true, true, true, true, true, true, true, false, false, false, false, false, false, false, false, false, false, false, false, false, false, false, false] rfl rfl (by kernel_rfl) (fun _ _ _ h => h) (Or.inl ⟨by rfl, ?_⟩) ?_ ?_
         rotate_left
         ·
          intro w'
          go_simp
          with_reducible rfl
         rotate_left
         ·
          simp only [Act.put, List.setIfInBounds_toArray, List.set_cons_zero, List.set_cons_succ, i64_w, i32_w]
          rfl
         refine pure_ (i := 7) (N := some 36) (v := ?_) (a' := ?_) #[true, true, true, true, true, true, true, true, false, false, false, false, false, false, false, false, false, false, false, false, false, false, false] rfl rfl (by kernel_rfl) (fun _ _ _ h => h) (Or.inl ⟨by rfl, ?_⟩) ?_ ?_
         rotate_left
         ·
          intro w'
          go_simp
          with_reducible rfl
         rotate_left
         ·
          simp only [Act.put, List.setIfInBounds_toArray, List.set_cons_zero, List.set_cons_succ, i64_w, i32_w]
          rfl
         refine pure_ (i := 8) (N := some 37) (v := ?_) (a' := ?_) #[true, true, true, true, true, true, true, true, true, false, false, false, false, false, false, false, false, false, false, false, false, false, false] rfl rfl (by kernel_rfl) (fun _ _ _ h => h) (Or.inl ⟨by rfl, ?_⟩) ?_ ?_
         rotate_left
         ·
          intro w'
          go_simp
          with_reducible rfl
         rotate_left
         ·
          simp only [Act.put, List.setIfInBounds_toArray, List.set_cons_zero, List.set_cons_succ, i64_w, i32_w]
          rfl
         refine pure_ (i := 9) (N := some 38) (v := undef) (a' := ?_) #[true, true, true, true, true, true, true, true, true, true, false, false, false, false, false, false, false, false, false, false, false, false, false] rfl rfl (by kernel_rfl) (fun _ _ _ h => h) (Or.inr ⟨by rfl, rfl⟩) ?_ ?_
         rotate_left
         ·
          simp only [Act.put, List.setIfInBounds_toArray, List.set_cons_zero, List.set_cons_succ, i64_w, i32_w]
          rfl
         refine pure_ (i := 10) (N := some 39) (v := undef) (a' := ?_) #[true, true, true, true, true, true, true, true, true, true, true, false, false, false, false, false, false, false, false, false, false, false, false] rfl rfl (by kernel_rfl) (fun _ _ _ h => h) (Or.inr ⟨by rfl, rfl⟩) ?_ ?_
         rotate_left
         ·
          simp only [Act.put, List.setIfInBounds_toArray, List.set_cons_zero, List.set_cons_succ, i64_w, i32_w]
          rfl
         refine pure_ (i := 11) (N := some 40) (v := undef) (a' := ?_) #[true, true, true, true, true, true, true, true, true, true, true, true, false, false, false, false, false, false, false, false, false, false, false] rfl rfl (by kernel_rfl) (fun _ _ _ h => h) (Or.inr ⟨by rfl, rfl⟩) ?_ ?_
         rotate_left
         ·
          simp only [Act.put, List.setIfInBounds_toArray, List.set_cons_zero, List.set_cons_succ, i64_w, i32_w]
          rfl
         refine pure_ (i := 12) (N := some 41) (v := undef) (a' := ?_) #[true, true, true, true, true, true, true, true, true, true, true, true, true, false, false, false, false, false, false, false, false, false, false] rfl rfl (by kernel_rfl) (fun _ _ _ h => h) (Or.inr ⟨by rfl, rfl⟩) ?_ ?_
         rotate_left
         ·
          simp only [Act.put, List.setIfInBounds_toArray, List.set_cons_zero, List.set_cons_succ, i64_w, i32_w]
          rfl
         refine pure_ (i := 13) (N := some 42) (v := undef) (a' := ?_) #[true, true, true, true, true, true, true, true, true, true, true, true, true, true, false, false, false, false, false, false, false, false, false] rfl rfl (by kernel_rfl) (fun _ _ _ h => h) (Or.inr ⟨by rfl, rfl⟩) ?_ ?_
         rotate_left
         ·
          simp only [Act.put, List.setIfInBounds_toArray, List.set_cons_zero, List.set_cons_succ, i64_w, i32_w]
          rfl
         refine pure_ (i := 14) (N := some 43) (v := undef) (a' := ?_) #[true, true, true, true, true, true, true, true, true, true, true, true, true, true, true, false, false, false, false, false, false, false, false] rfl rfl (by kernel_rfl) (fun _ _ _ h => h) (Or.inr ⟨by rfl, rfl⟩) ?_ ?_
         rotate_left
         ·
          simp only [Act.put, List.setIfInBounds_toArray, List.set_cons_zero, List.set_cons_succ, i64_w, i32_w]
          rfl
         refine pure_ (i := 15) (N := some 44) (v := undef) (a' := ?_) #[true, true, true, true, true, true, true, true, true, true, true, true, true, true, true, true, false, false, false, false, false, false, false] rfl rfl (by kernel_rfl) (fun _ _ _ h => h) (Or.inr ⟨by rfl, rfl⟩) ?_ ?_
         rotate_left
         ·
          simp only [Act.put, List.setIfInBounds_toArray, List.set_cons_zero, List.set_cons_succ, i64_w, i32_w]
          rfl
         refine pure_ (i := 16) (N := some 45) (v := undef) (a' := ?_) #[true, true, true, true, true, true, true, true, true, true, true, true, true, true, true, true, true, false, false, false, false, false, false] rfl rfl (by kernel_rfl) (fun _ _ _ h => h) (Or.inr ⟨by rfl, rfl⟩) ?_ ?_
         rotate_left
         ·
          simp only [Act.put, List.setIfInBounds_toArray, List.set_cons_zero, List.set_cons_succ, i64_w, i32_w]
          rfl
         refine pure_ (i := 17) (N := some 46) (v := undef) (a' := ?_) #[true, true, true, true, true, true, true, true, true, true, true, true, true, true, true, true, true, true, false, false, false, false, false] rfl rfl (by kernel_rfl) (fun _ _ _ h => h) (Or.inr ⟨by rfl, rfl⟩) ?_ ?_
         rotate_left
         ·
          simp only [Act.put, List.setIfInBounds_toArray, List.set_cons_zero, List.set_cons_succ, i64_w, i32_w]
          rfl
         refine pure_ (i := 18) (N := some 47) (v := undef) (a' := ?_) #[true, true, true, true, true, true, true, true, true, true, true, true, true, true, true, true, true, true, true, false, false, false, false] rfl rfl (by kernel_rfl) (fun _ _ _ h => h) (Or.inr ⟨by rfl, rfl⟩) ?_ ?_
         rotate_left
         ·
          simp only [Act.put, List.setIfInBounds_toArray, List.set_cons_zero, List.set_cons_succ, i64_w, i32_w]
          rfl
         refine pure_ (i := 19) (N := some 48) (v := undef) (a' := ?_) #[true, true, true, true, true, true, true, true, true, true, true, true, true, true, true, true, true, true, true, true, false, false, false] rfl rfl (by kernel_rfl) (fun _ _ _ h => h) (Or.inr ⟨by rfl, rfl⟩) ?_ ?_
         rotate_left
         ·
          simp only [Act.put, List.setIfInBounds_toArray, List.set_cons_zero, List.set_cons_succ, i64_w, i32_w]
          rfl
         refine pure_ (i := 20) (N := some 49) (v := undef) (a' := ?_) #[true, true, true, true, true, true, true, true, true, true, true, true, true, true, true, true, true, true, true, true, true, false, false] rfl rfl (by kernel_rfl) (fun _ _ _ h => h) (Or.inr ⟨by rfl, rfl⟩) ?_ ?_
         rotate_left
         ·
          simp only [Act.put, List.setIfInBounds_toArray, List.set_cons_zero, List.set_cons_succ, i64_w, i32_w]
          rfl
         refine pure_ (i := 21) (N := some 50) (v := ?_) (a' := ?_) #[true, true, true, true, true, true, true, true, true, true, true, true, true, true, true, true, true, true, true, true, true, true, false] rfl rfl (by kernel_rfl) (fun _ _ _ h => h) (Or.inl ⟨by rfl, ?_⟩) ?_ ?_
         rotate_left
         ·
          intro w'
          go_simp
          with_reducible rfl
         rotate_left
         ·
          simp only [Act.put, List.setIfInBounds_toArray, List.set_cons_zero, List.set_cons_succ, i64_w, i32_w]
          rfl
         refine pure_ (i := 22) (N := some 51) (v := ?_) (a' := ?_) #[true, true, true, true, true, true, true, true, true, true, true, true, true, true, true, true, true, true, true, true, true, true, true] rfl rfl (by kernel_rfl) (fun _ _ _ h => h) (Or.inl ⟨by rfl, ?_⟩) ?_ ?_
         rotate_left
         ·
          intro w'
          go_simp
          with_reducible rfl
         rotate_left
         ·
          simp only [Act.put, List.setIfInBounds_toArray, List.set_cons_zero, List.set_cons_succ, i64_w, i32_w]
          rfl
         refine done_ (by kernel_rfl) ?_
         clear z0
         all_goals go_wp2
         all_goals go_roundg (n - (i + 1))
         case measure => omega
         case rel => exact ⟨i + 1, by rw [hbn.out]; rfl, by go_num, by omega, Nat.le_refl _, ⟨below_drew B2.out⟩⟩
       · have hbl := bst_lt done oo i b hq
         obtain ⟨x, hx⟩ : ∃ x, xs[i]? = some x := ⟨_, List.getElem?_eq_getElem (by have := hnn.out; omega)⟩
         obtain ⟨y, hy⟩ : ∃ y, xs[b]? = some y := ⟨_, List.getElem?_eq_getElem (by have := hnn.out; omega)⟩
         have LFi := Kd.F_below LF.out B2.out
         obtain ⟨ad, A0, c0, e0, y0, _, hl0, hC0⟩ := at_T76 (Kd.F_now LFi) (i : Int) (by omega) (by omega)
         obtain ⟨ad1, A1, c1, e1, v0, _, hl1, hC1⟩ := at_T76 (Kd.F_now LFi) (b : Int) (by omega) (by omega)
         cases e0
         obtain rfl : ad = ad1 := by injection e1
         rw [rd_76 hx] at y0 hl0 hC0
         rw [rd_76 hy] at v0 hl1 hC1
         simp only [Int.toNat_natCast] at y0 v0
         have hO := Aside0.mk (ho.out i b x y hx hy)
         have hb' := Aside0.mk (bst_two hdi hq)
         have d1 : posI (some b) = (b : Int) := rfl
         rw [d1]
         have hneg : decide ((b : Int) < 0) = false := decide_eq_false (by omega)
         have hbn : (b : Int) < (n : Int) := by omega
         replace hl0 := Aside0.mk hl0
         replace hl1 := Aside0.mk hl1
         replace hC0 := Aside0.mk hC0
         replace hC1 := Aside0.mk hC1
         clear hdi hq hx hy e1 d1 LFi
         go_wp2_with fail
         go_region_held3 (fun w' => w'.cell? ⟨g7, i, none⟩ = some (.bool false) ∧ w'.cell? (ad.add (i * 2)) = some (.slice A0 x.f0.length c0) ∧ w'.cell? (ad.add (b * 2)) = some (.slice A1 y.f0.length c1)) (first | exact ⟨z0, y0, v0⟩ | exact ⟨pw_cell_below HB6.out z0, pw_cell_below HB6.out y0, pw_cell_below HB6.out v0⟩) (first | (go_at_call 36; (with_reducible refine (rorderL_at _ A0 c0 x.f0 A1 c1 y.f0 (oo i b) ?h1 hl0.out ?h3 hl1.out hO.out).mono ?_); (case h1 => exact Kd.C_below hC0.out (below_drew (Below.refl _ _))); (case h3 => exact Kd.C_below hC1.out (below_drew (Below.refl _ _))); rintro e w6 ⟨rfl, hb⟩; have HB6 : Aside0 (Below wr.heap.size wr w6) := Aside0.mk (below_then (below_drew (Below.refl _ _)) (Nat.le_refl _) hb); clear hb))
         have BK' := Aside0.mk (below_then B2.out B2.out.size HB6.out)
         clear y0 v0 z0
         by_cases hoo : oo i b < 0
         · have hz2 : decide (oo i b < 0) = true := decide_eq_true hoo
           have hb2 := Aside0.mk (hb'.out.trans (if_pos hoo))
           go_wp2
           go_roundg (n - (i + 1))
           case measure => omega
           case rel => exact ⟨i + 1, by rw [hb2.out]; rfl, by go_num, by omega, Nat.le_refl _, BK'⟩
         · have hz2 : decide (oo i b < 0) = false := decide_eq_false hoo
           have hb2 := Aside0.mk (hb'.out.trans (if_neg hoo))
           go_wp2
           go_roundg (n - (i + 1))
           case measure => omega
           case rel => exact ⟨i + 1, by rw [hb2.out]; rfl, by go_num, by omega, Nat.le_refl _, BK'⟩
    · have hz : decide ((i : Int) < (n : Int)) = false := decide_eq_false (by omega)
      obtain rfl : n = i := by omega
      have HDn := Aside0.mk (HD.out.below B2.out)
      have LFn := Aside0.mk (Kd.F_below LF.out B2.out)
      have HOn := Aside0.mk (Kd.N_below HO.out B2.out)
      have BBn := Aside0.mk (below_then BB.out BB.out.size B2.out)
      clear HD LF HO BB B2
      rcases hq : bst done oo n with _ | b
      · have e := Aside0.mk (show r = out by
         have h := HR.out
         simp only [lessN] at h
         rw [← hnn.out, hq] at h
         exact (Option.some.inj h).symm)
        have d1 : posI none = -1 := rfl
        rw [d1]
        clear hq
        go_wp2
        go_ret2
        refine ⟨_, rfl, ?_, BBn.out⟩
        rw [e.out]
        exact Kd.V_mono (Kd.N_V HOn.out) (fun _ _ => trivial)
      · have hR2 := Aside0.mk (show lessN oo xs ko (mark oo b done n) (if sumTo oo xs b n = 0 then out else out ++ [⟨(xs.getD b z76).f0, sumTo oo xs b n⟩]) = some r by
         have h := HR.out
         simp only [lessN] at h
         rw [← hnn.out, hq] at h
         exact h)
        have hbl := bst_lt done oo n b hq
        have d1 : posI (some b) = (b : Int) := rfl
        rw [d1]
        have hneg : decide ((b : Int) < 0) = false := decide_eq_false (by omega)
        have hbn : (b : Int) < (n : Int) := by omega
        clear hq HR
        go_wp2_with fail
        have D0 := Aside0.mk (show Dn wr g7 n (mark oo b done 0) by rw [mark_zero]; exact HDn.out)
        go_loopg [11, 12] n (fun g3 v11 v12 wr3 => ∃ i : Nat, v11 = .int .i64 (sumTo oo xs b i) ∧ v12 = .int .i64 i ∧ i ≤ n ∧ n - i ≤ g3 ∧ Aside0 (Dn wr3 g7 n (mark oo b done i)) ∧ Aside0 (Kd.F k76 wr3 (fun j => j < g7) L n xs) ∧ Aside0 (Kd.N k76 76 wr3 (g7 + 1) (fun j => j ≠ g7) (.slice O8 out.length o8) out) ∧ Aside0 (Below w.heap.size w wr3))
        case atStart => exact ⟨0, rfl, rfl, Nat.zero_le _, by omega, D0, LFn, HOn, BBn⟩
        case round =>
         clear D0 HDn LFn HOn BBn
         obtain ⟨i, rfl, rfl, hi, hgi, HD, LF, HO, BB⟩ := hrel
         by_cases hlt : i < n
         · have hz : decide ((i : Int) < (n : Int)) = true := decide_eq_true (by omega)
           have hiz : (i : Int) < (n : Int) := by omega
           obtain ⟨x, hx⟩ : ∃ x, xs[i]? = some x := ⟨_, List.getElem?_eq_getElem (by have := hnn.out; omega)⟩
           obtain ⟨y, hy⟩ : ∃ y, xs[b]? = some y := ⟨_, List.getElem?_eq_getElem (by have := hnn.out; omega)⟩
           obtain ⟨ad, A0, c0, e0, y0, y1, hl0, hC0⟩ := at_T76 (Kd.F_now LF.out) (i : Int) (by omega) (by omega)
           obtain ⟨ad1, A1, c1, e1, v0, _, hl1, hC1⟩ := at_T76 (Kd.F_now LF.out) (b : Int) (by omega) (by omega)
           cases e0
           obtain rfl : ad = ad1 := by injection e1
           rw [rd_76 hx] at y0 y1 hl0 hC0
           rw [rd_76 hy] at v0 hl1 hC1
           simp only [Int.toNat_natCast] at y0 y1 v0
           have hO := Aside0.mk (ho.out i b x y hx hy)
           have hsx := Aside0.mk (fun h0 => hs.out b i x hx h0)
           have hsum := Aside0.mk (show sumTo oo xs b (i + 1) = if oo i b = 0 then sumTo oo xs b i + x.f1 else sumTo oo xs b i by
            show (if oo i b = 0 then sumTo oo xs b i + (xs.getD i z76).f1 else sumTo oo xs b i) = _
            rw [List.getD_eq_getElem?_getD, hx]; rfl)
           replace hl0 := Aside0.mk hl0
           replace hl1 := Aside0.mk hl1
           replace hC0 := Aside0.mk hC0
           replace hC1 := Aside0.mk hC1
           replace y1 := Aside0.mk y1
           clear hx hy e1
           go_wp2_with fail
           go_region_held3 (fun w' => w'.cell? (ad.add (i * 2)) = some (.slice A0 x.f0.length c0) ∧ w'.cell? (ad.add (b * 2)) = some (.slice A1 y.f0.length c1)) (first | exact ⟨y0, v0⟩ | exact ⟨pw_cell_below HB6.out y0, pw_cell_below HB6.out v0⟩) (first | (go_at_call 36; (with_reducible refine (rorderL_at _ A0 c0 x.f0 A1 c1 y.f0 (oo i b) ?h1 hl0.out ?h3 hl1.out hO.out).mono ?_); (case h1 => exact Kd.C_below hC0.out (below_drew (Below.refl _ _))); (case h3 => exact Kd.C_below hC1.out (below_drew (Below.refl _ _))); rintro e w6 ⟨rfl, hb⟩; have HB6 : Aside0 (Below wr.heap.size wr w6) := Aside0.mk (below_then (below_drew (Below.refl _ _)) (Nat.le_refl _) hb); clear hb))
           have HD6 := Aside0.mk (HD.out.below HB6.out)
           have LF6 := Aside0.mk (Kd.F_below LF.out HB6.out)
           have HO6 := Aside0.mk (Kd.N_below HO.out HB6.out)
           have BB6 := Aside0.mk (below_then BB.out BB.out.size HB6.out)
           have y1' := pw_cell_below HB6.out y1.out
           clear y0 v0 y1 HD LF HO BB HB6 hC0 hC1
           by_cases h0 : oo i b = 0
           · have d2 : (oo i b != 0) = false := by simp [h0]
             have hsm := Aside0.mk (hsum.out.trans (if_pos h0))
             have hAdd := hsx.out h0
             have hmk2 := Aside0.mk (mark_succ (done := done) h0)
             have hge : decide ((n : Int) ≤ (i : Int)) = false := decide_eq_false (by omega)
             clear hsum hsx h0
             go_wp2_with fail
             refine (runnelref06_Add.calls _ _ _ _ _ hAdd).mono ?_
             rintro e w7 ⟨rfl, hB7⟩
             have HD7 := Aside0.mk (HD6.out.below hB7)
             have LF7 := Aside0.mk (Kd.F_below LF6.out hB7)
             have HO7 := Aside0.mk (Kd.N_below HO6.out hB7)
             have BB7 := Aside0.mk (below_then BB6.out BB6.out.size hB7)
             have z0 := HD7.out.cell hlt
             have zf := HD7.out.frozen i
             clear hB7 HD6 LF6 HO6 BB6 y1' hAdd
             go_wp2
             go_roundg (n - (i + 1))
             case measure => omega
             case rel => exact ⟨i + 1, by rw [hsm.out], by go_num, by omega, Nat.le_refl _, ⟨by rw [hmk2.out]; exact HD7.out.set i⟩, ⟨Kd.F_step LF7.out (fun j hj _ => Below.heap_setCell _ _ _ _ (Nat.ne_of_lt hj))⟩, ⟨Kd.N_step HO7.out (fun j hj _ => Below.heap_setCell _ _ _ _ hj)⟩, ⟨below_set BB7.out GE.out⟩⟩
           · have d2 : (oo i b != 0) = true := by simp [h0]
             have hsm := Aside0.mk (hsum.out.trans (if_neg h0))
             have hmk2 := Aside0.mk (mark_skip (done := done) h0)
             clear hsum hsx h0 y1'
             go_wp2
             go_roundg (n - (i + 1))
             case measure => omega
             case rel => exact ⟨i + 1, by rw [hsm.out], by go_num, by omega, Nat.le_refl _, ⟨by rw [hmk2.out]; exact HD6.out⟩, LF6, HO6, BB6⟩
         · have hz : decide ((i : Int) < (n : Int)) = false := decide_eq_false (by omega)
           obtain rfl : n = i := by omega
           have hg8 := HD.out.lt
           by_cases h0 : sumTo oo xs b n = 0
           · have d2 : (sumTo oo xs b n != 0) = false := by simp [h0]
             have hR3 := Aside0.mk (show lessN oo xs ko (mark oo b done n) out = some r by have h := hR2.out; rw [if_pos h0] at h; exact h)
             go_wp2
             go_roundg ko
             case measure => omega
             case rel => exact ⟨_, out, hR3, HO, ⟨by have := HL.out; omega⟩, HD, LF, BB⟩
           · have d2 : (sumTo oo xs b n != 0) = true := by simp [h0]
             have hR3 := Aside0.mk (show lessN oo xs ko (mark oo b done n) (out ++ [⟨(xs.getD b z76).f0, sumTo oo xs b n⟩]) = some r by have h := hR2.out; rw [if_neg h0] at h; exact h)
             obtain ⟨ad, cs, e0, _, hFK, hcc, _⟩ := Kd.F_get LF.out z76 (b : Int) (by omega) (by omega)
             cases e0
             rw [Int.toNat_natCast] at hFK hcc
             obtain ⟨y, hy⟩ : ∃ y, y = xs.getD b z76 := ⟨_, rfl⟩
             rw [← hy] at hFK hR3
             obtain ⟨A0, c0, rfl, hl0, hF0⟩ := k76_openF hFK
             have y0 : wr.cell? (ad.add (b * 2)) = some (.slice A0 y.f0.length c0) := hcc 0 _ rfl
             obtain ⟨sm, hsm⟩ : ∃ s, s = sumTo oo xs b n := ⟨_, rfl⟩
             rw [← hsm] at hR3 d2 ⊢
             replace hF0 := Aside0.mk hF0
             clear hcc hFK hy hsm h0 hR2
             go_wp2_with (((with_reducible refine gate_builtin (b := .append) (xs := #[.tmp 106, .tmp 114]) rfl ?_); at_builtin; refine Kd.N_append k76 (w0 := wr) (g7 + 1) rfl (.tmp 106) (.tmp 114) 43 76 (.agg #[.slice none 0 0, .int .i64 0]) 32 rfl Try.underlying43 info76 rfl (show 0 < 2 by decide) (by decide) (.slice O8 out.length o8) out ⟨y.f0, sm⟩ [.slice A0 y.f0.length c0, .int .i64 sm] (fun j => j ≠ g7) (fun j => j < g7) rfl rfl (k76_mkF _ _ (⟨y.f0, sm⟩ : S76) hl0 hF0.out) ?aK ?aF HO.out (Below.refl _ _) hg8 ?aL ?_; (case aK => exact fun j hj => ⟨Nat.ne_of_lt hj, fun e => by have := Kd.N_base HO.out j e.symm; omega⟩); (case aF => exact fun j hj => (by omega)); (case aL => have := HL.out; omega); intro v8 w8 hN hB hg hat; have HO8 := Aside0.mk hN; have B8 := Aside0.mk hB; clear hN hB hg hat))
             go_roundg ko
             case measure => omega
             case rel => exact ⟨_, _, hR3, HO8, ⟨by have := HL.out; simp; omega⟩, ⟨HD.out.keep (B8.out.block g7 (by omega))⟩, ⟨Kd.F_step LF.out (fun j hj _ => B8.out.block j (by have : j < g7 := hj; omega))⟩, ⟨BB.out.trans (B8.out.mono (by have := GE.out; omega))⟩⟩
end Go.Proofs.Ytednmkmhileikaa.G
