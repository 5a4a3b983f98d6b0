/- The reference's Next. -/
import Derived.Test.YtednmkmhileikaaG10
import Derived.Test.YtednmkmhileikaaOHoldPlaysx8
namespace Go.Proofs.Ytednmkmhileikaa.G
open Go.RowKit Go.Proofs.YtednmkmhileikaaW.PrintWords Go.Proofs.YtednmkmhileikaaW.PrintLast Go.Proofs.YtednmkmhileikaaW.PrintMore Go.Proofs.Ytednmkmhileikaa.PHoldPlays
attribute [local go_sem] max2_int min2_int max_two min_two max_three min_three max_four min_four
set_option linter.unusedVariables false
set_option linter.unusedSimpArgs false
/-- The place of the best one among the first n. -/
def bst (ah : Nat → Bool) (oo : Nat → Nat → Int) : Nat → Option Nat
 | 0 => none
 | n + 1 => match bst ah oo n with
  | none => if ah n then none else some n
  | some b => if ah n then some b else if oo n b < 0 then some n else some b
theorem bst_lt (ah : Nat → Bool) (oo : Nat → Nat → Int) : ∀ n b, bst ah oo n = some b → b < n
 | 0, _, h => by cases h
 | n + 1, b, h => by
  unfold bst at h
  rcases hq : bst ah oo n with _ | c
  · rw [hq] at h
    simp only [] at h
    split at h
    · cases h
    · injection h with h; omega
  · have := bst_lt ah oo n c hq
    rw [hq] at h
    simp only [] at h
    split at h
    · injection h with h; omega
    · split at h <;> (injection h with h; omega)
def RAhead (fs : List S24) (x : S33) (r : Bool) : Prop := ∃ k, runnelref05_Ahead.f k fs x.f1.f0 x.f1.f1 = some r
def ROrd (x y : S33) (r : Int) : Prop := ∃ k, runnelref21_order.f k x.f0 x.f1.f0 x.f1.f1 x.f2 y.f0 y.f1.f0 y.f1.f1 y.f2 = some r
theorem rahead_at (w : World) (A : Option Addr) (c : Nat) (fs : List S24) (x : S33) (r : Bool) (hC : k24.C w A fs.length fs) (hc : fs.length ≤ c) (h : RAhead fs x r) : Calls Try.prog 12 #[.slice A fs.length c, .agg #[.int .i64 x.f1.f0, .int .i64 x.f1.f1]] w fun e w' => e = .returned (.bool r) ∧ Below w.heap.size w w' := by
 obtain ⟨k, h⟩ := h
 exact runnelref05_Ahead.calls k A c fs _ _ r w hC hc h
theorem rorder_at (w : World) (A : Option Addr) (c : Nat) (x : S33) (B : Option Addr) (d : Nat) (u : S33) (r : Int) (h1 : k61.C w A x.f0.length x.f0) (h2 : x.f0.length ≤ c) (h3 : k61.C w B u.f0.length u.f0) (h4 : u.f0.length ≤ d) (h : ROrd x u r) : Calls Try.prog 37 #[.agg #[.slice A x.f0.length c, .int .i64 x.f1.f0, .int .i64 x.f1.f1, .int .i64 x.f2], .agg #[.slice B u.f0.length d, .int .i64 u.f1.f0, .int .i64 u.f1.f1, .int .i64 u.f2]] w fun e w' => e = .returned (.int .i64 r) ∧ Below w.heap.size w w' := by
 obtain ⟨k, h⟩ := h
 exact runnelref21_order.calls k A c x.f0 _ _ _ B d u.f0 _ _ _ r w h1 h2 h3 h4 h
theorem results_tct {fn : Func} {t p u : Tmp} {ty : TypeId} (h : fn.results = #[.tmp t, .cell p ty, .tmp u]) (tmps : Array Value) (P : Program) (w : World) :
  (results fn tmps).run P w = ((asAddr (tmps.getD p undef)).run P w).andThen fun a w₁ => ((loadVar ty a).run P w₁).andThen fun v w₂ => .ok (.tuple #[tmps.getD t undef, v, tmps.getD u undef]) w₂ := by
 simp only [results, h]
 simp [Sem.run_bind, Result.andThen]
theorem N_empty_new {W : World} {ok : Nat → Prop} (hok : ok W.heap.size) : Kd.N k33 33 (W.alloc (.cells #[] 33)).drew W.heap.size ok (.slice (some ⟨W.heap.size, 0, none⟩) 0 0) [] :=
 Kd.R_N ⟨fun k hk => by
   have : W.heap.size = k := by simpa [Value.ownBlock] using hk
   subst this
   exact hok, [], ⟨rfl, .inr ⟨W.heap.size, 0, #[], rfl, Nat.le_refl _, blk_drew (blk_new W _), Nat.le_refl _, by decide, rfl, rfl⟩⟩, Reps.none _ _⟩
def RNone (w : World) (A : Option Addr) (n c : Nat) (e : Ending) (w' : World) : Prop := e = .returned (.tuple #[.slice A n c, .agg #[.slice none 0 0, .int .i64 0, .int .i64 0, .int .i64 0], .bool false]) ∧ Below w.heap.size w w'
def RSome (w : World) (ok : Nat → Prop) (x : S33) (vs : List S33) (e : Ending) (w' : World) : Prop := ∃ v D d, e = .returned (.tuple #[v, .agg #[.slice D x.f0.length d, .int .i64 x.f1.f0, .int .i64 x.f1.f1, .int .i64 x.f2], .bool true]) ∧ x.f0.length ≤ d ∧ k61.C w' D x.f0.length x.f0 ∧ Kd.V k33 33 w' 0 (fun k => ok k ∨ w.heap.size ≤ k) v vs ∧ Below w.heap.size w w'
set_option maxHeartbeats 4000000 in
set_option maxRecDepth 100000 in
theorem rnext_calls {w : World} (A : Option Addr) (c : Nat) (l : List S33) (ok : Nat → Prop) (B : Option Addr) (d : Nat) (fs : List S24) (hV : Kd.F k33 w ok A l.length l) (hc : l.length ≤ c) (hn : l.length ≤ 1000) (hC : k24.C w B fs.length fs) (hd : fs.length ≤ d) (ah : Nat → Bool) (oo : Nat → Nat → Int) (ha : ∀ j x, l[j]? = some x → RAhead fs x (ah j)) (ho : ∀ i j x y, l[i]? = some x → l[j]? = some y → ROrd x y (oo i j)) (Po : Ending → World → Prop)
  (hPo : (bst ah oo l.length = none ∧ Po = RNone w A l.length c) ∨ ∃ p x, bst ah oo l.length = some p ∧ l[p]? = some x ∧ Po = RSome w ok x (l.eraseIdx p)) : Calls Try.prog 16 #[.slice A l.length c, .slice B fs.length d] w Po := by
 obtain ⟨n, hnn⟩ : ∃ n, n = l.length := ⟨_, rfl⟩
 rw [← hnn] at hV hc hn hPo ⊢
 replace hV := Aside0.mk hV
 replace hC := Aside0.mk hC
 replace ha := Aside0.mk ha
 replace ho := Aside0.mk ho
 replace hPo := Aside0.mk hPo
 replace hnn := Aside0.mk hnn
 go_enter Try.func16, Try.ntmps16
 go_wp2_with (first
  | ((with_reducible refine gate_dst (N := 5) rfl ?_); refine box_event ?hg (N := 5) ?hd (cs := #[.slice none 0 0, .int .i64 0, .int .i64 0, .int .i64 0]) (t := 33) ?hr ?_; (case hd => rfl); (case hg => rfl); (case hr => first | (go_simp; done) | (go_simp; rfl)); intro g0 hg0 w0 BK hb0; have B0 := Aside0.mk hb0; have BK0 := Aside0.mk BK; have GE : Aside0 (w.heap.size ≤ g0) := ⟨(by rw [hg0]; exact Nat.le_refl _)⟩; clear hb0 hg0 BK))
 go_loopg [7, 8] n (fun gk v7 v8 wr => ∃ i : Nat, v7 = .int .i64 (posI (bst ah oo i)) ∧ v8 = .int .i64 i ∧ i ≤ n ∧ n - i ≤ gk ∧ Aside0 (wr.heap[g0]? = some (.cells #[.slice none 0 0, .int .i64 0, .int .i64 0, .int .i64 0] 33 (0, 0))) ∧ Aside0 (Below w.heap.size w wr))
 case atStart => exact ⟨0, rfl, rfl, Nat.zero_le _, by omega, BK0, B0⟩
 case round =>
  clear B0 BK0
  obtain ⟨i, rfl, rfl, hi, hgi, BK, BB⟩ := hrel
  by_cases hlt : i < n
  · have hz : decide ((i : Int) < (n : Int)) = true := decide_eq_true (by omega)
    have hiz : (i : Int) < (n : Int) := by omega
    obtain ⟨x, hx⟩ : ∃ x, l[i]? = some x := ⟨_, List.getElem?_eq_getElem (by have := hnn.out; omega)⟩
    obtain ⟨ad, A0, c0, e0, y0, y1, y2, y3, hl0, hC0⟩ := at_T33 (Kd.F_now hV.out) (i : Int) (by omega) (by omega)
    rw [rd_33 hx] at y0 y1 y2 y3 hl0 hC0
    simp only [Int.toNat_natCast] at y0 y1 y2 y3
    cases e0
    replace y0 := BB.out.cell (World.block_lt_of_cell? w _ y0) |>.trans y0
    replace y1 := BB.out.cell (World.block_lt_of_cell? w _ y1) |>.trans y1
    replace y2 := BB.out.cell (World.block_lt_of_cell? w _ y2) |>.trans y2
    replace y3 := BB.out.cell (World.block_lt_of_cell? w _ y3) |>.trans y3
    have hA := Aside0.mk (ha.out i x hx)
    have hxe := Aside0.mk hx
    replace hl0 := Aside0.mk hl0
    replace hC0 := Aside0.mk hC0
    have hCA := Aside0.mk (Kd.C_below hC.out BB.out)
    clear hx
    have hxi : (i : Int) < (n : Int) := by omega
    cases hah : ah i with
    | true =>
      rw [hah] at hA
      have hb' := Aside0.mk (show bst ah oo (i + 1) = bst ah oo i by
        show (match bst ah oo i with | none => if ah i then none else some i | some b => if ah i then some b else if oo i b < 0 then some i else some b) = _
        rw [hah]
        rcases bst ah oo i with _ | b <;> rfl)
      obtain ⟨q, hq⟩ : ∃ q, q = bst ah oo i := ⟨_, rfl⟩
      rw [← hq] at hb' ⊢
      clear hq hah
      obtain ⟨z7, hz7⟩ : ∃ z, z = posI q := ⟨_, rfl⟩
      rw [← hz7]
      replace hz7 := Aside0.mk hz7
      go_wp2_with fail
      refine start_ (n := 24) (S := fun w' => w'.cell? (ad.add (i * 4)) = some (.slice A0 x.f0.length c0) ∧ w'.cell? ⟨(ad.add (i * 4)).block, (ad.add (i * 4)).off + 1, none⟩ = some (.int .i64 x.f1.f0) ∧ w'.cell? ⟨(ad.add (i * 4)).block, (ad.add (i * 4)).off + 2, none⟩ = some (.int .i64 x.f1.f1) ∧ w'.cell? ⟨(ad.add (i * 4)).block, (ad.add (i * 4)).off + 3, none⟩ = some (.int .i64 x.f2)) (ds := []) #[false, false, false, false, false, false, false, false, false, false, false, false, false, false, false, false, false, false, false, false, false, false, false, false] (by kernel_rfl) rfl rfl ⟨y0, y1, y2, y3⟩ (fun hHeld => ?_)
      refine pure_ (i := 0) (N := some 15) (v := ?_) (a' := ?_) #[true, false, false, false, false, false, false, false, false, false, false, false, false, false, false, false, false, false, false, false, false, false, false, false] rfl rfl (by kernel_rfl) (fun _ _ _ h => h) (Or.inl ⟨by rfl, ?_⟩) ?_ ?_
      rotate_left
      ·
       intro w'
       go_simp
       with_reducible rfl
      rotate_left
      ·
       simp only [Act.put, List.setIfInBounds_toArray, List.set_cons_zero, List.set_cons_succ, i64_w, i32_w]
       rfl
      refine pure_ (i := 1) (N := some 16) (v := ?_) (a' := ?_) #[true, true, false, false, false, false, false, false, false, false, false, false, false, false, false, false, false, false, false, false, false, false, false, false] rfl rfl (by kernel_rfl) (fun _ _ _ h => h) (Or.inl ⟨by rfl, ?_⟩) ?_ ?_
      rotate_left
      ·
       intro w'
       go_simp
       with_reducible rfl
      rotate_left
      ·
       simp only [Act.put, List.setIfInBounds_toArray, List.set_cons_zero, List.set_cons_succ, i64_w, i32_w]
       rfl
      refine pure_ (i := 2) (N := some 17) (v := ?_) (a' := ?_) #[true, true, true, false, false, false, false, false, false, false, false, false, false, false, false, false, false, false, false, false, false, false, false, false] rfl rfl (by kernel_rfl) (fun _ _ _ h => h) (Or.inl ⟨by rfl, ?_⟩) ?_ ?_
      rotate_left
      ·
       intro w'
       go_simp
       with_reducible rfl
      rotate_left
      ·
       simp only [Act.put, List.setIfInBounds_toArray, List.set_cons_zero, List.set_cons_succ, i64_w, i32_w]
       rfl
      refine pure_ (i := 3) (N := some 18) (v := ?_) (a' := ?_) #[true, true, true, true, false, false, false, false, false, false, false, false, false, false, false, false, false, false, false, false, false, false, false, false] rfl rfl (by kernel_rfl) (fun _ _ _ h => h) (Or.inl ⟨by rfl, ?_⟩) ?_ ?_
      rotate_left
      ·
       intro w'
       go_simp
       with_reducible rfl
      rotate_left
      ·
       simp only [Act.put, List.setIfInBounds_toArray, List.set_cons_zero, List.set_cons_succ, i64_w, i32_w]
       rfl
      refine pure_ (i := 4) (N := some 19) (v := ?_) (a' := ?_) #[true, true, true, true, true, false, false, false, false, false, false, false, false, false, false, false, false, false, false, false, false, false, false, false] rfl rfl (by kernel_rfl) (fun _ _ _ h => h) (Or.inl ⟨by rfl, ?_⟩) ?_ ?_
      rotate_left
      ·
       intro w'
       go_simp
       with_reducible rfl
      rotate_left
      ·
       simp only [Act.put, List.setIfInBounds_toArray, List.set_cons_zero, List.set_cons_succ, i64_w, i32_w]
       rfl
      refine take_ (i := 5) (N := some 20) (v := ?_) (a' := ?_) #[true, true, true, true, true, true, false, false, false, false, false, false, false, false, false, false, false, false, false, false, false, false, false, false] rfl rfl (by kernel_rfl) (fun _ _ _ h => h) (Or.inl ⟨by rfl, ?_⟩) hHeld ?_ ?_
      rotate_left
      ·
       rintro w' ⟨s0, s1, s2, s3⟩
       go_simp
       with_reducible rfl
      rotate_left
      ·
       simp only [Act.put, List.setIfInBounds_toArray, List.set_cons_zero, List.set_cons_succ, i64_w, i32_w]
       rfl
      refine one_ (i := 6) (N := some 21) #[true, true, true, true, true, true, true, false, false, false, false, false, false, false, false, false, false, false, false, false, false, false, false, false] rfl rfl (by kernel_rfl) (by decide) (fun K hK => ?_)
      go_simp
      (go_at_call 12; (with_reducible refine (rahead_at _ B d fs x true ?h1 hd hA.out).mono ?_); (case h1 => exact Kd.C_below hCA.out (below_drew (Below.refl _ _))); rintro e w6 ⟨rfl, hb⟩; have HB6 : Aside0 (Below wr.heap.size wr w6) := Aside0.mk (below_then (below_drew (Below.refl _ _)) (Nat.le_refl _) hb); clear hb)
      refine hK.out _ _ ⟨pw_cell_below HB6.out y0, pw_cell_below HB6.out y1, pw_cell_below HB6.out y2, pw_cell_below HB6.out y3⟩ (fun hHeld => ?_)
      clear hK K
      refine pure_ (i := 7) (N := some 22) (v := ?_) (a' := ?_) #[true, true, true, true, true, true, true, true, false, false, false, false, false, false, false, false, false, false, false, false, false, false, false, false] rfl rfl (by kernel_rfl) (fun _ _ _ h => h) (Or.inl ⟨by rfl, ?_⟩) ?_ ?_
      rotate_left
      ·
       intro w'
       go_simp
       with_reducible rfl
      rotate_left
      ·
       simp only [Act.put, List.setIfInBounds_toArray, List.set_cons_zero, List.set_cons_succ, i64_w, i32_w]
       rfl
      refine pure_ (i := 8) (N := some 23) (v := ?_) (a' := ?_) #[true, true, true, true, true, true, true, true, true, false, false, false, false, false, false, false, false, false, false, false, false, false, false, false] rfl rfl (by kernel_rfl) (fun _ _ _ h => h) (Or.inl ⟨by rfl, ?_⟩) ?_ ?_
      rotate_left
      ·
       intro w'
       go_simp
       with_reducible rfl
      rotate_left
      ·
       simp only [Act.put, List.setIfInBounds_toArray, List.set_cons_zero, List.set_cons_succ, i64_w, i32_w]
       rfl
      refine pure_ (i := 9) (N := some 24) (v := undef) (a' := ?_) #[true, true, true, true, true, true, true, true, true, true, false, false, false, false, false, false, false, false, false, false, false, false, false, false] rfl rfl (by kernel_rfl) (fun _ _ _ h => h) (Or.inr ⟨by rfl, rfl⟩) ?_ ?_
      rotate_left
      ·
       simp only [Act.put, List.setIfInBounds_toArray, List.set_cons_zero, List.set_cons_succ, i64_w, i32_w]
       rfl
      refine pure_ (i := 10) (N := some 25) (v := undef) (a' := ?_) #[true, true, true, true, true, true, true, true, true, true, true, false, false, false, false, false, false, false, false, false, false, false, false, false] rfl rfl (by kernel_rfl) (fun _ _ _ h => h) (Or.inr ⟨by rfl, rfl⟩) ?_ ?_
      rotate_left
      ·
       simp only [Act.put, List.setIfInBounds_toArray, List.set_cons_zero, List.set_cons_succ, i64_w, i32_w]
       rfl
      refine pure_ (i := 11) (N := some 26) (v := undef) (a' := ?_) #[true, true, true, true, true, true, true, true, true, true, true, true, false, false, false, false, false, false, false, false, false, false, false, false] rfl rfl (by kernel_rfl) (fun _ _ _ h => h) (Or.inr ⟨by rfl, rfl⟩) ?_ ?_
      rotate_left
      ·
       simp only [Act.put, List.setIfInBounds_toArray, List.set_cons_zero, List.set_cons_succ, i64_w, i32_w]
       rfl
      refine pure_ (i := 12) (N := some 27) (v := undef) (a' := ?_) #[true, true, true, true, true, true, true, true, true, true, true, true, true, false, false, false, false, false, false, false, false, false, false, false] rfl rfl (by kernel_rfl) (fun _ _ _ h => h) (Or.inr ⟨by rfl, rfl⟩) ?_ ?_
      rotate_left
      ·
       simp only [Act.put, List.setIfInBounds_toArray, List.set_cons_zero, List.set_cons_succ, i64_w, i32_w]
       rfl
      refine pure_ (i := 13) (N := some 28) (v := undef) (a' := ?_) #[true, true, true, true, true, true, true, true, true, true, true, true, true, true, false, false, false, false, false, false, false, false, false, false] rfl rfl (by kernel_rfl) (fun _ _ _ h => h) (Or.inr ⟨by rfl, rfl⟩) ?_ ?_
      rotate_left
      ·
       simp only [Act.put, List.setIfInBounds_toArray, List.set_cons_zero, List.set_cons_succ, i64_w, i32_w]
       rfl
      refine pure_ (i := 14) (N := some 29) (v := undef) (a' := ?_) #[true, true, true, true, true, true, true, true, true, true, true, true, true, true, true, false, false, false, false, false, false, false, false, false] rfl rfl (by kernel_rfl) (fun _ _ _ h => h) (Or.inr ⟨by rfl, rfl⟩) ?_ ?_
      rotate_left
      ·
       simp only [Act.put, List.setIfInBounds_toArray, List.set_cons_zero, List.set_cons_succ, i64_w, i32_w]
       rfl
      refine pure_ (i := 15) (N := some 30) (v := undef) (a' := ?_) #[true, true, true, true, true, true, true, true, true, true, true, true, true, true, true, true, false, false, false, false, false, false, false, false] rfl rfl (by kernel_rfl) (fun _ _ _ h => h) (Or.inr ⟨by rfl, rfl⟩) ?_ ?_
      rotate_left
      ·
       simp only [Act.put, List.setIfInBounds_toArray, List.set_cons_zero, List.set_cons_succ, i64_w, i32_w]
       rfl
      refine pure_ (i := 16) (N := some 31) (v := undef) (a' := ?_) #[true, true, true, true, true, true, true, true, true, true, true, true, true, true, true, true, true, false, false, false, false, false, false, false] rfl rfl (by kernel_rfl) (fun _ _ _ h => h) (Or.inr ⟨by rfl, rfl⟩) ?_ ?_
      rotate_left
      ·
       simp only [Act.put, List.setIfInBounds_toArray, List.set_cons_zero, List.set_cons_succ, i64_w, i32_w]
       rfl
      refine pure_ (i := 17) (N := some 32) (v := undef) (a' := ?_) #[true, true, true, true, true, true, true, true, true, true, true, true, true, true, true, true, true, true, false, false, false, false, false, false] rfl rfl (by kernel_rfl) (fun _ _ _ h => h) (Or.inr ⟨by rfl, rfl⟩) ?_ ?_
      rotate_left
      ·
       simp only [Act.put, List.setIfInBounds_toArray, List.set_cons_zero, List.set_cons_succ, i64_w, i32_w]
       rfl
      refine pure_ (i := 18) (N := some 33) (v := undef) (a' := ?_) #[true, true, true, true, true, true, true, true, true, true, true, true, true, true, true, true, true, true, true, false, false, false, false, false] rfl rfl (by kernel_rfl) (fun _ _ _ h => h) (Or.inr ⟨by rfl, rfl⟩) ?_ ?_
      rotate_left
      ·
       simp only [Act.put, List.setIfInBounds_toArray, List.set_cons_zero, List.set_cons_succ, i64_w, i32_w]
       rfl
      refine pure_ (i := 19) (N := some 34) (v := undef) (a' := ?_) #[true, true, true, true, true, true, true, true, true, true, true, true, true, true, true, true, true, true, true, true, false, false, false, false] rfl rfl (by kernel_rfl) (fun _ _ _ h => h) (Or.inr ⟨by rfl, rfl⟩) ?_ ?_
      rotate_left
      ·
       simp only [Act.put, List.setIfInBounds_toArray, List.set_cons_zero, List.set_cons_succ, i64_w, i32_w]
       rfl
      refine pure_ (i := 20) (N := some 35) (v := undef) (a' := ?_) #[true, true, true, true, true, true, true, true, true, true, true, true, true, true, true, true, true, true, true, true, true, false, false, false] rfl rfl (by kernel_rfl) (fun _ _ _ h => h) (Or.inr ⟨by rfl, rfl⟩) ?_ ?_
      rotate_left
      ·
       simp only [Act.put, List.setIfInBounds_toArray, List.set_cons_zero, List.set_cons_succ, i64_w, i32_w]
       rfl
      refine pure_ (i := 21) (N := some 36) (v := undef) (a' := ?_) #[true, true, true, true, true, true, true, true, true, true, true, true, true, true, true, true, true, true, true, true, true, true, false, false] rfl rfl (by kernel_rfl) (fun _ _ _ h => h) (Or.inr ⟨by rfl, rfl⟩) ?_ ?_
      rotate_left
      ·
       simp only [Act.put, List.setIfInBounds_toArray, List.set_cons_zero, List.set_cons_succ, i64_w, i32_w]
       rfl
      refine pure_ (i := 22) (N := some 37) (v := undef) (a' := ?_) #[true, true, true, true, true, true, true, true, true, true, true, true, true, true, true, true, true, true, true, true, true, true, true, false] rfl rfl (by kernel_rfl) (fun _ _ _ h => h) (Or.inr ⟨by rfl, rfl⟩) ?_ ?_
      rotate_left
      ·
       simp only [Act.put, List.setIfInBounds_toArray, List.set_cons_zero, List.set_cons_succ, i64_w, i32_w]
       rfl
      refine pure_ (i := 23) (N := some 38) (v := ?_) (a' := ?_) #[true, true, true, true, true, true, true, true, true, true, true, true, true, true, true, true, true, true, true, true, true, true, true, true] rfl rfl (by kernel_rfl) (fun _ _ _ h => h) (Or.inl ⟨by rfl, ?_⟩) ?_ ?_
      rotate_left
      ·
       intro w'
       go_simp
       with_reducible rfl
      rotate_left
      ·
       simp only [Act.put, List.setIfInBounds_toArray, List.set_cons_zero, List.set_cons_succ, i64_w, i32_w]
       rfl
      refine done_ (by kernel_rfl) ?_
      have BK' := Aside0.mk (blk_below BK.out (HB6.out))
      have BB' := Aside0.mk (below_then BB.out BB.out.size (HB6.out))
      clear y0 y1 y2 y3 BK BB
      all_goals go_wp2
      all_goals go_roundg (n - (i + 1))
      case measure => omega
      case rel => exact ⟨i + 1, by rw [hb'.out, hz7.out], by go_num, by omega, Nat.le_refl _, BK', BB'⟩
    | false =>
      rw [hah] at hA
      cases hq : bst ah oo i with
      | none =>
        have hb' := Aside0.mk (show bst ah oo (i + 1) = some i by
          show (match bst ah oo i with | none => if ah i then none else some i | some b => if ah i then some b else if oo i b < 0 then some i else some b) = _
          rw [hah, hq]; rfl)
        clear hq hah
        have d1 : posI none = -1 := rfl
        rw [d1]
        go_wp2_with fail
        refine start_ (n := 24) (S := fun w' => w'.cell? (ad.add (i * 4)) = some (.slice A0 x.f0.length c0) ∧ w'.cell? ⟨(ad.add (i * 4)).block, (ad.add (i * 4)).off + 1, none⟩ = some (.int .i64 x.f1.f0) ∧ w'.cell? ⟨(ad.add (i * 4)).block, (ad.add (i * 4)).off + 2, none⟩ = some (.int .i64 x.f1.f1) ∧ w'.cell? ⟨(ad.add (i * 4)).block, (ad.add (i * 4)).off + 3, none⟩ = some (.int .i64 x.f2)) (ds := []) #[false, false, false, false, false, false, false, false, false, false, false, false, false, false, false, false, false, false, false, false, false, false, false, false] (by kernel_rfl) rfl rfl ⟨y0, y1, y2, y3⟩ (fun hHeld => ?_)
        refine pure_ (i := 0) (N := some 15) (v := ?_) (a' := ?_) #[true, false, false, false, false, false, false, false, false, false, false, false, false, false, false, false, false, false, false, false, false, false, false, false] rfl rfl (by kernel_rfl) (fun _ _ _ h => h) (Or.inl ⟨by rfl, ?_⟩) ?_ ?_
        rotate_left
        ·
         intro w'
         go_simp
         with_reducible rfl
        rotate_left
        ·
         simp only [Act.put, List.setIfInBounds_toArray, List.set_cons_zero, List.set_cons_succ, i64_w, i32_w]
         rfl
        refine pure_ (i := 1) (N := some 16) (v := ?_) (a' := ?_) #[true, true, false, false, false, false, false, false, false, false, false, false, false, false, false, false, false, false, false, false, false, false, false, false] rfl rfl (by kernel_rfl) (fun _ _ _ h => h) (Or.inl ⟨by rfl, ?_⟩) ?_ ?_
        rotate_left
        ·
         intro w'
         go_simp
         with_reducible rfl
        rotate_left
        ·
         simp only [Act.put, List.setIfInBounds_toArray, List.set_cons_zero, List.set_cons_succ, i64_w, i32_w]
         rfl
        refine pure_ (i := 2) (N := some 17) (v := ?_) (a' := ?_) #[true, true, true, false, false, false, false, false, false, false, false, false, false, false, false, false, false, false, false, false, false, false, false, false] rfl rfl (by kernel_rfl) (fun _ _ _ h => h) (Or.inl ⟨by rfl, ?_⟩) ?_ ?_
        rotate_left
        ·
         intro w'
         go_simp
         with_reducible rfl
        rotate_left
        ·
         simp only [Act.put, List.setIfInBounds_toArray, List.set_cons_zero, List.set_cons_succ, i64_w, i32_w]
         rfl
        refine pure_ (i := 3) (N := some 18) (v := ?_) (a' := ?_) #[true, true, true, true, false, false, false, false, false, false, false, false, false, false, false, false, false, false, false, false, false, false, false, false] rfl rfl (by kernel_rfl) (fun _ _ _ h => h) (Or.inl ⟨by rfl, ?_⟩) ?_ ?_
        rotate_left
        ·
         intro w'
         go_simp
         with_reducible rfl
        rotate_left
        ·
         simp only [Act.put, List.setIfInBounds_toArray, List.set_cons_zero, List.set_cons_succ, i64_w, i32_w]
         rfl
        refine pure_ (i := 4) (N := some 19) (v := ?_) (a' := ?_) #[true, true, true, true, true, false, false, false, false, false, false, false, false, false, false, false, false, false, false, false, false, false, false, false] rfl rfl (by kernel_rfl) (fun _ _ _ h => h) (Or.inl ⟨by rfl, ?_⟩) ?_ ?_
        rotate_left
        ·
         intro w'
         go_simp
         with_reducible rfl
        rotate_left
        ·
         simp only [Act.put, List.setIfInBounds_toArray, List.set_cons_zero, List.set_cons_succ, i64_w, i32_w]
         rfl
        refine take_ (i := 5) (N := some 20) (v := ?_) (a' := ?_) #[true, true, true, true, true, true, false, false, false, false, false, false, false, false, false, false, false, false, false, false, false, false, false, false] rfl rfl (by kernel_rfl) (fun _ _ _ h => h) (Or.inl ⟨by rfl, ?_⟩) hHeld ?_ ?_
        rotate_left
        ·
         rintro w' ⟨s0, s1, s2, s3⟩
         go_simp
         with_reducible rfl
        rotate_left
        ·
         simp only [Act.put, List.setIfInBounds_toArray, List.set_cons_zero, List.set_cons_succ, i64_w, i32_w]
         rfl
        refine one_ (i := 6) (N := some 21) #[true, true, true, true, true, true, true, false, false, false, false, false, false, false, false, false, false, false, false, false, false, false, false, false] rfl rfl (by kernel_rfl) (by decide) (fun K hK => ?_)
        go_simp
        (go_at_call 12; (with_reducible refine (rahead_at _ B d fs x false ?h1 hd hA.out).mono ?_); (case h1 => exact Kd.C_below hCA.out (below_drew (Below.refl _ _))); rintro e w6 ⟨rfl, hb⟩; have HB6 : Aside0 (Below wr.heap.size wr w6) := Aside0.mk (below_then (below_drew (Below.refl _ _)) (Nat.le_refl _) hb); clear hb)
        refine hK.out _ _ ⟨pw_cell_below HB6.out y0, pw_cell_below HB6.out y1, pw_cell_below HB6.out y2, pw_cell_below HB6.out y3⟩ (fun hHeld => ?_)
        clear hK K
        refine pure_ (i := 7) (N := some 22) (v := ?_) (a' := ?_) #[true, true, true, true, true, true, true, true, false, false, false, false, false, false, false, false, false, false, false, false, false, false, false, false] rfl rfl (by kernel_rfl) (fun _ _ _ h => h) (Or.inl ⟨by rfl, ?_⟩) ?_ ?_
        rotate_left
        ·
         intro w'
         go_simp
         with_reducible rfl
        rotate_left
        ·
         simp only [Act.put, List.setIfInBounds_toArray, List.set_cons_zero, List.set_cons_succ, i64_w, i32_w]
         rfl
        refine pure_ (i := 8) (N := some 23) (v := ?_) (a' := ?_) #[true, true, true, true, true, true, true, true, true, false, false, false, false, false, false, false, false, false, false, false, false, false, false, false] rfl rfl (by kernel_rfl) (fun _ _ _ h => h) (Or.inl ⟨by rfl, ?_⟩) ?_ ?_
        rotate_left
        ·
         intro w'
         go_simp
         with_reducible rfl
        rotate_left
        ·
         simp only [Act.put, List.setIfInBounds_toArray, List.set_cons_zero, List.set_cons_succ, i64_w, i32_w]
         rfl
        refine pure_ (i := 9) (N := some 24) (v := ?_) (a' := ?_) #[true, true, true, true, true, true, true, true, true, true, false, false, false, false, false, false, false, false, false, false, false, false, false, false] rfl rfl (by kernel_rfl) (fun _ _ _ h => h) (Or.inl ⟨by rfl, ?_⟩) ?_ ?_
        rotate_left
        ·
         intro w'
         go_simp
         with_reducible rfl
        rotate_left
        ·
         simp only [Act.put, List.setIfInBounds_toArray, List.set_cons_zero, List.set_cons_succ, i64_w, i32_w]
         rfl
        refine pure_ (i := 10) (N := some 25) (v := ?_) (a' := ?_) #[true, true, true, true, true, true, true, true, true, true, true, false, false, false, false, false, false, false, false, false, false, false, false, false] rfl rfl (by kernel_rfl) (fun _ _ _ h => h) (Or.inl ⟨by rfl, ?_⟩) ?_ ?_
        rotate_left
        ·
         intro w'
         go_simp
         with_reducible rfl
        rotate_left
        ·
         simp only [Act.put, List.setIfInBounds_toArray, List.set_cons_zero, List.set_cons_succ, i64_w, i32_w]
         rfl
        refine pure_ (i := 11) (N := some 26) (v := ?_) (a' := ?_) #[true, true, true, true, true, true, true, true, true, true, true, true, false, false, false, false, false, false, false, false, false, false, false, false] rfl rfl (by kernel_rfl) (fun _ _ _ h => h) (Or.inl ⟨by rfl, ?_⟩) ?_ ?_
        rotate_left
        ·
         intro w'
         go_simp
         with_reducible rfl
        rotate_left
        ·
         simp only [Act.put, List.setIfInBounds_toArray, List.set_cons_zero, List.set_cons_succ, i64_w, i32_w]
         rfl
        refine pure_ (i := 12) (N := some 27) (v := undef) (a' := ?_) #[true, true, true, true, true, true, true, true, true, true, true, true, true, false, false, false, false, false, false, false, false, false, false, false] rfl rfl (by kernel_rfl) (fun _ _ _ h => h) (Or.inr ⟨by rfl, rfl⟩) ?_ ?_
        rotate_left
        ·
         simp only [Act.put, List.setIfInBounds_toArray, List.set_cons_zero, List.set_cons_succ, i64_w, i32_w]
         rfl
        refine pure_ (i := 13) (N := some 28) (v := undef) (a' := ?_) #[true, true, true, true, true, true, true, true, true, true, true, true, true, true, false, false, false, false, false, false, false, false, false, false] rfl rfl (by kernel_rfl) (fun _ _ _ h => h) (Or.inr ⟨by rfl, rfl⟩) ?_ ?_
        rotate_left
        ·
         simp only [Act.put, List.setIfInBounds_toArray, List.set_cons_zero, List.set_cons_succ, i64_w, i32_w]
         rfl
        refine pure_ (i := 14) (N := some 29) (v := undef) (a' := ?_) #[true, true, true, true, true, true, true, true, true, true, true, true, true, true, true, false, false, false, false, false, false, false, false, false] rfl rfl (by kernel_rfl) (fun _ _ _ h => h) (Or.inr ⟨by rfl, rfl⟩) ?_ ?_
        rotate_left
        ·
         simp only [Act.put, List.setIfInBounds_toArray, List.set_cons_zero, List.set_cons_succ, i64_w, i32_w]
         rfl
        refine pure_ (i := 15) (N := some 30) (v := undef) (a' := ?_) #[true, true, true, true, true, true, true, true, true, true, true, true, true, true, true, true, false, false, false, false, false, false, false, false] rfl rfl (by kernel_rfl) (fun _ _ _ h => h) (Or.inr ⟨by rfl, rfl⟩) ?_ ?_
        rotate_left
        ·
         simp only [Act.put, List.setIfInBounds_toArray, List.set_cons_zero, List.set_cons_succ, i64_w, i32_w]
         rfl
        refine pure_ (i := 16) (N := some 31) (v := undef) (a' := ?_) #[true, true, true, true, true, true, true, true, true, true, true, true, true, true, true, true, true, false, false, false, false, false, false, false] rfl rfl (by kernel_rfl) (fun _ _ _ h => h) (Or.inr ⟨by rfl, rfl⟩) ?_ ?_
        rotate_left
        ·
         simp only [Act.put, List.setIfInBounds_toArray, List.set_cons_zero, List.set_cons_succ, i64_w, i32_w]
         rfl
        refine pure_ (i := 17) (N := some 32) (v := undef) (a' := ?_) #[true, true, true, true, true, true, true, true, true, true, true, true, true, true, true, true, true, true, false, false, false, false, false, false] rfl rfl (by kernel_rfl) (fun _ _ _ h => h) (Or.inr ⟨by rfl, rfl⟩) ?_ ?_
        rotate_left
        ·
         simp only [Act.put, List.setIfInBounds_toArray, List.set_cons_zero, List.set_cons_succ, i64_w, i32_w]
         rfl
        refine pure_ (i := 18) (N := some 33) (v := undef) (a' := ?_) #[true, true, true, true, true, true, true, true, true, true, true, true, true, true, true, true, true, true, true, false, false, false, false, false] rfl rfl (by kernel_rfl) (fun _ _ _ h => h) (Or.inr ⟨by rfl, rfl⟩) ?_ ?_
        rotate_left
        ·
         simp only [Act.put, List.setIfInBounds_toArray, List.set_cons_zero, List.set_cons_succ, i64_w, i32_w]
         rfl
        refine pure_ (i := 19) (N := some 34) (v := undef) (a' := ?_) #[true, true, true, true, true, true, true, true, true, true, true, true, true, true, true, true, true, true, true, true, false, false, false, false] rfl rfl (by kernel_rfl) (fun _ _ _ h => h) (Or.inr ⟨by rfl, rfl⟩) ?_ ?_
        rotate_left
        ·
         simp only [Act.put, List.setIfInBounds_toArray, List.set_cons_zero, List.set_cons_succ, i64_w, i32_w]
         rfl
        refine pure_ (i := 20) (N := some 35) (v := undef) (a' := ?_) #[true, true, true, true, true, true, true, true, true, true, true, true, true, true, true, true, true, true, true, true, true, false, false, false] rfl rfl (by kernel_rfl) (fun _ _ _ h => h) (Or.inr ⟨by rfl, rfl⟩) ?_ ?_
        rotate_left
        ·
         simp only [Act.put, List.setIfInBounds_toArray, List.set_cons_zero, List.set_cons_succ, i64_w, i32_w]
         rfl
        refine pure_ (i := 21) (N := some 36) (v := undef) (a' := ?_) #[true, true, true, true, true, true, true, true, true, true, true, true, true, true, true, true, true, true, true, true, true, true, false, false] rfl rfl (by kernel_rfl) (fun _ _ _ h => h) (Or.inr ⟨by rfl, rfl⟩) ?_ ?_
        rotate_left
        ·
         simp only [Act.put, List.setIfInBounds_toArray, List.set_cons_zero, List.set_cons_succ, i64_w, i32_w]
         rfl
        refine pure_ (i := 22) (N := some 37) (v := ?_) (a' := ?_) #[true, true, true, true, true, true, true, true, true, true, true, true, true, true, true, true, true, true, true, true, true, true, true, false] rfl rfl (by kernel_rfl) (fun _ _ _ h => h) (Or.inl ⟨by rfl, ?_⟩) ?_ ?_
        rotate_left
        ·
         intro w'
         go_simp
         with_reducible rfl
        rotate_left
        ·
         simp only [Act.put, List.setIfInBounds_toArray, List.set_cons_zero, List.set_cons_succ, i64_w, i32_w]
         rfl
        refine pure_ (i := 23) (N := some 38) (v := ?_) (a' := ?_) #[true, true, true, true, true, true, true, true, true, true, true, true, true, true, true, true, true, true, true, true, true, true, true, true] rfl rfl (by kernel_rfl) (fun _ _ _ h => h) (Or.inl ⟨by rfl, ?_⟩) ?_ ?_
        rotate_left
        ·
         intro w'
         go_simp
         with_reducible rfl
        rotate_left
        ·
         simp only [Act.put, List.setIfInBounds_toArray, List.set_cons_zero, List.set_cons_succ, i64_w, i32_w]
         rfl
        refine done_ (by kernel_rfl) ?_
        have BK' := Aside0.mk (blk_below BK.out (HB6.out))
        have BB' := Aside0.mk (below_then BB.out BB.out.size (HB6.out))
        clear y0 y1 y2 y3 BK BB
        all_goals go_wp2
        all_goals go_roundg (n - (i + 1))
        case measure => omega
        case rel => exact ⟨i + 1, by rw [hb'.out]; rfl, by go_num, by omega, Nat.le_refl _, BK', BB'⟩
      | some b =>
        have hbl := bst_lt ah oo i b hq
        obtain ⟨y, hy⟩ : ∃ y, l[b]? = some y := ⟨_, List.getElem?_eq_getElem (by have := hnn.out; omega)⟩
        obtain ⟨ad1, A1, c1, e1, v0, v1, v2, v3, hl1, hC1⟩ := at_T33 (Kd.F_now hV.out) (b : Int) (by omega) (by omega)
        rw [rd_33 hy] at v0 v1 v2 v3 hl1 hC1
        simp only [Int.toNat_natCast] at v0 v1 v2 v3
        obtain rfl : ad = ad1 := by injection e1
        replace v0 := BB.out.cell (World.block_lt_of_cell? w _ v0) |>.trans v0
        replace v1 := BB.out.cell (World.block_lt_of_cell? w _ v1) |>.trans v1
        replace v2 := BB.out.cell (World.block_lt_of_cell? w _ v2) |>.trans v2
        replace v3 := BB.out.cell (World.block_lt_of_cell? w _ v3) |>.trans v3
        replace hl1 := Aside0.mk hl1
        replace hC1 := Aside0.mk hC1
        have hO := Aside0.mk (ho.out i b x y hxe.out hy)
        have hb' := Aside0.mk (show bst ah oo (i + 1) = if oo i b < 0 then some i else some b by
          show (match bst ah oo i with | none => if ah i then none else some i | some b => if ah i then some b else if oo i b < 0 then some i else some b) = _
          rw [hah, hq]; rfl)
        have d1 : posI (some b) = (b : Int) := rfl
        rw [d1]
        have hneg : decide ((b : Int) < 0) = false := decide_eq_false (by omega)
        have hbn : (b : Int) < (n : Int) := by omega
        clear hq hah hy e1 d1
        go_wp2_with fail
        go_region_held3 (fun w' => w'.cell? (ad.add (i * 4)) = some (.slice A0 x.f0.length c0) ∧ w'.cell? ⟨(ad.add (i * 4)).block, (ad.add (i * 4)).off + 1, none⟩ = some (.int .i64 x.f1.f0) ∧ w'.cell? ⟨(ad.add (i * 4)).block, (ad.add (i * 4)).off + 2, none⟩ = some (.int .i64 x.f1.f1) ∧ w'.cell? ⟨(ad.add (i * 4)).block, (ad.add (i * 4)).off + 3, none⟩ = some (.int .i64 x.f2) ∧ w'.cell? (ad.add (b * 4)) = some (.slice A1 y.f0.length c1) ∧ w'.cell? ⟨(ad.add (b * 4)).block, (ad.add (b * 4)).off + 1, none⟩ = some (.int .i64 y.f1.f0) ∧ w'.cell? ⟨(ad.add (b * 4)).block, (ad.add (b * 4)).off + 2, none⟩ = some (.int .i64 y.f1.f1) ∧ w'.cell? ⟨(ad.add (b * 4)).block, (ad.add (b * 4)).off + 3, none⟩ = some (.int .i64 y.f2)) (first | exact ⟨y0, y1, y2, y3, v0, v1, v2, v3⟩ | exact ⟨pw_cell_below HB6.out y0, pw_cell_below HB6.out y1, pw_cell_below HB6.out y2, pw_cell_below HB6.out y3, pw_cell_below HB6.out v0, pw_cell_below HB6.out v1, pw_cell_below HB6.out v2, pw_cell_below HB6.out v3⟩ | exact ⟨pw_cell_below HB7.out (pw_cell_below HB6.out y0), pw_cell_below HB7.out (pw_cell_below HB6.out y1), pw_cell_below HB7.out (pw_cell_below HB6.out y2), pw_cell_below HB7.out (pw_cell_below HB6.out y3), pw_cell_below HB7.out (pw_cell_below HB6.out v0), pw_cell_below HB7.out (pw_cell_below HB6.out v1), pw_cell_below HB7.out (pw_cell_below HB6.out v2), pw_cell_below HB7.out (pw_cell_below HB6.out v3)⟩) (first | (go_at_call 12; (with_reducible refine (rahead_at _ B d fs x false ?h1 hd hA.out).mono ?_); (case h1 => exact Kd.C_below hCA.out (below_drew (Below.refl _ _))); rintro e w6 ⟨rfl, hb⟩; have HB6 : Aside0 (Below wr.heap.size wr w6) := Aside0.mk (below_then (below_drew (Below.refl _ _)) (Nat.le_refl _) hb); clear hb) | (go_at_call 37; (with_reducible refine (rorder_at _ A0 c0 x A1 c1 y (oo i b) ?h1 hl0.out ?h3 hl1.out hO.out).mono ?_); (case h1 => exact Kd.C_below (Kd.C_below hC0.out BB.out) HB6.out); (case h3 => exact Kd.C_below (Kd.C_below hC1.out BB.out) HB6.out); rintro e w7 ⟨rfl, hb⟩; have HB7 : Aside0 (Below w6.heap.size w6 w7) := Aside0.mk hb; clear hb))
        have tB := Aside0.mk (below_then HB6.out HB6.out.size HB7.out)
        have BK' := Aside0.mk (blk_below BK.out tB.out)
        have BB' := Aside0.mk (below_then BB.out BB.out.size tB.out)
        clear y0 y1 y2 y3 v0 v1 v2 v3 BK BB
        by_cases hoo : oo i b < 0
        · have hz2 : decide (oo i b < 0) = true := decide_eq_true hoo
          have hb2 := Aside0.mk (hb'.out.trans (if_pos hoo))
          go_wp2
          go_roundg (n - (i + 1))
          case measure => omega
          case rel => exact ⟨i + 1, by rw [hb2.out]; rfl, by go_num, by omega, Nat.le_refl _, BK', BB'⟩
        · have hz2 : decide (oo i b < 0) = false := decide_eq_false hoo
          have hb2 := Aside0.mk (hb'.out.trans (if_neg hoo))
          go_wp2
          go_roundg (n - (i + 1))
          case measure => omega
          case rel => exact ⟨i + 1, by rw [hb2.out]; rfl, by go_num, by omega, Nat.le_refl _, BK', BB'⟩
  · have hz : decide ((i : Int) < (n : Int)) = false := decide_eq_false (by omega)
    obtain rfl : i = n := by omega
    rcases hPo.out with ⟨hq, hPe⟩ | ⟨p, x, hq, hx, hPe⟩
    · rw [hq]
      have d1 : posI none = -1 := rfl
      rw [d1]
      have ac0 : wr.cell? ⟨g0, 0, none⟩ = some (.slice none 0 0) := (blk_cell BK.out 0).trans rfl
      have af0 := blk_frozen BK.out 0
      have ac1 : wr.cell? ⟨g0, 1, none⟩ = some (.int .i64 0) := (blk_cell BK.out 1).trans rfl
      have af1 := blk_frozen BK.out 1
      have ac2 : wr.cell? ⟨g0, 2, none⟩ = some (.int .i64 0) := (blk_cell BK.out 2).trans rfl
      have af2 := blk_frozen BK.out 2
      have ac3 : wr.cell? ⟨g0, 3, none⟩ = some (.int .i64 0) := (blk_cell BK.out 3).trans rfl
      have af3 := blk_frozen BK.out 3
      replace hPe := Aside0.mk hPe
      clear hq
      go_wp2
      (try simp only [Exit.inBlock, Exit.then])
      refine bodyPost_ret (v := .tuple #[.slice A i c, .agg #[.slice none 0 0, .int .i64 0, .int .i64 0, .int .i64 0], .bool false]) ?_ rfl ?_
      · rw [results_tct rfl]
        go_simp
      · rw [hPe.out]
        refine ⟨rfl, ?_⟩
        iterate 4 refine below_set ?_ GE.out
        exact BB.out
    · rw [hq]
      have d1 : posI (some p) = (p : Int) := rfl
      rw [d1]
      have hpl := bst_lt ah oo i p hq
      obtain ⟨ad, A0, c0, e0, y0, y1, y2, y3, hl0, hC0⟩ := at_T33 (Kd.F_now hV.out) (p : Int) (by omega) (by omega)
      rw [rd_33 hx] at y0 y1 y2 y3 hl0 hC0
      simp only [Int.toNat_natCast] at y0 y1 y2 y3
      cases e0
      have adl : Aside0 ((ad.add (p * 4)).block < w.heap.size) := ⟨World.block_lt_of_cell? w _ y0⟩
      replace y0 := BB.out.cell (World.block_lt_of_cell? w _ y0) |>.trans y0
      replace y1 := BB.out.cell (World.block_lt_of_cell? w _ y1) |>.trans y1
      replace y2 := BB.out.cell (World.block_lt_of_cell? w _ y2) |>.trans y2
      replace y3 := BB.out.cell (World.block_lt_of_cell? w _ y3) |>.trans y3
      obtain ⟨i0, hi0, hz0, hs0, hb0⟩ := info_parts info33
      have hcut1 : ∀ X, (Instr.slice 29 (.slice (some ad) i c) none (some (.int .i64 (p : Int))) none).run Try.prog X = .ok (.slice (some ad) p c) X := by
        intro X
        rw [cut_to (P := Try.prog) 29 33 .i64 Try.underlying29 hi0 (some ad) i c (p : Int) (by omega) (by omega) hc X]
        simp
      obtain ⟨A5, hA5⟩ : ∃ A, A = if c = p + 1 then some ad else (some ad).map (·.add ((p + 1) * 4)) := ⟨_, rfl⟩
      have hcut2 : ∀ X, (Instr.slice 29 (.slice (some ad) i c) (some (.int .i64 ((p : Int) + 1))) none none).run Try.prog X = .ok (.slice A5 (i - (p + 1)) (c - (p + 1))) X := by
        intro X
        rw [cut_from (P := Try.prog) 29 33 .i64 Try.underlying29 hi0 4 hs0 (some ad) i c ((p : Int) + 1) (by omega) (by omega) X]
        have e : ((p : Int) + 1).toNat = p + 1 := by omega
        rw [e, hA5]
      have hF' : Kd.F k33 w ok (some ad) l.length l := by rw [← hnn.out]; exact hV.out
      have FB := Kd.F_below (Kd.F_bound hF') BB.out
      have F1 := Aside0.mk (show Kd.F k33 wr (fun k => ok k ∧ k < w.heap.size) (some ad) p (l.take p) from by
        have := Kd.F_take (m := p) FB (by rw [← hnn.out]; omega)
        rwa [List.length_take, Nat.min_eq_left (by rw [← hnn.out]; omega)] at this)
      have F2 := Aside0.mk (show Kd.F k33 wr (fun k => ok k ∧ k < w.heap.size) A5 (i - (p + 1)) (l.drop (p + 1)) from by
        have := Kd.F_cut (m := p + 1) (c := c) FB (by rw [← hnn.out]; omega) (by rw [← hnn.out]; exact hc)
        rw [List.length_drop, ← hnn.out] at this
        rw [hA5]
        exact this)
      have hsum : IntKind.i64.wrap ((p : Int) + 1) = (p : Int) + 1 := IntWalk.i64_in _ (by omega)
      have hneg : decide ((p : Int) < 0) = false := decide_eq_false (by omega)
      have hpz : (p : Int) < (i : Int) := by omega
      have ac0 : wr.cell? ⟨g0, 0, none⟩ = some (.slice none 0 0) := (blk_cell BK.out 0).trans rfl
      have LT := Aside0.mk (show (l.take p).length = p ∧ w.heap.size ≤ wr.heap.size ∧ g0 < wr.heap.size from ⟨by rw [List.length_take, Nat.min_eq_left (by rw [← hnn.out]; omega)], BB.out.size, blk_lt BK.out⟩)
      have hne0 : (ad.add (p * 4)).block ≠ g0 := by have := adl.out; have := GE.out; omega
      replace hPe := Aside0.mk hPe
      replace hl0 := Aside0.mk hl0
      replace hC0 := Aside0.mk hC0
      have hxe := Aside0.mk hx
      clear hq hA5 hF' FB hx
      go_wp2_with fail
      refine start_ (n := 17) (S := fun w' => w'.cell? (ad.add (p * 4)) = some (.slice A0 x.f0.length c0) ∧ w'.cell? ⟨(ad.add (p * 4)).block, (ad.add (p * 4)).off + 1, none⟩ = some (.int .i64 x.f1.f0) ∧ w'.cell? ⟨(ad.add (p * 4)).block, (ad.add (p * 4)).off + 2, none⟩ = some (.int .i64 x.f1.f1) ∧ w'.cell? ⟨(ad.add (p * 4)).block, (ad.add (p * 4)).off + 3, none⟩ = some (.int .i64 x.f2)) (ds := [15]) #[false, false, false, false, false, false, false, false, false, false, false, false, false, false, false, false, false] (by kernel_rfl) rfl rfl ⟨y0, y1, y2, y3⟩ (fun hHeld => ?_)
      refine pure_ (i := 1) (N := some 45) (v := ?_) (a' := ?_) #[false, true, false, false, false, false, false, false, false, false, false, false, false, false, false, false, false] rfl rfl (by kernel_rfl) (fun _ _ _ h => h) (Or.inl ⟨by rfl, ?_⟩) ?_ ?_
      rotate_left
      ·
       intro w'
       go_simp
       with_reducible rfl
      rotate_left
      ·
       simp only [Act.put, List.setIfInBounds_toArray, List.set_cons_zero, List.set_cons_succ, i64_w, i32_w]
       rfl
      refine pure_ (i := 2) (N := some 46) (v := ?_) (a' := ?_) #[false, true, true, false, false, false, false, false, false, false, false, false, false, false, false, false, false] rfl rfl (by kernel_rfl) (fun _ _ _ h => h) (Or.inl ⟨by rfl, ?_⟩) ?_ ?_
      rotate_left
      ·
       intro w'
       go_simp
       with_reducible rfl
      rotate_left
      ·
       simp only [Act.put, List.setIfInBounds_toArray, List.set_cons_zero, List.set_cons_succ, i64_w, i32_w]
       rfl
      refine pure_ (i := 3) (N := some 47) (v := ?_) (a' := ?_) #[false, true, true, true, false, false, false, false, false, false, false, false, false, false, false, false, false] rfl rfl (by kernel_rfl) (fun _ _ _ h => h) (Or.inl ⟨by rfl, ?_⟩) ?_ ?_
      rotate_left
      ·
       intro w'
       go_simp
       with_reducible rfl
      rotate_left
      ·
       simp only [Act.put, List.setIfInBounds_toArray, List.set_cons_zero, List.set_cons_succ, i64_w, i32_w]
       rfl
      refine pure_ (i := 5) (N := some 49) (v := ?_) (a' := ?_) #[false, true, true, true, false, true, false, false, false, false, false, false, false, false, false, false, false] rfl rfl (by kernel_rfl) (fun _ _ _ h => h) (Or.inl ⟨by rfl, ?_⟩) ?_ ?_
      rotate_left
      ·
       intro w'
       go_simp
       with_reducible rfl
      rotate_left
      ·
       simp only [Act.put, List.setIfInBounds_toArray, List.set_cons_zero, List.set_cons_succ, i64_w, i32_w]
       rfl
      refine pure_ (i := 6) (N := some 50) (v := ?_) (a' := ?_) #[false, true, true, true, false, true, true, false, false, false, false, false, false, false, false, false, false] rfl rfl (by kernel_rfl) (fun _ _ _ h => h) (Or.inl ⟨by rfl, ?_⟩) ?_ ?_
      rotate_left
      ·
       intro w'
       go_simp
       with_reducible rfl
      rotate_left
      ·
       simp only [Act.put, List.setIfInBounds_toArray, List.set_cons_zero, List.set_cons_succ, i64_w, i32_w]
       rfl
      refine pure_ (i := 7) (N := some 51) (v := ?_) (a' := ?_) #[false, true, true, true, false, true, true, true, false, false, false, false, false, false, false, false, false] rfl rfl (by kernel_rfl) (fun _ _ _ h => h) (Or.inl ⟨by rfl, ?_⟩) ?_ ?_
      rotate_left
      ·
       intro w'
       go_simp
       with_reducible rfl
      rotate_left
      ·
       simp only [Act.put, List.setIfInBounds_toArray, List.set_cons_zero, List.set_cons_succ, i64_w, i32_w]
       rfl
      refine pure_ (i := 8) (N := some 52) (v := ?_) (a' := ?_) #[false, true, true, true, false, true, true, true, true, false, false, false, false, false, false, false, false] rfl rfl (by kernel_rfl) (fun _ _ _ h => h) (Or.inl ⟨by rfl, ?_⟩) ?_ ?_
      rotate_left
      ·
       intro w'
       go_simp
       with_reducible rfl
      rotate_left
      ·
       simp only [Act.put, List.setIfInBounds_toArray, List.set_cons_zero, List.set_cons_succ, i64_w, i32_w]
       rfl
      refine pure_ (i := 10) (N := some 54) (v := ?_) (a' := ?_) #[false, true, true, true, false, true, true, true, true, false, true, false, false, false, false, false, false] rfl rfl (by kernel_rfl) (fun _ _ _ h => h) (Or.inl ⟨by rfl, ?_⟩) ?_ ?_
      rotate_left
      ·
       intro w'
       go_simp
       with_reducible rfl
      rotate_left
      ·
       simp only [Act.put, List.setIfInBounds_toArray, List.set_cons_zero, List.set_cons_succ, i64_w, i32_w]
       rfl
      refine pure_ (i := 11) (N := some 55) (v := ?_) (a' := ?_) #[false, true, true, true, false, true, true, true, true, false, true, true, false, false, false, false, false] rfl rfl (by kernel_rfl) (fun _ _ _ h => h) (Or.inl ⟨by rfl, ?_⟩) ?_ ?_
      rotate_left
      ·
       intro w'
       go_simp
       with_reducible rfl
      rotate_left
      ·
       simp only [Act.put, List.setIfInBounds_toArray, List.set_cons_zero, List.set_cons_succ, i64_w, i32_w]
       rfl
      refine pure_ (i := 12) (N := some 56) (v := ?_) (a' := ?_) #[false, true, true, true, false, true, true, true, true, false, true, true, true, false, false, false, false] rfl rfl (by kernel_rfl) (fun _ _ _ h => h) (Or.inl ⟨by rfl, ?_⟩) ?_ ?_
      rotate_left
      ·
       intro w'
       go_simp
       with_reducible rfl
      rotate_left
      ·
       simp only [Act.put, List.setIfInBounds_toArray, List.set_cons_zero, List.set_cons_succ, i64_w, i32_w]
       rfl
      refine take_ (i := 13) (N := some 57) (v := ?_) (a' := ?_) #[false, true, true, true, false, true, true, true, true, false, true, true, true, true, false, false, false] rfl rfl (by kernel_rfl) (fun _ _ _ h => h) (Or.inl ⟨by rfl, ?_⟩) hHeld ?_ ?_
      rotate_left
      ·
       rintro w' ⟨s0, s1, s2, s3⟩
       go_simp
       with_reducible rfl
      rotate_left
      ·
       simp only [Act.put, List.setIfInBounds_toArray, List.set_cons_zero, List.set_cons_succ, i64_w, i32_w]
       rfl
      refine one_ (i := 0) (N := some 44) #[true, true, true, true, false, true, true, true, true, false, true, true, true, true, false, false, false] rfl rfl (by kernel_rfl) (by decide) (fun K hK => ?_)
      go_simp
      refine hK.out _ _ ⟨pw_cell_below (below_drew (below_alloc (w := wr) (Below.refl _ _) _)) y0, pw_cell_below (below_drew (below_alloc (w := wr) (Below.refl _ _) _)) y1, pw_cell_below (below_drew (below_alloc (w := wr) (Below.refl _ _) _)) y2, pw_cell_below (below_drew (below_alloc (w := wr) (Below.refl _ _) _)) y3⟩ (fun hHeld => ?_)
      clear hK K
      refine one_ (i := 4) (N := some 48) #[true, true, true, true, true, true, true, true, true, false, true, true, true, true, false, false, false] rfl rfl (by kernel_rfl) (by decide) (fun K hK => ?_)
      refine Kd.N_append_rows_step k33 (w0 := wr) wr.heap.size (by rfl) (.tmp 44) (.tmp 47) 29 33 (.agg #[.slice none 0 0, .int .i64 0, .int .i64 0, .int .i64 0]) 48 rfl Try.underlying29 info33 rfl (show 0 < 4 by decide) (by decide) (.slice (some ⟨wr.heap.size, 0, none⟩) 0 0) [] (l.take p) (some ad) p c (fun k => (ok k ∧ k < w.heap.size) ∨ wr.heap.size ≤ k) (fun k => ok k ∧ k < w.heap.size) rfl rfl ?aO ?aR ?aK ?aF ?aB ?aS ?aL ?_
      (case aO => exact N_empty_new (.inr (Nat.le_refl _)))
      (case aR => exact Kd.F_below F1.out (below_drew (below_alloc (w := wr) (Below.refl _ _) _)))
      (case aK => exact fun k hk => ⟨.inl hk, fun e => by have e : k = wr.heap.size := (Option.some.inj e); have := hk.2; have := LT.out.2.1; omega⟩)
      (case aF => exact fun k hk => .inr (Nat.le_trans (below_drew (below_alloc (w := wr) (Below.refl _ _) _)).size hk))
      (case aB => exact (below_drew (below_alloc (w := wr) (Below.refl _ _) _)))
      (case aS => exact (below_drew (below_alloc (w := wr) (Below.refl _ _) _)).size)
      (case aL => simp; omega)
      intro v6 w6 hN6 hB6 hg6 hat6
      replace hN6 := Aside0.mk hN6
      replace hB6 := Aside0.mk hB6
      clear hg6
      replace hat6 := Aside0.mk hat6
      show K _ _
      refine hK.out _ _ ⟨pw_cell_below hB6.out y0, pw_cell_below hB6.out y1, pw_cell_below hB6.out y2, pw_cell_below hB6.out y3⟩ (fun hHeld => ?_)
      clear hK K
      refine one_ (i := 9) (N := some 53) #[true, true, true, true, true, true, true, true, true, true, true, true, true, true, false, false, false] rfl rfl (by kernel_rfl) (by decide) (fun K hK => ?_)
      refine Kd.N_append_rows_step k33 (w0 := wr) wr.heap.size (by rfl) (.tmp 48) (.tmp 52) 29 33 (.agg #[.slice none 0 0, .int .i64 0, .int .i64 0, .int .i64 0]) 48 rfl Try.underlying29 info33 rfl (show 0 < 4 by decide) (by decide) v6 ([] ++ l.take p) (l.drop (p + 1)) A5 (i - (p + 1)) (c - (p + 1)) (fun k => (ok k ∧ k < w.heap.size) ∨ wr.heap.size ≤ k) (fun k => ok k ∧ k < w.heap.size) rfl rfl ?aO ?aR ?aK ?aF ?aB ?aS ?aL ?_
      (case aO => exact hN6.out)
      (case aR => exact Kd.F_below F2.out hB6.out)
      (case aK => exact fun k hk => ⟨.inl hk, fun e => by have h1 := hk.2; have h2 := LT.out.2.1; have h4 := (below_drew (below_alloc (w := wr) (Below.refl _ _) (.cells #[] 33))).size; exact hat6.out.elim (fun h => by have e : k = wr.heap.size := Option.some.inj (e.trans h); omega) (fun ⟨b, h, hb⟩ => by have e : k = b := Option.some.inj (e.trans h); omega)⟩)
      (case aF => exact fun k hk => .inr (Nat.le_trans hB6.out.size hk))
      (case aB => exact hB6.out)
      (case aS => exact hB6.out.size)
      (case aL => have := LT.out.1; simp only [List.nil_append]; omega)
      intro v7 w7 hN7 hB7 hg7 hat7
      replace hN7 := Aside0.mk hN7
      replace hB7 := Aside0.mk hB7
      clear hg7 hat7
      show K _ _
      refine hK.out _ _ ⟨pw_cell_below hB7.out y0, pw_cell_below hB7.out y1, pw_cell_below hB7.out y2, pw_cell_below hB7.out y3⟩ (fun hHeld => ?_)
      clear hK K
      refine pure_ (i := 14) (N := some 4) (v := ?_) (a' := ?_) #[true, true, true, true, true, true, true, true, true, true, true, true, true, true, true, false, false] rfl rfl (by kernel_rfl) (fun _ _ _ h => h) (Or.inl ⟨by rfl, ?_⟩) ?_ ?_
      rotate_left
      ·
       intro w'
       go_simp
       with_reducible rfl
      rotate_left
      ·
       simp only [Act.put, List.setIfInBounds_toArray, List.set_cons_zero, List.set_cons_succ, i64_w, i32_w]
       rfl
      have g0c := Aside0.mk (blk_below BK.out hB7.out)
      have fz0 := blk_frozen g0c.out 0
      have fz1 := blk_frozen g0c.out 1
      have fz2 := blk_frozen g0c.out 2
      have fz3 := blk_frozen g0c.out 3
      have cz0 : w7.cell? ⟨g0, 0, none⟩ = some (.slice none 0 0) := (blk_cell g0c.out 0).trans rfl
      have cz1 : w7.cell? ⟨g0, 1, none⟩ = some (.int .i64 0) := (blk_cell g0c.out 1).trans rfl
      have cz2 : w7.cell? ⟨g0, 2, none⟩ = some (.int .i64 0) := (blk_cell g0c.out 2).trans rfl
      have cz3 : w7.cell? ⟨g0, 3, none⟩ = some (.int .i64 0) := (blk_cell g0c.out 3).trans rfl
      refine last_ (i := 15) (N := none) #[true, true, true, true, true, true, true, true, true, true, true, true, true, true, true, true, false] rfl rfl (by kernel_rfl) (by decide) (fun K hK => ?_)
      go_simp
      refine hK.out _ _ ?_
      clear hK K
      refine pure_ (i := 16) (N := some 6) (v := ?_) (a' := ?_) #[true, true, true, true, true, true, true, true, true, true, true, true, true, true, true, true, true] rfl rfl (by kernel_rfl) (fun _ _ _ h => h) (Or.inl ⟨by rfl, ?_⟩) ?_ ?_
      rotate_left
      ·
       intro w'
       go_simp
       with_reducible rfl
      rotate_left
      ·
       simp only [Act.put, List.setIfInBounds_toArray, List.set_cons_zero, List.set_cons_succ, i64_w, i32_w]
       rfl
      refine done_ (by kernel_rfl) ?_
      have LL := Aside0.mk (show wr.heap.size ≤ w7.heap.size from hB7.out.size)
      have V7 : Aside0 (Kd.V k33 33 ((((w7.setCell ⟨g0, 0, none⟩ (.slice A0 x.f0.length c0)).setCell ⟨g0, 1, none⟩ (.int .i64 x.f1.f0)).setCell ⟨g0, 2, none⟩ (.int .i64 x.f1.f1)).setCell ⟨g0, 3, none⟩ (.int .i64 x.f2)) 0 (fun k => ok k ∨ w.heap.size ≤ k) v7 (l.eraseIdx p)) := ⟨by
       rw [List.eraseIdx_eq_take_drop_succ]
       refine Kd.V_mono (Kd.N_V (Kd.N_step hN7.out (fun k hk _ => ?_))) (fun k hk => hk.elim (fun h => .inl h.1) (fun h => .inr (Nat.le_trans LT.out.2.1 h)))
       have hkg : k ≠ g0 := by have := LT.out.2; have := GE.out; omega
       rw [Below.heap_setCell _ _ _ _ hkg, Below.heap_setCell _ _ _ _ hkg, Below.heap_setCell _ _ _ _ hkg, Below.heap_setCell _ _ _ _ hkg]⟩
      have B7 : Aside0 (Below w.heap.size w ((((w7.setCell ⟨g0, 0, none⟩ (.slice A0 x.f0.length c0)).setCell ⟨g0, 1, none⟩ (.int .i64 x.f1.f0)).setCell ⟨g0, 2, none⟩ (.int .i64 x.f1.f1)).setCell ⟨g0, 3, none⟩ (.int .i64 x.f2))) := ⟨by
       iterate 4 refine below_set ?_ GE.out
       exact below_then BB.out BB.out.size hB7.out⟩
      clear hat6 hN6 hB6 hN7 hB7
      go_wp2
      (try simp only [Exit.inBlock, Exit.then])
      refine bodyPost_ret (v := .tuple #[v7, .agg #[.slice A0 x.f0.length c0, .int .i64 x.f1.f0, .int .i64 x.f1.f1, .int .i64 x.f2], .bool true]) ?_ rfl ?_
      · rw [results_tct rfl]
        go_simp
      · rw [hPe.out]
        exact ⟨v7, A0, c0, rfl, hl0.out, Kd.C_below hC0.out B7.out, V7.out, B7.out⟩
end Go.Proofs.Ytednmkmhileikaa.G
