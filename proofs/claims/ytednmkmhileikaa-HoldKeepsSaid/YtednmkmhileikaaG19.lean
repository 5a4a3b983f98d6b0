/- HoldKeeps: what the law's walk asks of the plain side. -/
import Derived.Test.YtednmkmhileikaaG17
import Derived.Test.YtednmkmhileikaaG15
namespace Go.Proofs.Ytednmkmhileikaa.G
open Go.RowKit Go.Proofs.YtednmkmhileikaaW.PrintWords Go.Proofs.YtednmkmhileikaaW.PrintLast Go.Proofs.YtednmkmhileikaaW.PrintMore Go.Proofs.Ytednmkmhileikaa.PHoldPlays
attribute [local go_sem] max2_int min2_int max_two min_two max_three min_three max_four min_four
set_option linter.unusedVariables false
set_option linter.unusedSimpArgs false
/-- The changes that are not behind t, as counts. -/
def cnt (t : S24) (l : List S33) : List S76 := (l.filter fun u => le u.f1 t).map fun u => ⟨u.f0, u.f2⟩
theorem cnt_snoc_yes {t : S24} {l : List S33} {i : Nat} {x : S33} (hx : l[i]? = some x) (h : le x.f1 t = true) : cnt t (l.take (i + 1)) = cnt t (l.take i) ++ [⟨x.f0, x.f2⟩] := by
 unfold cnt
 rw [← take_snoc hx, List.filter_append, List.map_append]
 simp [h]
theorem cnt_snoc_no {t : S24} {l : List S33} {i : Nat} {x : S33} (hx : l[i]? = some x) (h : le x.f1 t = false) : cnt t (l.take (i + 1)) = cnt t (l.take i) := by
 unfold cnt
 rw [← take_snoc hx, List.filter_append, List.map_append]
 simp [h]
theorem cnt_len (t : S24) (l : List S33) : (cnt t l).length ≤ l.length := by
 unfold cnt
 rw [List.length_map]
 exact List.length_filter_le _ _
theorem cell_g {b : Nat} {w w' : World} {a : Addr} (h : Below b w w') (ha : a.block < b) : w'.cell? a = w.cell? a := by simp only [World.cell?, h.block _ ha]
theorem lessEq_f (a b : S24) : runnelref04_LessEq.f a.f0 a.f1 b.f0 b.f1 = some (le a b) := by
 unfold runnelref04_LessEq.f le
 by_cases h : a.f0 ≤ b.f0
 · rw [if_pos h, decide_eq_true h, Bool.true_and]
 · rw [if_neg h, decide_eq_false h, Bool.false_and]
set_option maxHeartbeats 4000000 in
set_option maxRecDepth 100000 in
theorem at_calls {w : World} (A : Option Addr) (c : Nat) (l : List S33) (t : S24) (r : List S76) (hF : Kd.F k33 w (fun j => j < w.heap.size) A l.length l) (hc : l.length ≤ c) (hn : l.length ≤ 1000) (oo : Nat → Nat → Int) (ho : ∀ i j x y, (cnt t l)[i]? = some x → (cnt t l)[j]? = some y → ROrdL x.f0 y.f0 (oo i j)) (hs : ∀ b i x, (cnt t l)[i]? = some x → oo i b = 0 → runnelref06_Add.f (sumTo oo (cnt t l) b i) x.f1 = some (sumTo oo (cnt t l) b i + x.f1, 0)) (k : Nat) (hr : lessN oo (cnt t l) k (fun _ => false) [] = some r) (hk : k ≤ 2000) :
  Calls Try.prog 13 #[.slice A l.length c, .agg #[.int .i64 t.f0, .int .i64 t.f1]] w fun e w' => ∃ v, e = .returned (.tuple #[v, .int .i64 0]) ∧ Kd.V k76 76 w' 0 (fun _ => True) v r ∧ Below w.heap.size w w' := by
 obtain ⟨n, hnn⟩ : ∃ n, n = l.length := ⟨_, rfl⟩
 rw [← hnn] at hF hc hn ⊢
 replace hnn := Aside0.mk hnn
 replace hF := Aside0.mk hF
 replace ho := Aside0.mk ho
 replace hs := Aside0.mk hs
 replace hr := Aside0.mk hr
 go_enter Try.func13, Try.ntmps13
 obtain ⟨w1, hw1⟩ : ∃ w', w' = w.alloc (.cells #[.int .i64 t.f0, .int .i64 t.f1] 24) := ⟨_, rfl⟩
 obtain ⟨g, hg⟩ : ∃ g, g = w.heap.size := ⟨_, rfl⟩
 have B1 := Aside0.mk (show Below w.heap.size w w1 by rw [hw1]; exact below_alloc (Below.refl _ _) _)
 have X1 := Aside0.mk (show w1.heap[g]? = some (.cells #[.int .i64 t.f0, .int .i64 t.f1] 24 (0, 0)) by rw [hw1, hg]; exact blk_new w _)
 go_wp2_with fail
 rw [← hw1, ← hg]
 have gw := Aside0.mk (show w.heap.size ≤ g by rw [hg]; exact Nat.le_refl _)
 clear hw1 hg
 go_loopg [6, 7] n (fun gk v6 v7 wr => ∃ i : Nat, v7 = .int .i64 i ∧ i ≤ n ∧ n - i ≤ gk ∧ Aside0 (wr.heap[g]? = some (.cells #[.int .i64 t.f0, .int .i64 t.f1] 24 (0, 0))) ∧ Aside0 (Kd.N k76 76 wr (g + 1) (fun _ => True) v6 (cnt t (l.take i))) ∧ Aside0 (Below w.heap.size w wr))
 case atStart => exact ⟨0, rfl, Nat.zero_le _, by omega, X1, ⟨Kd.N_nil _ _ _ _ _⟩, B1⟩
 case round =>
  clear X1 B1
  obtain ⟨i, rfl, hi, hgi, XX, HO, BB⟩ := hrel
  obtain ⟨O6, o6, rfl⟩ := Kd.N_slice HO.out
  by_cases hlt : i < n
  · have hz : decide ((i : Int) < (n : Int)) = true := decide_eq_true (by omega)
    have hiz : (i : Int) < (n : Int) := by omega
    obtain ⟨x, hx⟩ : ∃ x, l[i]? = some x := ⟨_, List.getElem?_eq_getElem (by have := hnn.out; omega)⟩
    obtain ⟨ad, cs, e0, _, hFK, hcc, hob⟩ := Kd.F_get (Kd.F_below hF.out BB.out) z33 (i : Int) (by omega) (by omega)
    cases e0
    have hgx : l.getD ((i : Int)).toNat z33 = x := by rw [Int.toNat_natCast, List.getD_eq_getElem?_getD, hx]; rfl
    rw [hgx] at hFK
    rw [Int.toNat_natCast] at hcc
    obtain ⟨A0, c0, rfl, hl0, hF0⟩ := k33_openF hFK
    have y0 : wr.cell? (ad.add (i * 4)) = some (.slice A0 x.f0.length c0) := hcc 0 _ rfl
    have y1 : wr.cell? ⟨(ad.add (i * 4)).block, (ad.add (i * 4)).off + 1, none⟩ = some (.int .i64 x.f1.f0) := by have := hcc 1 _ rfl; rwa [add_field _ _ 1 (by omega)] at this
    have y2 : wr.cell? ⟨(ad.add (i * 4)).block, (ad.add (i * 4)).off + 2, none⟩ = some (.int .i64 x.f1.f1) := by have := hcc 2 _ rfl; rwa [add_field _ _ 2 (by omega)] at this
    have y3 : wr.cell? ⟨(ad.add (i * 4)).block, (ad.add (i * 4)).off + 3, none⟩ = some (.int .i64 x.f2) := by have := hcc 3 _ rfl; rwa [add_field _ _ 3 (by omega)] at this
    have q0 : wr.cell? ⟨g, 0, none⟩ = some (.int .i64 t.f0) := (blk_cell XX.out 0).trans rfl
    have q1 : wr.cell? ⟨g, 1, none⟩ = some (.int .i64 t.f1) := (blk_cell XX.out 1).trans rfl
    replace hF0 := Aside0.mk hF0
    replace hl0 := Aside0.mk hl0
    have ys := Aside0.mk (And.intro y0 y3)
    replace hob := Aside0.mk (show ad.block < w.heap.size from hob (show 0 < 4 by decide))
    have hxe := Aside0.mk hx
    clear hcc hFK hgx hx y0 y3
    go_wp2_with fail
    go_region_held3 (fun w' => w'.cell? ⟨(ad.add (i * 4)).block, (ad.add (i * 4)).off + 1, none⟩ = some (.int .i64 x.f1.f0) ∧ w'.cell? ⟨(ad.add (i * 4)).block, (ad.add (i * 4)).off + 2, none⟩ = some (.int .i64 x.f1.f1) ∧ w'.cell? ⟨g, 0, none⟩ = some (.int .i64 t.f0) ∧ w'.cell? ⟨g, 1, none⟩ = some (.int .i64 t.f1)) (first | exact ⟨y1, y2, q0, q1⟩ | exact ⟨pw_cell_below HB6.out y1, pw_cell_below HB6.out y2, pw_cell_below HB6.out q0, pw_cell_below HB6.out q1⟩) (first | (go_at_call 34; (with_reducible refine (runnelref04_LessEq.calls _ _ _ _ _ _ (lessEq_f x.f1 t)).mono ?_); rintro e w6 ⟨rfl, hb⟩; have HB6 : Aside0 (Below wr.heap.size wr w6) := Aside0.mk (below_then (below_drew (Below.refl _ _)) (Nat.le_refl _) hb); clear hb))
    have XX6 := Aside0.mk (blk_below XX.out HB6.out)
    have HO6 := Aside0.mk (Kd.N_below HO.out HB6.out)
    have BB6 := Aside0.mk (below_then BB.out BB.out.size HB6.out)
    have y0 := pw_cell_below HB6.out ys.out.1
    have y3 := pw_cell_below HB6.out ys.out.2
    have hF6 := Aside0.mk (Kd.F_below hF0.out HB6.out)
    clear y1 y2 q0 q1 XX HO BB HB6 ys hF0
    cases hle : le x.f1 t with
    | false =>
     have hcs := Aside0.mk (cnt_snoc_no hxe.out hle)
     clear hle
     go_wp2
     go_roundg (n - (i + 1))
     case measure => omega
     case rel => exact ⟨i + 1, by go_num, by omega, Nat.le_refl _, XX6, ⟨by rw [hcs.out]; exact HO6.out⟩, BB6⟩
    | true =>
     have hcs := Aside0.mk (cnt_snoc_yes hxe.out hle)
     have hcl := Aside0.mk (show (cnt t (l.take i)).length ≤ 1000 from by have h := cnt_len t (l.take i); rw [List.length_take] at h; omega)
     have hbg := Aside0.mk (show (ad.add (i * 4)).block < g + 1 from by have h1 := hob.out; have h2 := gw.out; have h3 : (ad.add (i * 4)).block = ad.block := (by unfold Addr.add; (repeat' split) <;> rfl); omega)
     clear hle
     go_wp2_with fail
     go_region_held3 (fun w' => w'.cell? (ad.add (i * 4)) = some (.slice A0 x.f0.length c0) ∧ w'.cell? ⟨(ad.add (i * 4)).block, (ad.add (i * 4)).off + 3, none⟩ = some (.int .i64 x.f2)) (first | exact ⟨y0, y3⟩ | exact ⟨pw_cell_below (below_alloc (Below.refl _ _) _) y0, pw_cell_below (below_alloc (Below.refl _ _) _) y3⟩ | exact ⟨(cell_g (a := ad.add (i * 4)) HB8.out hbg.out).trans y0, (cell_g (a := ⟨(ad.add (i * 4)).block, (ad.add (i * 4)).off + 3, none⟩) HB8.out hbg.out).trans y3⟩) (first | (refine Kd.N_append_step k76 (w0 := w6) (W := w6.drew) (g + 1) (by rfl) (.tmp 21) (.tmp 33) 43 76 (.agg #[.slice none 0 0, .int .i64 0]) 32 rfl Try.underlying43 info76 rfl (show 0 < 2 by decide) (by decide) (.slice O6 (cnt t (l.take i)).length o6) (cnt t (l.take i)) ⟨x.f0, x.f2⟩ [.slice A0 x.f0.length c0, .int .i64 x.f2] (fun _ => True) (fun j => j < w.heap.size) rfl rfl ?aP ?aK (fun _ _ => trivial) ?aO ?aB ?aS ?aL ?_; (case aP => exact k76_mkF _ _ (⟨x.f0, x.f2⟩ : S76) hl0.out (Kd.F_drew hF6.out)); (case aK => exact fun j hj => ⟨trivial, fun e => by have := Kd.N_base HO6.out j e.symm; have := gw.out; have h3 : j < w.heap.size := hj; omega⟩); (case aO => exact Kd.N_drew HO6.out); (case aB => exact below_drew (Below.refl _ _)); (case aS => exact blk_lt XX6.out); (case aL => have := hcl.out; omega); intro v8 w8 hN hB hg hat; have HO8 := Aside0.mk hN; have HB8 := Aside0.mk hB; clear hN hB hg hat))
     have XX8 := Aside0.mk (show w8.heap[g]? = some (.cells #[.int .i64 t.f0, .int .i64 t.f1] 24 (0, 0)) from (HB8.out.block g (Nat.lt_succ_self g)).trans XX6.out)
     have BB8 := Aside0.mk (BB6.out.trans (HB8.out.mono (by have := gw.out; omega)))
     clear HB8 XX6 BB6 HO6 y0 y3
     go_wp2
     go_roundg (n - (i + 1))
     case measure => omega
     case rel => exact ⟨i + 1, by go_num, by omega, Nat.le_refl _, XX8, ⟨by rw [hcs.out]; exact HO8.out⟩, BB8⟩
  · have hz : decide ((i : Int) < (n : Int)) = false := decide_eq_false (by omega)
    have e : l.take i = l := List.take_of_length_le (by have := hnn.out; omega)
    rw [e] at HO ⊢
    have hcl := cnt_len t l
    have H := less_calls O6 o6 (cnt t l) r (Kd.N_reads' HO.out).2.2 (Kd.N_reads' HO.out).2.1 (by have := hnn.out; omega) oo ho.out hs.out k hr.out hk
    go_wp2_with fail
    refine H.mono ?_
    rintro e w9 ⟨v, rfl, hV, hB⟩
    have V9 := Aside0.mk hV
    have B9 := Aside0.mk (below_then BB.out BB.out.size hB)
    clear hV hB H
    go_wp2
    go_ret2
    exact ⟨v, rfl, V9.out, B9.out⟩
end Go.Proofs.Ytednmkmhileikaa.G
namespace Go.Proofs.Ytednmkmhileikaa.G
open Go.RowKit Go.Proofs.YtednmkmhileikaaW.PrintWords Go.Proofs.YtednmkmhileikaaW.PrintLast Go.Proofs.YtednmkmhileikaaW.PrintMore Go.Proofs.Ytednmkmhileikaa.PHoldPlays
set_option linter.unusedVariables false
/-- At's answer. -/
def AtIs (t : S24) (l : List S33) (r : List S76) : Prop := ∃ (oo : Nat → Nat → Int) (k : Nat), (∀ i j x y, (cnt t l)[i]? = some x → (cnt t l)[j]? = some y → ROrdL x.f0 y.f0 (oo i j)) ∧ (∀ b i x, (cnt t l)[i]? = some x → oo i b = 0 → runnelref06_Add.f (sumTo oo (cnt t l) b i) x.f1 = some (sumTo oo (cnt t l) b i + x.f1, 0)) ∧ lessN oo (cnt t l) k (fun _ => false) [] = some r ∧ k ≤ 2000
theorem at_is {w : World} (A : Option Addr) (c : Nat) (l : List S33) (t : S24) (r : List S76) (hF : Kd.F k33 w (fun j => j < w.heap.size) A l.length l) (hc : l.length ≤ c) (hn : l.length ≤ 1000) (h : AtIs t l r) :
  Calls Try.prog 13 #[.slice A l.length c, .agg #[.int .i64 t.f0, .int .i64 t.f1]] w fun e w' => ∃ v, e = .returned (.tuple #[v, .int .i64 0]) ∧ Kd.V k76 76 w' 0 (fun _ => True) v r ∧ Below w.heap.size w w' := by
 obtain ⟨oo, k, h1, h2, h3, h4⟩ := h
 exact at_calls A c l t r hF hc hn oo h1 h2 k h3 h4
structure GoodK (l : List S36) (t : S24) (St : Nat → List S33 → List S33 → List S33 → Prop) : Prop where
 zero : St 0 [] [] []
 add : ∀ k us i o a, St k us i o → l[k]? = some a → a.f0 = false → -1125899906842624 ≤ a.f1.f2 → a.f1.f2 ≤ 1125899906842624 → ∃ vs, AddsTo us a.f1 vs 0 ∧ St (k + 1) vs (i ++ [a.f1]) o
 next : ∀ k us i o a, St k us i o → l[k]? = some a → a.f0 = true → ((us.findIdx? fun x => !(a.f2.any fun y => le y x.f1)) = none ∧ St (k + 1) us i o) ∨ ∃ p x, (us.findIdx? fun x => !(a.f2.any fun y => le y x.f1)) = some p ∧ us[p]? = some x ∧ RAhead a.f2 x false ∧ x.f2 ≠ 0 ∧ St (k + 1) (us.eraseIdx p) i (o ++ [x])
 fin : ∀ us i o, St l.length us i o → ∃ ra rb n, AtIs t i ra ∧ AtIs t (o ++ us) rb ∧ runnelref07_SameCounts.f n ra rb = some true
 len : ∀ k us i o, St k us i o → us.length ≤ k ∧ i.length ≤ k ∧ o.length ≤ k
 rows : ∀ k us i o, St k us i o → ∀ x ∈ us, x.f0.length < 4398046511104
 arow : ∀ a ∈ l, a.f1.f0.length < 4398046511104 ∧ a.f2.length < 4398046511104
 small : l.length ≤ 100
end Go.Proofs.Ytednmkmhileikaa.G
