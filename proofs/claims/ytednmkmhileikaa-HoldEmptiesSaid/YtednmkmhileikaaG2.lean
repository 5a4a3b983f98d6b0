/- hold's simple methods; slices.Delete of one. -/
import Derived.Test.YtednmkmhileikaaG1
import Derived.Test.YtednmkmhileikaaOHoldPlaysx0
namespace Go.Proofs.Ytednmkmhileikaa.G
open Go.RowKit Go.Proofs.YtednmkmhileikaaW.PrintWords Go.Proofs.YtednmkmhileikaaW.PrintLast Go.Proofs.YtednmkmhileikaaW.PrintMore Go.Proofs.Ytednmkmhileikaa.PHoldPlays
attribute [local go_sem] max2_int min2_int max_two min_two max_three min_three max_four min_four
set_option linter.unusedVariables false
set_option linter.unusedSimpArgs false
set_option maxHeartbeats 1000000 in
theorem new_calls (w : World) : Calls Try.prog 8 #[] w fun e w' => ∃ g, e = .returned (.pointer (some ⟨g, 0, none⟩)) ∧ w.heap.size ≤ g ∧ w'.heap[g]? = some (.cells #[.slice none 0 0] 63 (0, 0)) ∧ Below w.heap.size w w' := by
 go_enter Try.func8, Try.ntmps8
 go_wp2
 go_ret
 exact ⟨w.heap.size, rfl, Nat.le_refl _, blk_new w _, below_alloc (Below.refl _ _) _⟩
set_option maxHeartbeats 1000000 in
theorem len_nil (w : World) : Calls Try.prog 19 #[.pointer none] w fun e w' => e = .returned (.int .i64 0) ∧ ∃ nd, w' = w.drewN nd := by
 go_enter Try.func19, Try.ntmps19
 go_wp2
 go_ret
 exact ⟨rfl, 0, rfl⟩
def Z4 : List Value := [.slice none 0 0, .int .i64 0, .int .i64 0, .int .i64 0]
theorem zc4 : (Builtin.zeroCells (Value.agg #[.slice none 0 0, .int .i64 0, .int .i64 0, .int .i64 0]).cells 1).toList = Z4 := by kernel_rfl
/-- What lies behind a row of one's own may be written over. -/
theorem R_tail {α : Type} {d : Kd α} {e base : Nat} {ok : Nat → Prop} {W : World} {g n c : Nat} {xs : List α} {cur cur2 : Array Value} (HO : d.R e W base ok (.slice (some ⟨g, 0, none⟩) n c) xs) (hc : W.heap[g]? = some (.cells cur e (0, 0))) (hs : cur2.size = cur.size) (ht : cur2.toList.take (n * d.sz) = cur.toList.take (n * d.sz)) : d.R e (W.setRow g cur2) base ok (.slice (some ⟨g, 0, none⟩) n c) xs := by
 obtain ⟨hn, _, _⟩ := Kd.R_reads' HO
 obtain ⟨hok, inner, ⟨hl, ho⟩, hr⟩ := HO
 refine ⟨hok, inner, ⟨hl, ?_⟩, hr.imp_ (fun p cs hp => Kd.M_step hp (fun k hk _ => setRow_other _ _ _ _ (fun h => hk.2 (by rw [h]; rfl))))⟩
 rcases ho with ⟨h, _⟩ | ⟨g', cap, cur', he, hb, hh, h1, h2, h3, h4⟩
 · cases h
 · cases he
   rw [hc] at hh
   cases hh
   refine .inr ⟨g, c, cur2, rfl, hb, setRow_heap _ _ _ _ _ _ hc, h1, h2, by rw [hs]; exact h3, ?_⟩
   rw [← h4, ← hn]
   exact ht
theorem run_clear_one {P : Program} (w : World) (t ty e : TypeId) (z : Value) (hu : P.underlying t = some (.slice e)) (hz : (zeroValue e).run P w = .ok z w) (g o cap : Nat) (cur : Array Value) (te : TypeId) (hg : w.heap[g]? = some (.cells cur te (0, 0))) (zs : List Value) (hzs : (Builtin.zeroCells z.cells 1).toList = zs) (hfit : o + zs.length ≤ cur.size) (h1 : ∀ v ∈ zs, v.oneCell' = true) (m : Nat) (hm : m = 1) :
 (Builtin.clear_ #[t] ty #[.slice (some ⟨g, o, none⟩) m cap]).run P w = .ok (.tuple #[]) (w.setRow g (cur.toList.take o ++ zs ++ cur.toList.drop (o + zs.length)).toArray) := by
 subst hm
 have hst := run_storeCells_at P g o te zs 0 cur w hg (by simpa using hfit) h1
 simp [Builtin.clear_, run_underlying hu, hz, hzs, hst]
section
variable {h c n : Nat} {A : Option Addr} {w : World}
set_option maxHeartbeats 1000000 in
theorem len_calls (hb : w.heap[h]? = some (.cells #[.slice A n c] 63 (0, 0))) : Calls Try.prog 19 #[.pointer (some ⟨h, 0, none⟩)] w fun e w' => e = .returned (.int .i64 n) ∧ ∃ nd, w' = w.drewN nd := by
 have h0 : w.cell? ⟨h, 0, none⟩ = some (.slice A n c) := (blk_cell hb 0).trans rfl
 go_enter Try.func19, Try.ntmps19
 go_wp2
 go_ret
 exact ⟨rfl, 0, rfl⟩
end
/-- .. of a row whose elements share. -/
theorem N_tail {e base : Nat} {ok : Nat → Prop} {W : World} {g n c : Nat} {xs : List S33} {cur cur2 : Array Value} (HO : Kd.N k33 e W base ok (.slice (some ⟨g, 0, none⟩) n c) xs) (hc : W.heap[g]? = some (.cells cur e (0, 0))) (hs : cur2.size = cur.size) (ht : cur2.toList.take (n * 4) = cur.toList.take (n * 4)) : Kd.N k33 e (W.setRow g cur2) base ok (.slice (some ⟨g, 0, none⟩) n c) xs := by
 obtain ⟨h0, rows, hl, hR, hf⟩ := HO
 refine ⟨h0, rows, hl, R_tail hR hc hs ht, fun j x cs hx hcs => Kd.FK_step (hf j x cs hx hcs) (fun k hk _ => setRow_other _ _ _ _ (fun h => hk.2 (by rw [h]; rfl)))⟩
/-- What Delete leaves. -/
def Deleted (w : World) (base : Nat) (ok : Nat → Prop) (g n c i : Nat) (us : List S33) (e : Ending) (w' : World) : Prop := e = .returned (.slice (some ⟨g, 0, none⟩) (n - 1) c) ∧ Kd.N k33 33 w' base ok (.slice (some ⟨g, 0, none⟩) (n - 1) c) (us.eraseIdx i) ∧ Fr w w' (· = g)
set_option maxHeartbeats 2000000 in
set_option maxRecDepth 100000 in
theorem delete_calls {w : World} {base : Nat} {ok : Nat → Prop} {g n c i : Nat} {us : List S33} (HO : Kd.N k33 33 w base ok (.slice (some ⟨g, 0, none⟩) n c) us) (hi : i < n) (hn : n ≤ 1000000) : Calls Try.prog 30 #[.slice (some ⟨g, 0, none⟩) n c, .int .i64 i, .int .i64 ((i : Int) + 1)] w (Deleted w base ok g n c i us) := by
 obtain ⟨hnl, hnc, _⟩ := Kd.N_reads' HO
 obtain ⟨i0, hi0, hz0, hs0, hb0⟩ := info_parts info33
 have d1 : ((i : Int) == (i : Int) + 1) = false := by rw [beq_eq_false_iff_ne]; omega
 replace HO := Aside0.mk HO
 have hbase : base ≤ w.heap.size := Nat.le_trans (Kd.N_base HO.out g rfl) (Nat.le_of_lt (Kd.N_lt HO.out g rfl))
 have hi33 : (Try.prog.info? 33).map (·.size) = some k33.sz := by rw [hi0]; simp [hs0]; rfl
 have hcut1 : ∀ X, (Instr.slice 29 (.slice (some ⟨g, 0, none⟩) n c) none (some (.int .i64 (i : Int))) none).run Try.prog X = .ok (.slice (some ⟨g, 0, none⟩) i c) X := by
  intro X
  rw [cut_to (P := Try.prog) 29 33 .i64 Try.underlying29 hi0 (some ⟨g, 0, none⟩) n c (i : Int) (by omega) (by omega) hnc X]
  simp
 obtain ⟨A5, hA5⟩ : ∃ A, A = if c = i + 1 then some ⟨g, 0, none⟩ else (some (⟨g, 0, none⟩ : Addr)).map (·.add ((i + 1) * k33.sz)) := ⟨_, rfl⟩
 have hcut2 : ∀ X, (Instr.slice 29 (.slice (some ⟨g, 0, none⟩) n c) (some (.int .i64 ((i : Int) + 1))) none none).run Try.prog X = .ok (.slice A5 (n - (i + 1)) (c - (i + 1))) X := by
  intro X
  rw [cut_from (P := Try.prog) 29 33 .i64 Try.underlying29 hi0 4 hs0 (some ⟨g, 0, none⟩) n c ((i : Int) + 1) (by omega) (by omega) X]
  have e : ((i : Int) + 1).toNat = i + 1 := by omega
  rw [e, hA5]
  rfl
 replace hA5 := Aside0.mk hA5
 have hcz : (Try.prog.info? 33).map (·.size) = some 4 := by rw [hi0]; simp [hs0]
 clear hnl
 go_enter Try.func30, Try.ntmps30
 go_wp2_with fail
 go_still_tail 6, (by kernel_rfl)
 change wpList _ _ _ _ _ w.drew
 have O2 := Aside0.mk (Kd.N_drew HO.out)
 have F2 := Aside0.mk (show Fr w w.drew (· = g) from (Fr.refl _ _).drew)
 have hb2 : base ≤ w.drew.heap.size := hbase
 generalize w.drew = w2 at O2 F2 hb2 ⊢
 go_wp2_with (((with_reducible refine gate_builtin (b := .append) (xs := #[.tmp 22, .tmp 25]) rfl ?_); at_builtin; refine Kd.N_delete k33 (w0 := w2) base rfl (.tmp 22) (.tmp 25) 29 33 rfl Try.underlying29 hi33 (n := n) (k := i) rfl rfl hA5.out rfl O2.out hi (Below.refl _ _) hb2 ?_; intro w3 hR3 _ hg3; have O3 := Aside0.mk hR3; have F3 := Aside0.mk (F2.out.grown hg3 (fun k hk _ => by injection hk with hk; exact hk.symm)); clear hR3 hg3))
 have hn1 := (Kd.N_reads' O3.out).1
 obtain ⟨cur, hcur, hcs⟩ : ∃ cur : Array Value, w3.heap[g]? = some (.cells cur 33 (0, 0)) ∧ cur.size = c * 4 := by
  obtain ⟨_, rows, _, ⟨_, inner, ⟨_, ⟨h0, _⟩ | ⟨g', cap, cur, hv, _, hh, _, _, hcs, _⟩⟩, _⟩, _⟩ := O3.out
  · cases h0
  · injection hv with ha _ hc
    injection ha with ha
    injection ha with ha
    rw [ha, hc]
    exact ⟨cur, hh, hcs⟩
 have hz : (zeroValue 33).run Try.prog w3 = .ok (.agg #[.slice none 0 0, .int .i64 0, .int .i64 0, .int .i64 0]) w3 := by kernel_rfl
 have hcl := run_clear_one (P := Try.prog) w3 29 0 33 _ Try.underlying29 hz g ((n - 1) * 4) (c - (n - 1)) cur 33 hcur Z4 zc4 (by simp [Z4]; omega) (by simp [Z4]; decide) (n - (n - 1)) (by omega)
 obtain ⟨w4, hw4⟩ : ∃ w4, w4 = w3.setRow g (cur.toList.take ((n - 1) * 4) ++ Z4 ++ cur.toList.drop ((n - 1) * 4 + Z4.length)).toArray := ⟨_, rfl⟩
 rw [← hw4] at hcl
 have O4 := Aside0.mk (N_tail O3.out hcur (cur2 := (cur.toList.take ((n - 1) * 4) ++ Z4 ++ cur.toList.drop ((n - 1) * 4 + Z4.length)).toArray) (by simp [Z4]; omega) (by
  simp only []
  rw [List.append_assoc, List.take_append_of_le_length (by simp; omega), List.take_take, Nat.min_self]))
 have F4 := Aside0.mk (F3.out.setRow (g := g) (fun _ => rfl) (cur.toList.take ((n - 1) * 4) ++ Z4 ++ cur.toList.drop ((n - 1) * 4 + Z4.length)).toArray)
 rw [← hw4] at O4 F4
 clear hw4
 rw [hcl]
 clear hcl hcur hcs O3 F3 hn1
 go_wp2
 go_ret
 exact ⟨rfl, O4.out, F4.out⟩
end Go.Proofs.Ytednmkmhileikaa.G
