/- slices.BinarySearchFunc over a list of changes, by hold's order. -/
import Derived.Test.YtednmkmhileikaaG2
import Derived.Lib.Overlaps
import Derived.Lib.AppendZeros
import Derived.IntWalk
import Derived.Test.YtednmkmhileikaaOHoldPlaysx3
namespace Go.Proofs.Ytednmkmhileikaa.G
open Go.RowKit Go.Proofs.YtednmkmhileikaaW.PrintWords Go.Proofs.YtednmkmhileikaaW.PrintLast Go.Proofs.YtednmkmhileikaaW.PrintMore Go.Proofs.Ytednmkmhileikaa.PHoldPlays
attribute [local go_sem] max2_int min2_int max_two min_two max_three min_three max_four min_four
set_option linter.unusedVariables false
set_option linter.unusedSimpArgs false
/-- One put in ahead of the i-th. -/
def ins {α : Type} (i : Nat) (x : α) (us : List α) : List α := us.take i ++ [x] ++ us.drop i
theorem ins_length {α : Type} (i : Nat) (x : α) (us : List α) : (ins i x us).length = us.length + 1 := by
 simp only [ins, List.length_append, List.length_take, List.length_drop, List.length_cons, List.length_nil]; omega
theorem ins_get {α : Type} {i : Nat} {x : α} {us : List α} (hi : i ≤ us.length) {j : Nat} {y : α} (h : (ins i x us)[j]? = some y) : (j < i ∧ us[j]? = some y) ∨ (j = i ∧ y = x) ∨ (i < j ∧ us[j - 1]? = some y) := by
 unfold ins at h
 rcases Nat.lt_trichotomy j i with hj | hj | hj
 · rw [List.append_assoc, List.getElem?_append_left (by simp; omega), List.getElem?_take, if_pos hj] at h
   exact .inl ⟨hj, h⟩
 · subst hj
   rw [List.append_assoc, List.getElem?_append_right (by simp; omega), List.length_take, Nat.min_eq_left hi, Nat.sub_self] at h
   simp at h
   exact .inr (.inl ⟨rfl, h.symm⟩)
 · rw [List.getElem?_append_right (by simp; omega), List.getElem?_drop] at h
   refine .inr (.inr ⟨hj, ?_⟩)
   rw [← h]
   congr 1
   simp
   omega
theorem N_ins {base : Nat} {ok okp : Nat → Prop} {w w' : World} {g n c i g' c' : Nat} {cur cur' : Array Value} {us : List S33} {x : S33} {xc : List Value}
  (HO : Kd.N k33 33 w base ok (.slice (some ⟨g, 0, none⟩) n c) us) (hi : i ≤ n) (hc : w.heap[g]? = some (.cells cur 33 (0, 0))) (hx : Kd.FK k33 w okp x xc) (hokp : ∀ k, okp k → ok k ∧ k ≠ g)
  (hg' : w'.heap[g']? = some (.cells cur' 33 (0, 0))) (hsz : cur'.size = c' * 4) (hc' : n + 1 ≤ c') (hcm : c' ≤ maxLen) (hb' : base ≤ g') (hok : ok g')
  (ht : cur'.toList.take ((n + 1) * 4) = cur.toList.take (i * 4) ++ xc ++ (cur.toList.take (n * 4)).drop (i * 4)) (hF : Fr w w' (· = g)) (hgg : g' = g ∨ w.heap.size ≤ g') :
  Kd.N k33 33 w' base ok (.slice (some ⟨g', 0, none⟩) (n + 1) c') (ins i x us) := by
 obtain ⟨hnl, hnc, _⟩ := Kd.N_reads' HO
 obtain ⟨h0, rows, hl, ⟨_, inner, ⟨hil, ⟨h1, _⟩ | ⟨g2, c2, cur2, hv, _, hh, _, _, hcs, htk⟩⟩, hr⟩, hf⟩ := HO
 · cases h1
 injection hv with ha _ hcc
 injection ha with ha
 injection ha with ha
 subst ha hcc
 rw [hc] at hh
 cases hh
 rw [hl, ← hnl] at htk
 have hxl : xc.length = 4 := k33.K_len (Kd.FK_now hx)
 have hci : cur.toList.take (i * 4) = inner.take (i * 4) := by
  rw [← htk, List.take_take, Nat.min_eq_left (by show i * 4 ≤ n * 4; omega)]
 have hrl : rows.length = n := by omega
 have hil2 : inner.length = n * 4 := by rw [hr.1, hrl]; rfl
 have hrows : Reps ((Kd.raw k33.sz).M w' base (fun k => some k = (Value.slice (some ⟨g', 0, none⟩) (n + 1) c').ownBlock ∧ some k ≠ (Value.slice (some ⟨g', 0, none⟩) (n + 1) c').ownBlock)) 4 (ins i xc rows) (inner.take (i * 4) ++ xc ++ inner.drop (i * 4)) := by
  refine Kd.reps_append (Kd.reps_append (Reps.imp_ (Kd.reps_take (m := i) hr (by omega)) (fun _ _ hp => hp)) ?_) (Reps.imp_ (Kd.reps_drop (m := i) hr) (fun _ _ hp => hp))
  have := Reps.snoc (Reps.none ((Kd.raw k33.sz).M w' base (fun k => some k = (Value.slice (some ⟨g', 0, none⟩) (n + 1) c').ownBlock ∧ some k ≠ (Value.slice (some ⟨g', 0, none⟩) (n + 1) c').ownBlock)) 4) (p := xc) (c := xc) ⟨rfl, hxl, k33.K_one (Kd.FK_now hx)⟩ hxl
  simpa using this
 refine ⟨fun k hk => by injection hk with hk; rw [← hk]; exact hok, ins i xc rows, by rw [ins_length, ins_length, hl], ⟨fun k hk => hk.symm, inner.take (i * 4) ++ xc ++ inner.drop (i * 4), ⟨?_, .inr ⟨g', c', cur', by rw [ins_length, hrl], hb', hg', by rw [ins_length, hrl]; exact hc', hcm, hsz, ?_⟩⟩, hrows⟩, fun j y cs hy hcs => ?_⟩
 · exact hrows.1
 · rw [ins_length, hrl]
   show cur'.toList.take ((n + 1) * 4) = _
   rw [ht, hci]
   congr 2
 · have hstep : ∀ {y : S33} {cs : List Value} {o : Nat → Prop}, Kd.FK k33 w o y cs → (∀ k, o k → ok k ∧ k ≠ g) → Kd.FK k33 w' (fun k => ok k ∧ some k ≠ (Value.slice (some ⟨g', 0, none⟩) (n + 1) c').ownBlock) y cs := by
    intro y cs o h ho
    refine Kd.FK_mono (Kd.FK_step (Kd.FK_bound h) (fun k hk hlt => hF.block k hlt (ho k hk.1).2)) (fun k hk => ⟨(ho k hk.1).1, fun he => ?_⟩)
    injection he with he
    have he : k = g' := he
    rcases hgg with hgg | hgg
    · exact (ho k hk.1).2 (by rw [he, hgg])
    · have := hk.2; omega
   have hiu : i ≤ us.length := by omega
   have hir : i ≤ rows.length := by omega
   rcases ins_get hiu hy with ⟨hj, hy1⟩ | ⟨hj, hy1⟩ | ⟨hj, hy1⟩ <;> rcases ins_get hir hcs with ⟨hj2, hc1⟩ | ⟨hj2, hc1⟩ | ⟨hj2, hc1⟩ <;> first | (exfalso; omega) | skip
   · exact hstep (hf _ _ _ hy1 hc1) (fun k hk => ⟨hk.1, fun he => hk.2 (by rw [he]; rfl)⟩)
   · subst hy1 hc1
     exact hstep hx hokp
   · exact hstep (hf _ _ _ hy1 hc1) (fun k hk => ⟨hk.1, fun he => hk.2 (by rw [he]; rfl)⟩)
section
variable {P : Program}
/-- append(s[:k], make([]T, m)...) where there is no room. -/
theorem zeros_new (w : World) (t ti ty e : TypeId) (i : TypeInfo) (z : Value) (size bytes : Nat) (ht : P.underlying t = some (.slice e)) {k : IntKind} (hti : P.underlying ti = some (.int k)) (hi : P.info? e = some i) (hz : i.zero = some z)
  (hsize : i.size = size) (hby : i.bytes = bytes) (hsz : 0 < size) (hb0 : 0 < bytes) (a : Addr) (n cap : Nat) (xs : List Value) (hx : xs.length = n * size) (hcells : ∀ j u, xs[j]? = some u → w.cell? (a.add j) = some u)
  (kx : IntKind) (m : Nat) (hm : 0 < m) (hcap : cap < n + m) (hbytes : (n + m) * bytes ≤ 140737488355328) :
  ∃ C, n + m ≤ C ∧ C ≤ maxLen ∧ (Builtin.append_ #[t, ti] ty #[.slice (some a) n cap, .int kx m]).run P w = .ok (.slice (some ⟨w.heap.size, 0, none⟩) (n + m) C) (w.drew.alloc (.cells (xs.toArray ++ Builtin.zeroCells z.cells m ++ Builtin.zeroCells z.cells (C - (n + m))) e)) := by
 subst hsize hby
 have hle : n + m ≤ 140737488355328 := Nat.le_trans (Nat.le_mul_of_pos_right _ hb0) hbytes
 have h63 : n + m ≤ maxLen := by simp only [maxLen]; omega
 have hw : IntKind.i64.wrap (m : Int) = m := by rw [IntKind.wrap_i64]; omega
 have hneg : ¬ ((m : Int) < 0) := by omega
 have hmb : m * i.bytes ≤ 140737488355328 := Nat.le_trans (Nat.mul_le_mul_right _ (Nat.le_add_left m n)) hbytes
 have hbig : ¬ (281474976710656 < (m : Int) * (i.bytes : Int)) := by
  rw [← Int.natCast_mul]
  omega
 have hn : ¬ (n + m ≤ cap) := by omega
 have h63' : ¬ (9223372036854775807 < ((n : Int) + (m : Int))) := by omega
 have hfit := growslice_fits hcap hbytes
 have h48' : ¬ (281474976710656 < Builtin.nextslicecap (n + m) cap * i.bytes) := by omega
 have hmz : ¬ (m * i.size = 0) := Nat.mul_ne_zero (by omega) (by omega)
 have hfo : (Builtin.firstCells i.size n (.slice (some a) n cap)).run P w.drew = .ok xs.toArray w.drew := run_firstCells_some (P := P) w.drew i.size n a n cap xs hx (by simpa using hcells)
 refine ⟨grownCap w (n + m) cap e, grownCap_ge w (n + m) cap e, grownCap_le_maxLen w (n + m) cap e h63, ?_⟩
 simp [Builtin.append_, run_underlying ht, run_underlying hti, sizeOf, typeInfo, zeroValue, hi, hz, asInt, asIntOf, hw, hneg, hbig, hn, h63', h48', Question.forced, hfo, newRow, grownCap, hmz]
end
theorem F_one {w : World} {b : Nat} {okp : Nat → Prop} {x : S33} {xc : List Value} (hb : w.heap[b]? = some (.cells xc.toArray 33 (0, 0))) (hx : Kd.FK k33 w okp x xc) : Kd.F k33 w (fun k => okp k ∨ k = b) (some ⟨b, 0, none⟩) 1 [x] := fun W' hW => by
 refine ⟨rfl, by decide, fun _ => ⟨_, rfl, fun j p hj => ?_⟩⟩
 have hj0 : j = 0 := by have := (List.getElem?_eq_some_iff.1 hj).1; simp at this; omega
 subst hj0
 have hp : p = x := by simpa using hj.symm
 subst hp
 have hK := hx W' (fun k hk hlt => hW k (.inl hk) hlt)
 refine ⟨xc, k33.K_len hK, hK, fun i u hu => ?_⟩
 have hb' := (hW b (.inr rfl) (blk_lt hb)).trans hb
 have e : (⟨b, 0, none⟩ : Addr).add (0 * k33.sz + i) = ⟨b, i, none⟩ := by rw [Nat.zero_mul, Nat.zero_add]; unfold Addr.add; split <;> simp_all
 rw [e, blk_cell hb']
 simpa using hu
theorem N_some {w : World} {base : Nat} {ok : Nat → Prop} {A : Option Addr} {n c : Nat} {xs : List S33} (h : Kd.N k33 33 w base ok (.slice A n c) xs) (h0 : 0 < xs.length) : ∃ g, A = some ⟨g, 0, none⟩ := by
 obtain ⟨_, rows, hl, ⟨_, inner, ⟨_, ⟨h1, h2⟩ | ⟨g, cap, cur, hv, _⟩⟩, _⟩, _⟩ := h
 · omega
 · injection hv with ha
   exact ⟨g, ha⟩
/-- What Insert leaves. -/
def Inserted (w : World) (base : Nat) (ok : Nat → Prop) (own : Option Nat) (n i : Nat) (x : S33) (us : List S33) (e : Ending) (w' : World) : Prop := ∃ g' c', e = .returned (.slice (some ⟨g', 0, none⟩) (n + 1) c') ∧ Kd.N k33 33 w' base ok (.slice (some ⟨g', 0, none⟩) (n + 1) c') (ins i x us) ∧ Fr w w' (fun k => some k = own) ∧ (some g' = own ∨ w.heap.size ≤ g')
section
variable {w : World} {base b : Nat} {ok okp : Nat → Prop} {n c i : Nat} {us : List S33} {x : S33} {xc : List Value}
set_option maxHeartbeats 2000000 in
set_option maxRecDepth 100000 in
theorem insert_end {A : Option Addr} (HO : Kd.N k33 33 w base ok (.slice A n c) us) (hn : n ≤ 1000000) (hb : w.heap[b]? = some (.cells xc.toArray 33 (0, 0))) (hx : Kd.FK k33 w okp x xc) (hokp : ∀ k, okp k → ok k ∧ some k ≠ (Value.slice A n c).ownBlock) (hob : ok b) (hbo : some b ≠ (Value.slice A n c).ownBlock)
  (hfresh : ∀ k, w.heap.size ≤ k → ok k) (hbase : base ≤ w.heap.size) : Calls Try.prog 27 #[.slice A n c, .int .i64 n, .slice (some ⟨b, 0, none⟩) 1 1] w (Inserted w base ok (Value.slice A n c).ownBlock n n x us) := by
 obtain ⟨hnl, hnc, _⟩ := Kd.N_reads' HO
 obtain ⟨i0, hi0, hz0, hs0, hb0⟩ := info_parts info33
 obtain ⟨A1, hA1⟩ : ∃ A1, A1 = if c = (n : Int).toNat then A else A.map (·.add ((n : Int).toNat * 4)) := ⟨_, rfl⟩
 have hcut1 : ∀ X, (Instr.slice 29 (.slice A n c) (some (.int .i64 (n : Int))) none none).run Try.prog X = .ok (.slice A1 (n - n) (c - n)) X := by
  intro X
  rw [cut_from (P := Try.prog) 29 33 .i64 Try.underlying29 hi0 4 hs0 A n c (n : Int) (by omega) (by omega) X, hA1]
  rfl
 clear hA1
 replace HO := Aside0.mk HO
 replace hnl := Aside0.mk hnl
 have HF := Aside0.mk (F_one hb hx)
 clear hb hx
 go_enter Try.func27, Try.ntmps27
 go_wp2_with (((with_reducible refine gate_builtin (b := .append) (xs := #[.tmp 23, .tmp 24]) rfl ?_); at_builtin; refine Kd.N_append_rows k33 (w0 := w) base rfl (.tmp 23) (.tmp 24) 29 33 (.agg #[.slice none 0 0, .int .i64 0, .int .i64 0, .int .i64 0]) 48 rfl Try.underlying29 info33 rfl (show 0 < 4 by decide) (by decide) (.slice A n c) us [x] (some ⟨b, 0, none⟩) 1 1 ok (fun k => okp k ∨ k = b) rfl rfl HO.out HF.out ?aO hfresh (Below.refl _ _) hbase ?aL ?_; (case aO => exact fun k hk => hk.elim (hokp k) (fun e => by subst e; exact ⟨hob, hbo⟩)); (case aL => have := hnl.out; omega); intro v1 w1 hN hBl hg hat; have O1 := Aside0.mk hN; have G1 := Aside0.mk hg; have T1 := Aside0.mk hat; clear hN hBl hg hat))
 have hnl := hnl.out
 obtain ⟨A', c', rfl⟩ := Kd.N_slice O1.out
 obtain ⟨g', rfl⟩ := N_some O1.out (by simp)
 have hl : (us ++ [x]).length = n + 1 := by simp; omega
 rw [hl] at O1 ⊢
 go_ret
 refine ⟨g', c', rfl, ?_, ⟨G1.out.os, G1.out.tape, G1.out.output, G1.out.size, fun k hk hn => G1.out.block k hk hn⟩, ?_⟩
 · have e : ins n x us = us ++ [x] := by rw [ins, hnl, List.take_length, List.drop_length, List.append_nil]
   rw [e]
   exact O1.out
 · rcases T1.out with h | ⟨b', h, hle⟩
   · exact .inl h
   · injection h with h
     have h : g' = b' := h
     exact .inr (by omega)
set_option maxHeartbeats 2000000 in
set_option maxRecDepth 100000 in
theorem insert_new {g : Nat} {cur : Array Value} (HO : Kd.N k33 33 w base ok (.slice (some ⟨g, 0, none⟩) n c) us) (hc : w.heap[g]? = some (.cells cur 33 (0, 0))) (hcs : cur.size = c * 4) (hi : i < n) (hroom : c < n + 1) (hn : n ≤ 1000000) (hb : w.heap[b]? = some (.cells xc.toArray 33 (0, 0))) (hx : Kd.FK k33 w okp x xc) (hokp : ∀ k, okp k → ok k ∧ k ≠ g) (hbo : b ≠ g)
  (hfresh : ∀ k, w.heap.size ≤ k → ok k) (hbase : base ≤ w.heap.size) : Calls Try.prog 27 #[.slice (some ⟨g, 0, none⟩) n c, .int .i64 i, .slice (some ⟨b, 0, none⟩) 1 1] w (Inserted w base ok (some g) n i x us) := by
 obtain ⟨hnl, hnc, _⟩ := Kd.N_reads' HO
 obtain ⟨i0, hi0, hz0, hs0, hb0⟩ := info_parts info33
 have hxl : xc.length = 4 := k33.K_len (Kd.FK_now hx)
 have hx1 : ∀ v ∈ xc, v.oneCell' = true := k33.K_one (Kd.FK_now hx)
 have d1 : ((i : Int) == (n : Int)) = false := by rw [beq_eq_false_iff_ne]; omega
 have d2 : decide ((n : Int) + 1 > (c : Int)) = true := decide_eq_true (by omega)
 have hcut1 : ∀ X, (Instr.slice 29 (.slice (some ⟨g, 0, none⟩) n c) (some (.int .i64 (i : Int))) none none).run Try.prog X = .ok (.slice (some ⟨g, i * 4, none⟩) (n - i) (c - i)) X := by
  intro X
  rw [cut_from (P := Try.prog) 29 33 .i64 Try.underlying29 hi0 4 hs0 (some ⟨g, 0, none⟩) n c (i : Int) (by omega) (by omega) X, if_neg (by omega)]
  simp [Addr.add]
  omega
 have hcut2 : ∀ X, (Instr.slice 29 (.slice (some ⟨g, 0, none⟩) n c) none (some (.int .i64 (i : Int))) none).run Try.prog X = .ok (.slice (some ⟨g, 0, none⟩) i c) X := by
  intro X
  rw [cut_to (P := Try.prog) 29 33 .i64 Try.underlying29 hi0 (some ⟨g, 0, none⟩) n c (i : Int) (by omega) (by omega) hnc X]
  simp
 have w1 : IntKind.i64.wrap ((n : Int) + 1 - i) = ((n + 1 - i : Nat) : Int) := by rw [IntKind.wrap_i64]; omega
 obtain ⟨z0, hz0'⟩ : ∃ z0 : List Value, z0 = (Builtin.zeroCells (Value.agg #[.slice none 0 0, .int .i64 0, .int .i64 0, .int .i64 0]).cells (n + 1 - i)).toList := ⟨_, rfl⟩
 obtain ⟨C, hC1, hC2, hrun⟩ := zeros_new (P := Try.prog) w 29 3 29 33 i0 _ 4 48 Try.underlying29 Try.underlying3 hi0 hz0 hs0 hb0 (by decide) (by decide) ⟨g, 0, none⟩ i c (cur.toList.take (i * 4)) (by simp; omega) (cells_at hc 0 _ (fun j v hj => by rw [List.getElem?_take] at hj; split at hj <;> first | (cases hj; done) | (simpa using hj))) .i64 (n + 1 - i) (by omega) (by omega) (by omega)
 rw [show i + (n + 1 - i) = n + 1 by omega] at hrun hC1
 obtain ⟨z1, hz1'⟩ : ∃ z1 : Array Value, z1 = (cur.toList.take (i * 4)).toArray ++ Builtin.zeroCells (Value.agg #[.slice none 0 0, .int .i64 0, .int .i64 0, .int .i64 0]).cells (n + 1 - i) ++ Builtin.zeroCells (Value.agg #[.slice none 0 0, .int .i64 0, .int .i64 0, .int .i64 0]).cells (C - (n + 1)) := ⟨_, rfl⟩
 obtain ⟨w2, hw2⟩ : ∃ w2, w2 = w.drew.alloc (.cells z1 33) := ⟨_, rfl⟩
 rw [← hz1', ← hw2] at hrun
 have hzl : z1.size = C * 4 := by
  rw [hz1', Array.size_append, Array.size_append, size_zeroCells, size_zeroCells]
  show _ + (n + 1 - i) * 4 + (C - (n + 1)) * 4 = C * 4
  simp
  omega
 have hzt : z1.toList.take (i * 4) = cur.toList.take (i * 4) := by
  rw [hz1']
  simp only [Array.toList_append, List.append_assoc]
  exact List.take_left' (by simp; omega)
 have hF2 := Aside0.mk (show Fr w w2 (fun k => some k = some g) by rw [hw2]; exact Fr.of_below (below_alloc (below_drew (Below.refl _ _)) _) _)
 have hg2 := Aside0.mk (show w2.heap[w.heap.size]? = some (.cells z1 33 (0, 0)) by rw [hw2]; exact blk_new w.drew _)
 have hc2 := Aside0.mk (show w2.heap[g]? = some (.cells cur 33 (0, 0)) by rw [hw2]; exact blk_alloc (blk_drew hc) _)
 have hb2 := Aside0.mk (show w2.heap[b]? = some (.cells xc.toArray 33 (0, 0)) by rw [hw2]; exact blk_alloc (blk_drew hb) _)
 clear hz0' hz1' hw2 z0
 replace HO := Aside0.mk HO
 replace hnl := Aside0.mk hnl
 replace hxl := Aside0.mk hxl
 replace hx1 := Aside0.mk hx1
 replace hx := Aside0.mk hx
 replace hc := Aside0.mk hc
 replace hzl := Aside0.mk hzl
 replace hzt := Aside0.mk hzt
 replace hb := Aside0.mk hb
 go_enter Try.func27, Try.ntmps27
 go_wp2_with (((with_reducible refine gate_builtin (b := .append) (xs := #[.tmp 34, .tmp 39]) rfl ?_); at_builtin; refine Lib.wpList_append_run w rfl (.tmp 34) (.tmp 39) 29 3 rfl _ _ rfl rfl _ _ hrun ?_))
 obtain ⟨H, hH⟩ : ∃ H, H = w.heap.size := ⟨_, rfl⟩
 rw [← hH] at hg2 ⊢
 have bH : b ≠ H := by rw [hH]; exact Nat.ne_of_lt (blk_lt hb.out)
 have gH : g ≠ H := by rw [hH]; exact Nat.ne_of_lt (blk_lt hc.out)
 have hmn : Nat.min 1 (n + 1 - i) = 1 := Nat.min_eq_left (by omega)
 have hcp := run_copy_cells (P := Try.prog) w2 29 29 3 33 4 H (i * 4) (n + 1 - i) (C - i) ⟨b, 0, none⟩ 1 1 z1 33 xc Try.underlying29 (by rw [hi0]; simp [hs0]) hg2.out (by rw [hmn, hxl.out]) (cells_at hb2.out 0 _ (fun j v hj => by simpa using hj)) (by rw [hxl.out, hzl.out]; omega) hx1.out
 rw [hmn] at hcp
 simp only [goInt] at hcp
 clear hmn
 obtain ⟨z3, hz3⟩ : ∃ z3, z3 = (z1.toList.take (i * 4) ++ xc ++ z1.toList.drop (i * 4 + xc.length)).toArray := ⟨_, rfl⟩
 obtain ⟨w3, hw3⟩ : ∃ w3, w3 = w2.setRow H z3 := ⟨_, rfl⟩
 rw [← hz3, ← hw3] at hcp
 have hg3 := Aside0.mk (show w3.heap[H]? = some (.cells z3 33 (0, 0)) by rw [hw3]; exact setRow_heap _ _ _ _ _ _ hg2.out)
 have hF3 := Aside0.mk (show Fr w w3 (fun k => some k = some g) by rw [hw3]; exact hF2.out.setRow (fun h => absurd h (by omega)) _)
 have hc3 := Aside0.mk (show w3.heap[g]? = some (.cells cur 33 (0, 0)) by rw [hw3, setRow_other _ _ _ _ gH]; exact hc2.out)
 have hzl3 := Aside0.mk (show z3.size = C * 4 by have h1 := hxl.out; have h2 := hzl.out; rw [hz3]; simp; omega)
 have hzt3 := Aside0.mk (show z3.toList.take ((i + 1) * 4) = cur.toList.take (i * 4) ++ xc by
  have h1 := hxl.out
  have h2 := hzl.out
  rw [hz3]
  simp only []
  rw [List.take_left' (by simp; omega), hzt.out])
 clear hw3 hz3 hzl hzt hF2 hb2 hg2 hc2
 replace hH := Aside0.mk hH
 have hcut3 : ∀ X, (Instr.slice 29 (.slice (some ⟨H, 0, none⟩) (n + 1) C) (some (.int .i64 ((i : Int) + 1))) none none).run Try.prog X = .ok (.slice (some ⟨H, (i + 1) * 4, none⟩) (n - i) (C - (i + 1))) X := by
  intro X
  rw [cut_from (P := Try.prog) 29 33 .i64 Try.underlying29 hi0 4 hs0 (some ⟨H, 0, none⟩) (n + 1) C ((i : Int) + 1) (by omega) (by omega) X]
  have e : ((i : Int) + 1).toNat = i + 1 := by omega
  rw [e, if_neg (by omega), show n + 1 - (i + 1) = n - i by omega]
  simp [Addr.add]
 have wi : IntKind.i64.wrap ((i : Int) + 1) = (i : Int) + 1 := IntWalk.i64_in _ (by omega)
 rw [hcp]
 clear hcp
 go_wp2_with fail
 go_still_tail 8, (by kernel_rfl)
 change wpList _ _ _ _ _ w3.drew
 have hg4 := Aside0.mk (blk_drew hg3.out)
 have hc4 := Aside0.mk (blk_drew hc3.out)
 have hF4 := Aside0.mk hF3.out.drew
 clear hg3 hc3 hF3
 generalize w3.drew = w4 at hg4 hc4 hF4 ⊢
 obtain ⟨cs, hcsd⟩ : ∃ cs, cs = (cur.toList.take (n * 4)).drop (i * 4) := ⟨_, rfl⟩
 have hcl : cs.length = (n - i) * 4 := by rw [hcsd]; simp; omega
 have hone : ∀ v ∈ cs, v.oneCell' = true := by
  intro v hv
  rw [hcsd] at hv
  obtain ⟨_, rows, hl, ⟨_, inner, ⟨_, ⟨h1, _⟩ | ⟨g2, c2, cur2, hv2, _, hh, _, _, hcs2, htk⟩⟩, hr⟩, _⟩ := HO.out
  · cases h1
  · injection hv2 with ha _ _
    injection ha with ha
    injection ha with ha
    subst ha
    rw [hc.out] at hh
    cases hh
    rw [hl, ← hnl.out] at htk
    refine Kd.reps_one hr (by decide) (fun _ _ hp => hp.2.2) v ?_
    rw [← htk]
    exact List.mem_of_mem_drop hv
 have hmn : Nat.min (n - i) (n - i) = n - i := Nat.min_self _
 have hcp := run_copy_cells (P := Try.prog) w4 29 29 3 33 4 H ((i + 1) * 4) (n - i) (C - (i + 1)) ⟨g, i * 4, none⟩ (n - i) (c - i) z3 33 cs Try.underlying29 (by rw [hi0]; simp [hs0]) hg4.out (by rw [hmn, hcl]) (cells_at hc4.out _ _ (fun j v hj => by rw [hcsd, List.getElem?_drop, List.getElem?_take] at hj; split at hj <;> first | (cases hj; done) | (simpa using hj))) (by rw [hcl, hzl3.out]; omega) hone
 rw [hmn] at hcp
 simp only [goInt] at hcp
 obtain ⟨z5, hz5⟩ : ∃ z5, z5 = (z3.toList.take ((i + 1) * 4) ++ cs ++ z3.toList.drop ((i + 1) * 4 + cs.length)).toArray := ⟨_, rfl⟩
 obtain ⟨w5, hw5⟩ : ∃ w5, w5 = w4.setRow H z5 := ⟨_, rfl⟩
 rw [← hz5, ← hw5] at hcp
 have hg5 := Aside0.mk (show w5.heap[H]? = some (.cells z5 33 (0, 0)) by rw [hw5]; exact setRow_heap _ _ _ _ _ _ hg4.out)
 have hF5 := Aside0.mk (show Fr w w5 (fun k => some k = some g) by rw [hw5]; exact hF4.out.setRow (fun h => absurd h (by have := hH.out; omega)) _)
 have hzl5 := Aside0.mk (show z5.size = C * 4 by have h2 := hzl3.out; rw [hz5]; simp; omega)
 have hzt5 := Aside0.mk (show z5.toList.take ((n + 1) * 4) = cur.toList.take (i * 4) ++ xc ++ (cur.toList.take (n * 4)).drop (i * 4) by
  have h2 := hzl3.out
  rw [hz5]
  simp only []
  rw [List.take_left' (by simp; omega), hzt3.out, hcsd])
 clear hw5 hz5 hcsd hcl hone hmn hg4 hc4 hF4 hzl3 hzt3
 go_wp2
 clear hcp
 go_ret
 refine ⟨H, C, rfl, N_ins HO.out (by omega) hc.out hx.out hokp hg5.out hzl5.out hC1 hC2 (by rw [hH.out]; exact hbase) (hfresh H (by rw [hH.out]; exact Nat.le_refl _)) hzt5.out (hF5.out.mono (fun k _ h => by injection h)) (.inr (by rw [hH.out]; exact Nat.le_refl _)), hF5.out, .inr (by rw [hH.out]; exact Nat.le_refl _)⟩
set_option maxHeartbeats 2000000 in
set_option maxRecDepth 100000 in
theorem insert_room {g : Nat} {cur : Array Value} (HO : Kd.N k33 33 w base ok (.slice (some ⟨g, 0, none⟩) n c) us) (hc : w.heap[g]? = some (.cells cur 33 (0, 0))) (hcs : cur.size = c * 4) (hi : i < n) (hroom : n + 1 ≤ c) (hcm : c ≤ maxLen) (hn : n ≤ 1000000) (hb : w.heap[b]? = some (.cells xc.toArray 33 (0, 0))) (hx : Kd.FK k33 w okp x xc) (hokp : ∀ k, okp k → ok k ∧ k ≠ g) (hbo : b ≠ g)
  (hfresh : ∀ k, w.heap.size ≤ k → ok k) (hbase : base ≤ g) (hog : ok g) : Calls Try.prog 27 #[.slice (some ⟨g, 0, none⟩) n c, .int .i64 i, .slice (some ⟨b, 0, none⟩) 1 1] w (Inserted w base ok (some g) n i x us) := by
 obtain ⟨hnl, hnc, _⟩ := Kd.N_reads' HO
 obtain ⟨i0, hi0, hz0, hs0, hb0⟩ := info_parts info33
 have hxl : xc.length = 4 := k33.K_len (Kd.FK_now hx)
 have hx1 : ∀ v ∈ xc, v.oneCell' = true := k33.K_one (Kd.FK_now hx)
 have d1 : ((i : Int) == (n : Int)) = false := by rw [beq_eq_false_iff_ne]; omega
 have d2 : decide ((n : Int) + 1 > (c : Int)) = false := decide_eq_false (by omega)
 have hcut1 : ∀ X, (Instr.slice 29 (.slice (some ⟨g, 0, none⟩) n c) (some (.int .i64 (i : Int))) none none).run Try.prog X = .ok (.slice (some ⟨g, i * 4, none⟩) (n - i) (c - i)) X := by
  intro X
  rw [cut_from (P := Try.prog) 29 33 .i64 Try.underlying29 hi0 4 hs0 (some ⟨g, 0, none⟩) n c (i : Int) (by omega) (by omega) X, if_neg (by omega)]
  simp [Addr.add]
  omega
 have hcut2 : ∀ X, (Instr.slice 29 (.slice (some ⟨g, 0, none⟩) (n + 1) c) (some (.int .i64 (i : Int))) none none).run Try.prog X = .ok (.slice (some ⟨g, i * 4, none⟩) (n + 1 - i) (c - i)) X := by
  intro X
  rw [cut_from (P := Try.prog) 29 33 .i64 Try.underlying29 hi0 4 hs0 (some ⟨g, 0, none⟩) (n + 1) c (i : Int) (by omega) (by omega) X, if_neg (by omega)]
  simp [Addr.add]
  omega
 have hcut3 : ∀ X, (Instr.slice 29 (.slice (some ⟨g, 0, none⟩) (n + 1) c) (some (.int .i64 ((i : Int) + 1))) none none).run Try.prog X = .ok (.slice (some ⟨g, (i + 1) * 4, none⟩) (n - i) (c - (i + 1))) X := by
  intro X
  rw [cut_from (P := Try.prog) 29 33 .i64 Try.underlying29 hi0 4 hs0 (some ⟨g, 0, none⟩) (n + 1) c ((i : Int) + 1) (by omega) (by omega) X]
  have e : ((i : Int) + 1).toNat = i + 1 := by omega
  rw [e, if_neg (by omega), show n + 1 - (i + 1) = n - i by omega]
  simp [Addr.add]
 have wi : IntKind.i64.wrap ((i : Int) + 1) = (i : Int) + 1 := IntWalk.i64_in _ (by omega)
 have hov : (callFunc 45 #[.slice (some ⟨b, 0, none⟩) 1 1, .slice (some ⟨g, (i + 1) * 4, none⟩) (n - i) (c - (i + 1))]).run Try.prog w = .ok (.value (.bool false)) w := by
  rw [run_callFunc_extern Try.func45 (by kernel_rfl) (by kernel_rfl) (by kernel_rfl) (e := Extern.SlicesOverlaps.overlaps #[29, 29] #[4]) (by kernel_rfl),
   Lib.run_overlaps_apart (P := Try.prog) w 29 4 33 Try.underlying29 4 Try.sizeOf33 ⟨b, 0, none⟩ ⟨g, (i + 1) * 4, none⟩ 1 1 (n - i) (c - (i + 1)) hbo 33 33 4 (c * 4) (by simp [World.shape?, hb, hxl]) (by simp [World.shape?, hc, hcs]) (by omega) (blk_frozen hb _) (blk_frozen hb _)]
  rfl
 replace HO := Aside0.mk HO
 replace hnl := Aside0.mk hnl
 replace hxl := Aside0.mk hxl
 replace hx1 := Aside0.mk hx1
 replace hx := Aside0.mk hx
 replace hc := Aside0.mk hc
 replace hb := Aside0.mk hb
 go_enter Try.func27, Try.ntmps27
 go_wp2_with (simp only [hov])
 clear hov
 go_still_tail 8, (by kernel_rfl)
 change wpList _ _ _ _ _ w.drew
 have hc2 := Aside0.mk (blk_drew hc.out)
 have hb2 := Aside0.mk (blk_drew hb.out)
 have hF2 := Aside0.mk (show Fr w w.drew (fun k => some k = some g) from (Fr.refl _ _).drew)
 generalize w.drew = w2 at hc2 hb2 hF2 ⊢
 obtain ⟨cs, hcsd⟩ : ∃ cs, cs = (cur.toList.take (n * 4)).drop (i * 4) := ⟨_, rfl⟩
 have hcl : cs.length = (n - i) * 4 := by rw [hcsd]; simp; omega
 have hone : ∀ v ∈ cs, v.oneCell' = true := by
  intro v hv
  rw [hcsd] at hv
  obtain ⟨_, rows, hl, ⟨_, inner, ⟨_, ⟨h1, _⟩ | ⟨g2, c2, cur2, hv2, _, hh, _, _, hcs2, htk⟩⟩, hr⟩, _⟩ := HO.out
  · cases h1
  · injection hv2 with ha _ _
    injection ha with ha
    injection ha with ha
    subst ha
    rw [hc.out] at hh
    cases hh
    rw [hl, ← hnl.out] at htk
    refine Kd.reps_one hr (by decide) (fun _ _ hp => hp.2.2) v ?_
    rw [← htk]
    exact List.mem_of_mem_drop hv
 have hmn : Nat.min (n + 1 - i) (n - i) = n - i := Nat.min_eq_right (by omega)
 have hcp := run_copy_cells (P := Try.prog) w2 29 29 3 33 4 g ((i + 1) * 4) (n - i) (c - (i + 1)) ⟨g, i * 4, none⟩ (n + 1 - i) (c - i) cur 33 cs Try.underlying29 (by rw [hi0]; simp [hs0]) hc2.out (by rw [hmn, hcl]) (cells_at hc2.out _ _ (fun j v hj => by rw [hcsd, List.getElem?_drop, List.getElem?_take] at hj; split at hj <;> first | (cases hj; done) | (simpa using hj))) (by rw [hcl, hcs]; omega) hone
 rw [hmn] at hcp
 simp only [goInt] at hcp
 obtain ⟨z3, hz3⟩ : ∃ z3, z3 = (cur.toList.take ((i + 1) * 4) ++ cs ++ cur.toList.drop ((i + 1) * 4 + cs.length)).toArray := ⟨_, rfl⟩
 obtain ⟨w3, hw3⟩ : ∃ w3, w3 = w2.setRow g z3 := ⟨_, rfl⟩
 rw [← hz3, ← hw3] at hcp
 have hg3 := Aside0.mk (show w3.heap[g]? = some (.cells z3 33 (0, 0)) by rw [hw3]; exact setRow_heap _ _ _ _ _ _ hc2.out)
 have hF3 := Aside0.mk (show Fr w w3 (fun k => some k = some g) by rw [hw3]; exact hF2.out.setRow (fun _ => rfl) _)
 have hb3 := Aside0.mk (show w3.heap[b]? = some (.cells xc.toArray 33 (0, 0)) by rw [hw3, setRow_other _ _ _ _ hbo]; exact hb2.out)
 have hzl3 := Aside0.mk (show z3.size = c * 4 by rw [hz3]; simp; omega)
 have hzt3 := Aside0.mk (show z3.toList.take (i * 4) = cur.toList.take (i * 4) ∧ (z3.toList.drop (i * 4 + 4)).take ((n - i) * 4) = cs by
  constructor
  · rw [hz3]
    simp only []
    rw [List.append_assoc, List.take_append_of_le_length (by simp; omega), List.take_take, Nat.min_eq_left (by omega)]
  · rw [hz3]
    simp only []
    rw [List.append_assoc, List.drop_left' (by simp; omega), List.take_left' hcl])
 have hcsd := Aside0.mk hcsd
 clear hw3 hz3 hone hmn hc2 hF2 hb2
 go_wp2_with fail
 clear hcp
 have hmn : Nat.min 1 (n + 1 - i) = 1 := Nat.min_eq_left (by omega)
 have hcp := run_copy_cells (P := Try.prog) w3 29 29 3 33 4 g (i * 4) (n + 1 - i) (c - i) ⟨b, 0, none⟩ 1 1 z3 33 xc Try.underlying29 (by rw [hi0]; simp [hs0]) hg3.out (by rw [hmn, hxl.out]) (cells_at hb3.out 0 _ (fun j v hj => by simpa using hj)) (by rw [hxl.out, hzl3.out]; omega) hx1.out
 rw [hmn] at hcp
 simp only [goInt] at hcp
 obtain ⟨z5, hz5⟩ : ∃ z5, z5 = (z3.toList.take (i * 4) ++ xc ++ z3.toList.drop (i * 4 + xc.length)).toArray := ⟨_, rfl⟩
 obtain ⟨w5, hw5⟩ : ∃ w5, w5 = w3.setRow g z5 := ⟨_, rfl⟩
 rw [← hz5, ← hw5] at hcp
 have hg5 := Aside0.mk (show w5.heap[g]? = some (.cells z5 33 (0, 0)) by rw [hw5]; exact setRow_heap _ _ _ _ _ _ hg3.out)
 have hF5 := Aside0.mk (show Fr w w5 (fun k => some k = some g) by rw [hw5]; exact hF3.out.setRow (fun _ => rfl) _)
 have hzl5 := Aside0.mk (show z5.size = c * 4 by have h1 := hxl.out; have h2 := hzl3.out; rw [hz5]; simp; omega)
 have hzt5 := Aside0.mk (show z5.toList.take ((n + 1) * 4) = cur.toList.take (i * 4) ++ xc ++ (cur.toList.take (n * 4)).drop (i * 4) by
  have h1 := hxl.out
  have h2 := hzl3.out
  rw [hz5]
  simp only []
  rw [hxl.out, ← hcsd.out, ← hzt3.out.2, ← hzt3.out.1, List.take_append, List.take_of_length_le (by simp; omega)]
  congr 2
  simp
  omega)
 clear hw5 hz5 hmn hg3 hF3 hzl3 hzt3 hb3
 rw [hcp]
 clear hcp
 go_wp2
 go_ret
 refine ⟨g, c, rfl, N_ins HO.out (by omega) hc.out hx.out hokp hg5.out hzl5.out hroom hcm hbase hog hzt5.out (hF5.out.mono (fun k _ h => by injection h)) (.inl rfl), hF5.out, .inl rfl⟩
end
theorem N_block {w : World} {base g n c : Nat} {ok : Nat → Prop} {us : List S33} (h : Kd.N k33 33 w base ok (.slice (some ⟨g, 0, none⟩) n c) us) : ∃ cur : Array Value, w.heap[g]? = some (.cells cur 33 (0, 0)) ∧ cur.size = c * 4 ∧ c ≤ maxLen ∧ base ≤ g ∧ ok g := by
 have hg := h.1 g rfl
 obtain ⟨_, rows, _, ⟨_, inner, ⟨_, ⟨h0, _⟩ | ⟨g', cap, cur, hv, hb, hh, _, hcm, hcs, _⟩⟩, _⟩, _⟩ := h
 · cases h0
 · injection hv with ha _ hc
   injection ha with ha
   injection ha with ha
   subst ha hc
   exact ⟨cur, hh, hcs, hcm, hb, hg⟩
theorem insert_calls {w : World} {base b : Nat} {ok okp : Nat → Prop} {A : Option Addr} {n c i : Nat} {us : List S33} {x : S33} {xc : List Value} (HO : Kd.N k33 33 w base ok (.slice A n c) us) (hi : i ≤ n) (hn : n ≤ 1000000) (hb : w.heap[b]? = some (.cells xc.toArray 33 (0, 0))) (hx : Kd.FK k33 w okp x xc) (hokp : ∀ k, okp k → ok k ∧ some k ≠ (Value.slice A n c).ownBlock) (hob : ok b) (hbo : some b ≠ (Value.slice A n c).ownBlock)
  (hfresh : ∀ k, w.heap.size ≤ k → ok k) (hbase : base ≤ w.heap.size) : Calls Try.prog 27 #[.slice A n c, .int .i64 i, .slice (some ⟨b, 0, none⟩) 1 1] w (Inserted w base ok (Value.slice A n c).ownBlock n i x us) := by
 rcases Nat.lt_or_ge i n with hlt | hge
 · have hnl := (Kd.N_reads' HO).1
   obtain ⟨g, rfl⟩ := N_some HO (by omega)
   obtain ⟨cur, h1, h2, h3, h4, h5⟩ := N_block HO
   have e : (Value.slice (some ⟨g, 0, none⟩) n c).ownBlock = some g := rfl
   rw [e] at hokp hbo ⊢
   rcases Nat.lt_or_ge c (n + 1) with hr | hr
   · exact insert_new HO h1 h2 hlt hr hn hb hx (fun k hk => ⟨(hokp k hk).1, fun h => (hokp k hk).2 (by rw [h])⟩) (fun h => hbo (by rw [h])) hfresh hbase
   · exact insert_room HO h1 h2 hlt hr h3 hn hb hx (fun k hk => ⟨(hokp k hk).1, fun h => (hokp k hk).2 (by rw [h])⟩) (fun h => hbo (by rw [h])) hfresh h4 h5
 · obtain rfl : i = n := by omega
   exact insert_end HO hn hb hx hokp hob hbo hfresh hbase
end Go.Proofs.Ytednmkmhileikaa.G
namespace Go.Proofs.Ytednmkmhileikaa.G
open Go.RowKit Go.Proofs.YtednmkmhileikaaW.PrintWords Go.Proofs.YtednmkmhileikaaW.PrintLast Go.Proofs.YtednmkmhileikaaW.PrintMore Go.Proofs.Ytednmkmhileikaa.PHoldPlays
attribute [local go_sem] max2_int min2_int max_two min_two max_three min_three max_four min_four
set_option linter.unusedVariables false
set_option linter.unusedSimpArgs false
/-- Two changes have this order. -/
def Ord (x u : S33) (r : Int) : Prop := ∃ k, hold_order.f k x.f0 x.f1.f0 x.f1.f1 x.f2 u.f0 u.f1.f0 u.f1.f1 u.f2 = some r
theorem order_at (w : World) (A : Option Addr) (c : Nat) (x : S33) (B : Option Addr) (d : Nat) (u : S33) (r : Int) (h1 : k61.C w A x.f0.length x.f0) (h2 : x.f0.length ≤ c) (h3 : k61.C w B u.f0.length u.f0) (h4 : u.f0.length ≤ d) (h : Ord x u r) : Calls Try.prog 26 #[.agg #[.slice A x.f0.length c, .int .i64 x.f1.f0, .int .i64 x.f1.f1, .int .i64 x.f2], .agg #[.slice B u.f0.length d, .int .i64 u.f1.f0, .int .i64 u.f1.f1, .int .i64 u.f2]] w fun e w' => e = .returned (.int .i64 r) ∧ Below w.heap.size w w' := by
 obtain ⟨k, h⟩ := h
 exact hold_order.calls k A c x.f0 _ _ _ B d u.f0 _ _ _ r w h1 h2 h3 h4 h
theorem rd_33 {us : List S33} {j : Nat} {x : S33} (h : us[j]? = some x) : rd_T33 us (j : Int) = x := by
 unfold rd_T33
 rw [Int.toNat_natCast, List.getD_eq_getElem?_getD, h]
 rfl
def Found (w : World) (p : Nat) (is : Bool) (e : Ending) (w' : World) : Prop := e = .returned (.tuple #[.int .i64 p, .bool is]) ∧ Below w.heap.size w w'
set_option maxHeartbeats 2000000 in
set_option maxRecDepth 100000 in
theorem search_calls (w : World) (A B : Option Addr) (c d : Nat) (us : List S33) (u : S33) (f : Nat → Int) (p : Nat) (hC : k33.C w A us.length us) (hc : us.length ≤ c) (hn : us.length ≤ 1000000) (hR : k61.C w B u.f0.length u.f0) (hd : u.f0.length ≤ d)
  (hf : ∀ j x, us[j]? = some x → Ord x u (f j)) (hp : p ≤ us.length) (h1 : ∀ j, j < p → f j < 0) (h2 : ∀ j, p ≤ j → j < us.length → 0 ≤ f j) :
  Calls Try.prog 25 #[.slice A us.length c, .agg #[.slice B u.f0.length d, .int .i64 u.f1.f0, .int .i64 u.f1.f1, .int .i64 u.f2], .func (.func 26) #[] #[]] w (Found w p (decide (p < us.length ∧ f p = 0))) := by
 obtain ⟨n, hnn⟩ : ∃ n, n = us.length := ⟨_, rfl⟩
 rw [← hnn] at hC hc hn hp h2 ⊢
 replace hC := Aside0.mk hC
 replace hR := Aside0.mk hR
 replace hf := Aside0.mk hf
 replace h1 := Aside0.mk h1
 replace h2 := Aside0.mk h2
 replace hnn := Aside0.mk hnn
 go_enter Try.func25, Try.ntmps25
 go_wp2_with fail
 obtain ⟨b, hb⟩ : ∃ b, b = w.heap.size := ⟨_, rfl⟩
 obtain ⟨w2, hw2⟩ : ∃ w2, w2 = w.alloc (.cells #[.slice B u.f0.length d, .int .i64 u.f1.f0, .int .i64 u.f1.f1, .int .i64 u.f2] 33) := ⟨_, rfl⟩
 rw [← hw2, ← hb]
 have hB2 : Aside0 (Below w.heap.size w w2) := ⟨by rw [hw2]; exact below_alloc (Below.refl _ _) _⟩
 have BX2 : Aside0 (w2.heap[b]? = some (.cells #[.slice B u.f0.length d, .int .i64 u.f1.f0, .int .i64 u.f1.f1, .int .i64 u.f2] 33 (0, 0))) := ⟨by rw [hw2, hb]; exact blk_new w _⟩
 have hbw : Aside0 (b = w.heap.size) := ⟨hb⟩
 clear hw2 hb
 go_loopg [9, 10] n (fun gk v9 v10 wr => ∃ i j : Nat, v9 = .int .i64 i ∧ v10 = .int .i64 j ∧ Aside0 (i ≤ p ∧ p ≤ j ∧ j ≤ n ∧ j - i ≤ gk) ∧ Aside0 (wr.heap[b]? = some (.cells #[.slice B u.f0.length d, .int .i64 u.f1.f0, .int .i64 u.f1.f1, .int .i64 u.f2] 33 (0, 0))) ∧ Aside0 (Below w.heap.size w wr))
 case atStart => exact ⟨0, n, rfl, rfl, ⟨⟨Nat.zero_le _, hp, Nat.le_refl _, by omega⟩⟩, BX2, hB2⟩
 case round =>
  clear BX2 hB2
  obtain ⟨i, j, rfl, rfl, HI, BX, HB⟩ := hrel
  by_cases hij : i < j
  · have hlz : decide ((i : Int) < (j : Int)) = true := decide_eq_true (by omega)
    have hI := HI.out
    have e1 : IntKind.i64.wrap ((i : Int) + (j : Int)) = (i : Int) + j := IntWalk.i64_in _ (by omega)
    go_wp2_with fail
    obtain ⟨h, hh⟩ : ∃ h : Nat, h = (i + j) / 2 := ⟨_, rfl⟩
    have hhi : ((i : Int) + (j : Int)) / 2 = (h : Int) := by omega
    rw [hhi]
    have hhl : i ≤ h ∧ h < j := by omega
    obtain ⟨x, hx⟩ : ∃ x, us[h]? = some x := ⟨_, List.getElem?_eq_getElem (by have := hnn.out; omega)⟩
    have ho := Aside0.mk (hf.out h x hx)
    obtain ⟨ad, A0, c0, e0, y0, y1, y2, y3, hl0, hC0⟩ := at_T33 hC.out (h : Int) (by omega) (by omega)
    rw [rd_33 hx] at y0 y1 y2 y3 hl0 hC0
    simp only [Int.toNat_natCast] at y0 y1 y2 y3
    cases e0
    have hxe := Aside0.mk hx
    have B0 := blk_cell BX.out 0
    have z0 : wr.cell? ⟨b, 0, none⟩ = some (.slice B u.f0.length d) := (blk_cell BX.out 0).trans rfl
    have z1 : wr.cell? ⟨b, 1, none⟩ = some (.int .i64 u.f1.f0) := (blk_cell BX.out 1).trans rfl
    have z2 : wr.cell? ⟨b, 2, none⟩ = some (.int .i64 u.f1.f1) := (blk_cell BX.out 2).trans rfl
    have z3 : wr.cell? ⟨b, 3, none⟩ = some (.int .i64 u.f2) := (blk_cell BX.out 3).trans rfl
    replace y0 := HB.out.cell (World.block_lt_of_cell? w _ y0) |>.trans y0
    replace y1 := HB.out.cell (World.block_lt_of_cell? w _ y1) |>.trans y1
    replace y2 := HB.out.cell (World.block_lt_of_cell? w _ y2) |>.trans y2
    replace y3 := HB.out.cell (World.block_lt_of_cell? w _ y3) |>.trans y3
    have CX := Aside0.mk hC0
    have LX := Aside0.mk hl0
    have hlt : (h : Int) < (n : Int) := by omega
    replace hh := Aside0.mk hh
    clear B0 hx hl0 hC0 e1 hhi
    go_region_held3 (fun w' => w'.cell? ⟨b, 0, none⟩ = some (.slice B u.f0.length d) ∧ w'.cell? ⟨b, 1, none⟩ = some (.int .i64 u.f1.f0) ∧ w'.cell? ⟨b, 2, none⟩ = some (.int .i64 u.f1.f1) ∧ w'.cell? ⟨b, 3, none⟩ = some (.int .i64 u.f2) ∧ w'.cell? (ad.add (h * 4)) = some (.slice A0 x.f0.length c0) ∧ w'.cell? ⟨(ad.add (h * 4)).block, (ad.add (h * 4)).off + 1, none⟩ = some (.int .i64 x.f1.f0) ∧ w'.cell? ⟨(ad.add (h * 4)).block, (ad.add (h * 4)).off + 2, none⟩ = some (.int .i64 x.f1.f1) ∧ w'.cell? ⟨(ad.add (h * 4)).block, (ad.add (h * 4)).off + 3, none⟩ = some (.int .i64 x.f2)) (first | exact ⟨z0, z1, z2, z3, y0, y1, y2, y3⟩ | exact ⟨pw_cell_below HB13.out z0, pw_cell_below HB13.out z1, pw_cell_below HB13.out z2, pw_cell_below HB13.out z3, pw_cell_below HB13.out y0, pw_cell_below HB13.out y1, pw_cell_below HB13.out y2, pw_cell_below HB13.out y3⟩) (first | (go_at_call 26; (with_reducible refine (order_at (A := A0) (c := c0) (x := x) (B := B) (d := d) (u := u) (r := f h) _ ?h1 LX.out ?h3 hd ho.out).mono ?_); (case h1 => exact Kd.C_below CX.out (below_drew HB.out)); (case h3 => exact Kd.C_below hR.out (below_drew HB.out)); rintro e w13 ⟨rfl, hb⟩; have HB13 : Aside0 (Below wr.heap.size wr w13) := Aside0.mk (below_then (below_drew (Below.refl _ _)) (Nat.le_refl _) hb); clear hb))
    have hI := HI.out
    have HB' := Aside0.mk (below_then HB.out HB.out.size HB13.out)
    have BX' := Aside0.mk (blk_below BX.out HB13.out)
    clear z0 z1 z2 z3 y0 y1 y2 y3 HB BX
    by_cases hneg : f h < 0
    · have hz : decide (f h < 0) = true := decide_eq_true hneg
      have hph : h < p := by
        rcases Nat.lt_or_ge h p with h' | h'
        · exact h'
        · have := h2.out h h' (by have := hnn.out; omega); omega
      go_wp2
      go_roundg (j - (h + 1))
      case measure => have := hh.out; omega
      case rel => have := hh.out; exact ⟨h + 1, j, by go_num, rfl, ⟨⟨by omega, by omega, by omega, by omega⟩⟩, BX', HB'⟩
    · have hz : decide (f h < 0) = false := decide_eq_false hneg
      have hph : p ≤ h := by
        rcases Nat.lt_or_ge h p with h' | h'
        · exact absurd (h1.out h h') hneg
        · exact h'
      go_wp2
      go_roundg (h - i)
      case measure => have := hh.out; omega
      case rel => have := hh.out; exact ⟨i, h, rfl, rfl, ⟨⟨by omega, by omega, by omega, by omega⟩⟩, BX', HB'⟩
  · have hI := HI.out
    have hlz : decide ((i : Int) < (j : Int)) = false := decide_eq_false (by omega)
    obtain rfl : i = p := by omega
    clear HI hI
    by_cases hpn : i < n
    · have hlz2 : decide ((i : Int) < (n : Int)) = true := decide_eq_true (by omega)
      obtain ⟨x, hx⟩ : ∃ x, us[i]? = some x := ⟨_, List.getElem?_eq_getElem (by have := hnn.out; omega)⟩
      have ho := Aside0.mk (hf.out i x hx)
      obtain ⟨ad, A0, c0, e0, y0, y1, y2, y3, hl0, hC0⟩ := at_T33 hC.out (i : Int) (by omega) (by omega)
      rw [rd_33 hx] at y0 y1 y2 y3 hl0 hC0
      simp only [Int.toNat_natCast] at y0 y1 y2 y3
      cases e0
      have z0 : wr.cell? ⟨b, 0, none⟩ = some (.slice B u.f0.length d) := (blk_cell BX.out 0).trans rfl
      have z1 : wr.cell? ⟨b, 1, none⟩ = some (.int .i64 u.f1.f0) := (blk_cell BX.out 1).trans rfl
      have z2 : wr.cell? ⟨b, 2, none⟩ = some (.int .i64 u.f1.f1) := (blk_cell BX.out 2).trans rfl
      have z3 : wr.cell? ⟨b, 3, none⟩ = some (.int .i64 u.f2) := (blk_cell BX.out 3).trans rfl
      replace y0 := HB.out.cell (World.block_lt_of_cell? w _ y0) |>.trans y0
      replace y1 := HB.out.cell (World.block_lt_of_cell? w _ y1) |>.trans y1
      replace y2 := HB.out.cell (World.block_lt_of_cell? w _ y2) |>.trans y2
      replace y3 := HB.out.cell (World.block_lt_of_cell? w _ y3) |>.trans y3
      have CX := Aside0.mk hC0
      have LX := Aside0.mk hl0
      have hlt : (i : Int) < (n : Int) := by omega
      clear hx hl0 hC0
      go_wp2_with fail
      go_region_held3 (fun w' => w'.cell? ⟨b, 0, none⟩ = some (.slice B u.f0.length d) ∧ w'.cell? ⟨b, 1, none⟩ = some (.int .i64 u.f1.f0) ∧ w'.cell? ⟨b, 2, none⟩ = some (.int .i64 u.f1.f1) ∧ w'.cell? ⟨b, 3, none⟩ = some (.int .i64 u.f2) ∧ w'.cell? (ad.add (i * 4)) = some (.slice A0 x.f0.length c0) ∧ w'.cell? ⟨(ad.add (i * 4)).block, (ad.add (i * 4)).off + 1, none⟩ = some (.int .i64 x.f1.f0) ∧ w'.cell? ⟨(ad.add (i * 4)).block, (ad.add (i * 4)).off + 2, none⟩ = some (.int .i64 x.f1.f1) ∧ w'.cell? ⟨(ad.add (i * 4)).block, (ad.add (i * 4)).off + 3, none⟩ = some (.int .i64 x.f2)) (first | exact ⟨z0, z1, z2, z3, y0, y1, y2, y3⟩ | exact ⟨pw_cell_below HB13.out z0, pw_cell_below HB13.out z1, pw_cell_below HB13.out z2, pw_cell_below HB13.out z3, pw_cell_below HB13.out y0, pw_cell_below HB13.out y1, pw_cell_below HB13.out y2, pw_cell_below HB13.out y3⟩) (first | (go_at_call 26; (with_reducible refine (order_at (A := A0) (c := c0) (x := x) (B := B) (d := d) (u := u) (r := f i) _ ?h1 LX.out ?h3 hd ho.out).mono ?_); (case h1 => exact Kd.C_below CX.out (below_drew HB.out)); (case h3 => exact Kd.C_below hR.out (below_drew HB.out)); rintro e w13 ⟨rfl, hb⟩; have HB13 : Aside0 (Below wr.heap.size wr w13) := Aside0.mk (below_then (below_drew (Below.refl _ _)) (Nat.le_refl _) hb); clear hb))
      have HB' := Aside0.mk (below_then HB.out HB.out.size HB13.out)
      clear z0 z1 z2 z3 y0 y1 y2 y3 HB BX
      go_wp2
      go_ret2
      refine ⟨?_, HB'.out⟩
      rw [show (decide (i < n ∧ f i = 0)) = (f i == 0) by rw [Bool.eq_iff_iff]; simp [hpn]]
      rfl
    · have hlz2 : decide ((i : Int) < (n : Int)) = false := decide_eq_false (by omega)
      go_wp2_with fail
      go_quiet (fail)
      go_wp2
      go_ret2
      refine ⟨?_, pw_below_drewN HB.out _⟩
      rw [show (decide (i < n ∧ f i = 0)) = false by simp [hpn]]
      rfl
end Go.Proofs.Ytednmkmhileikaa.G
