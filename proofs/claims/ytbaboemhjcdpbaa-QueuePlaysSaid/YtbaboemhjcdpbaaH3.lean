/- (*queue.Queue).grow: the ring has room for so many; what waits stays. -/
import Derived.Test.YtbaboemhjcdpbaaH2
import Derived.Outline
namespace Go.Proofs.Ytbaboemhjcdpbaa.Q
open Go.RowKit Go.Proofs.YtbaboemhjcdpbaaW.PrintWords Go.Proofs.YtbaboemhjcdpbaaW.PrintLast Go.Proofs.YtbaboemhjcdpbaaW.PrintMore
attribute [local go_sem] max2_int min2_int max_two min_two max_three min_three max_four min_four
set_option linter.unusedVariables false
set_option linter.unusedSimpArgs false
def Grew0 (w : World) (g : Nat) (n room i o : Int) (M : Nat) (e : Ending) (w' : World) : Prop := e = .returned (.tuple #[]) ∧ ∃ (r : Nat) (cur : Array Value), w.heap.size ≤ r ∧ w'.heap[g]? = some (.cells (qcells (some ⟨r, 0, none⟩) M M 0 n room i o) 56 (0, 0)) ∧ w'.heap[r]? = some (.cells cur 42 (0, 0)) ∧ cur.size = M * 4 ∧ (∀ v ∈ cur.toList, v.oneCell' = true) ∧ Fr w w' (· = g)
/-- What grow leaves. -/
def Grew (w : World) (g l first : Nat) (n room i o : Int) (cur : Array Value) (M : Nat) (e : Ending) (w' : World) : Prop := e = .returned (.tuple #[]) ∧ ∃ (r' : Nat) (z : List Value), w.heap.size ≤ r' ∧ w'.heap[g]? = some (.cells (qcells (some ⟨r', 0, none⟩) M M 0 n room i o) 56 (0, 0)) ∧ z.length = M * 4 ∧ (∀ v ∈ z, v.oneCell' = true) ∧ w'.heap[r']? = some (.cells (cur.toList.drop (first * 4) ++ cur.toList.take (first * 4) ++ z.drop (l * 4)).toArray 42 (0, 0)) ∧ Fr w w' (· = g)
theorem made_one (z : Array Value) (n : Nat) (hz : 0 < z.size) (h : ∀ v ∈ z.toList, v.oneCell' = true) : ∀ v ∈ (madeCells z n).toList, v.oneCell' = true := by
 intro v hv
 simp [madeCells] at hv
 obtain ⟨a, _, rfl⟩ := hv
 have hlt : a % z.size < z.size := Nat.mod_lt _ hz
 refine h _ ?_
 rw [getElem!_pos z (a % z.size) hlt]
 exact Array.mem_toList_iff.2 (Array.getElem_mem hlt)
section
variable {g r l first : Nat} {n room i o : Int} {w : World}
set_option maxHeartbeats 1000000 in
theorem grow_fits (A : Option Addr) (fi : Int) (N : Int) (h : w.heap[g]? = some (.cells (qcells A l l fi n room i o) 56 (0, 0))) (hN : N ≤ l) : Calls Try.prog 20 #[.pointer (some ⟨g, 0, none⟩), .int .i64 N] w fun e w' => e = .returned (.tuple #[]) ∧ w' = w := by
 have c0 : w.cell? ⟨g, 0, none⟩ = some (.slice A l l) := (blk_cell h 0).trans rfl
 have d1 : decide (N ≤ (l : Int)) = true := decide_eq_true (by omega)
 go_enter Try.func20, Try.ntmps20
 go_wp2
 (try simp only [Exit.inBlock, Exit.then])
 refine bodyPost_ret (results_none rfl _ _ _) rfl ?_
 exact ⟨rfl, rfl⟩
set_option maxHeartbeats 2000000 in
set_option maxRecDepth 100000 in
theorem grow_more (N : Int) (M : Nat) (cur : Array Value) (h1 : (l : Int) < N) (h2 : N ≤ 65536) (hM : mx (mx N (2 * l)) 4 = (M : Int)) (hf : first < l) (h : w.heap[g]? = some (.cells (qcells (some ⟨r, 0, none⟩) l l first n room i o) 56 (0, 0)))
  (hr : w.heap[r]? = some (.cells cur 42 (0, 0))) (hcs : cur.size = l * 4) (h1c : ∀ v ∈ cur.toList, v.oneCell' = true) : Calls Try.prog 20 #[.pointer (some ⟨g, 0, none⟩), .int .i64 N] w (Grew w g l first n room i o cur M) := by
 have c0 : w.cell? ⟨g, 0, none⟩ = some (.slice (some ⟨r, 0, none⟩) l l) := (blk_cell h 0).trans rfl
 have c1 : w.cell? ⟨g, 1, none⟩ = some (.int .i64 first) := (blk_cell h 1).trans rfl
 have d1 : decide (N ≤ (l : Int)) = false := decide_eq_false (by omega)
 have hM' : M ≤ 131072 := by unfold mx at hM; (repeat' split at hM) <;> omega
 have hMl : 2 * l ≤ M := by unfold mx at hM; (repeat' split at hM) <;> omega
 have hb3 : M ≤ maxLen := Nat.le_trans hM' (by decide)
 have hl0 : (0 : Int) ≤ 2 * (l : Int) := by omega
 have hl1 : 2 * (l : Int) < 9223372036854775807 := by omega
 obtain ⟨i0, hi, hz, hs, hb⟩ := info_parts info42
 have hb2 : i0.bytes * M ≤ 281474976710656 := by rw [hb]; omega
 have HR := Aside0.mk hr
 have HC := Aside0.mk h1c
 have HS := Aside0.mk hcs
 have hM2 : (if (if N < 2 * (l : Int) then 2 * (l : Int) else N) < 4 then 4 else if N < 2 * (l : Int) then 2 * (l : Int) else N) = (M : Int) := by rw [← hM]; unfold mx; (repeat' split) <;> omega
 clear hM
 go_enter Try.func20, Try.ntmps20
 go_wp2_with (first | ((with_reducible refine gate_dst (N := 21) rfl ?_); refine wpList_make_full _ rfl (.tmp 20) (.tmp 20) 28 rfl w.heap.size 42 i0 _ 4 Try.underlying28 hi hz hs .i64 .i64 _ _ M rfl rfl rfl rfl hb2 hb3 (Nat.le_refl _) ?_; intro w1 ho hgr))
 have k1 : w1.heap[g]? = some (.cells (qcells (some ⟨r, 0, none⟩) l l first n room i o) 56 (0, 0)) := (hgr.block g (blk_lt h) (by simp)).trans h
 have hc0 : w1.cell? ⟨g, 0, none⟩ = some (.slice (some ⟨r, 0, none⟩) l l) := (blk_cell k1 0).trans rfl
 have hc1 : w1.cell? ⟨g, 1, none⟩ = some (.int .i64 first) := (blk_cell k1 1).trans rfl
 have r1 := Aside0.mk ((hgr.block r (blk_lt HR.out) (by simp)).trans HR.out)
 have rne : w.heap.size ≠ r := Nat.ne_of_gt (blk_lt HR.out)
 have gne : w.heap.size ≠ g := Nat.ne_of_gt (blk_lt h)
 obtain ⟨z, n0, hzl, hz1, hzb⟩ : ∃ z : Array Value, w1.heap[w.heap.size]? = some (.cells z 42 (0, 0)) ∧ z.size = M * 4 ∧ (∀ v ∈ z.toList, v.oneCell' = true) ∧ True := by
   obtain ⟨hlen, ⟨hn, _⟩ | ⟨r2, cap, cur2, hv, hb_, hcur, _, _, hsz, htk⟩⟩ := ho
   · cases hn
   · cases hv
     refine ⟨cur2, hcur, hsz, fun v hv => ?_, trivial⟩
     rw [← List.take_of_length_le (show cur2.toList.length ≤ M * 4 by simpa using Nat.le_of_eq hsz), htk] at hv
     exact made_one _ _ (by decide) (by decide) v hv
 have hcut : ∀ W, (Instr.slice 28 (.slice (some ⟨r, 0, none⟩) l l) (some (.int .i64 first)) none none).run Try.prog W = .ok (.slice (some ⟨r, first * 4, none⟩) (l - first) (l - first)) W := by
  intro W
  rw [cut_from (P := Try.prog) 28 42 .i64 Try.underlying28 hi 4 hs (some ⟨r, 0, none⟩) l l first (by omega) (by omega) W, if_neg (by omega)]
  simp [Addr.add]
  intro h0; omega
 go_still_tail 10, (by kernel_rfl)
 change wpList _ _ _ _ _ w1.drew
 have k2 := blk_drew k1
 have n2 := blk_drew n0
 have r2 := Aside0.mk (blk_drew r1.out)
 have G2 := Aside0.mk (show Fr w w1.drew (· = g) from ⟨hgr.os, hgr.tape, hgr.output, hgr.size, fun k hk _ => hgr.block k hk (by simp)⟩)
 clear n0 r1 hc0 hc1 ho hgr k1
 generalize w1.drew = w2 at k2 n2 r2 G2 ⊢
 obtain ⟨cs1, hcs1⟩ : ∃ c, c = cur.toList.drop (first * 4) := ⟨_, rfl⟩
 have l1 : cs1.length = (l - first) * 4 := by rw [hcs1, List.length_drop]; have := HS.out; simp; omega
 have hmn : Nat.min (l - first) M = l - first := Nat.min_eq_left (by omega)
 have hcp := run_copy_cells (P := Try.prog) w2 28 28 3 42 4 w.heap.size 0 M M ⟨r, first * 4, none⟩ (l - first) (l - first) z 42 cs1 Try.underlying28 (by rw [hi]; simp [hs]) n2 (by rw [l1, hmn]) (cells_at r2.out _ _ (fun j v hj => by rw [hcs1, List.getElem?_drop] at hj; simpa using hj)) (by rw [l1, hzl]; omega) (fun v hv => HC.out v (by rw [hcs1] at hv; exact List.mem_of_mem_drop hv))
 rw [hmn] at hcp
 simp only [List.take_zero, List.nil_append, Nat.zero_add, goInt] at hcp
 clear hmn
 obtain ⟨w3, hw3⟩ : ∃ w3, w3 = w2.setRow w.heap.size (cs1 ++ z.toList.drop cs1.length).toArray := ⟨_, rfl⟩
 rw [← hw3] at hcp
 have k3 : w3.heap[g]? = some (.cells (qcells (some ⟨r, 0, none⟩) l l first n room i o) 56 (0, 0)) := by rw [hw3, setRow_other _ _ _ _ (Ne.symm gne)]; exact k2
 have r3 := Aside0.mk (show w3.heap[r]? = some (.cells cur 42 (0, 0)) by rw [hw3, setRow_other _ _ _ _ (Ne.symm rne)]; exact r2.out)
 have n3 := Aside0.mk (show w3.heap[w.heap.size]? = some (.cells (cs1 ++ z.toList.drop cs1.length).toArray 42 (0, 0)) by rw [hw3]; exact setRow_heap _ _ _ _ _ _ n2)
 have G3 := Aside0.mk (show Fr w w3 (· = g) by rw [hw3]; exact G2.out.setRow (fun h => absurd h (by omega)) _)
 have HZ := Aside0.mk hz1
 have HL := Aside0.mk l1
 have HCS := Aside0.mk hcs1
 clear hw3 k2 n2 r2 G2 hz1 l1 hcs1
 have hc0 : w3.cell? ⟨g, 0, none⟩ = some (.slice (some ⟨r, 0, none⟩) l l) := (blk_cell k3 0).trans rfl
 have hc1 : w3.cell? ⟨g, 1, none⟩ = some (.int .i64 first) := (blk_cell k3 1).trans rfl
 go_wp2
 clear hcp
 have hcut2 : ∀ W, (Instr.slice 28 (.slice (some ⟨w.heap.size, 0, none⟩) M M) (some (.int .i64 ((l - first : Nat) : Int))) none none).run Try.prog W = .ok (.slice (some ⟨w.heap.size, (l - first) * 4, none⟩) (M - (l - first)) (M - (l - first))) W := by
  intro W
  rw [cut_from (P := Try.prog) 28 42 .i64 Try.underlying28 hi 4 hs (some ⟨w.heap.size, 0, none⟩) M M ((l - first : Nat) : Int) (by omega) (by omega) W, if_neg (by omega)]
  simp [Addr.add]
  intro h0; omega
 have hcut3 : ∀ W, (Instr.slice 28 (.slice (some ⟨r, 0, none⟩) l l) none (some (.int .i64 first)) none).run Try.prog W = .ok (.slice (some ⟨r, 0, none⟩) first l) W := by
  intro W
  rw [cut_to (P := Try.prog) 28 42 .i64 Try.underlying28 hi (some ⟨r, 0, none⟩) l l first (by omega) (by omega) (Nat.le_refl _) W]
  simp
 go_still_tail 12, (by kernel_rfl)
 change wpList _ _ _ _ _ w3.drew
 have k4 := blk_drew k3
 have n4 := blk_drew n3.out
 have r4 := Aside0.mk (blk_drew r3.out)
 have G4 := Aside0.mk G3.out.drew
 clear n3 r3 hc0 hc1 k3 hcut hcut2 hcut3 G3
 generalize w3.drew = w4 at k4 n4 r4 G4 ⊢
 obtain ⟨cs2, hcs2⟩ : ∃ c, c = cur.toList.take (first * 4) := ⟨_, rfl⟩
 have hcl : cur.toList.length = l * 4 := by have := HS.out; simpa using this
 have l2 : cs2.length = first * 4 := by rw [hcs2, List.length_take, hcl]; omega
 have hmn : Nat.min first (M - (l - first)) = first := Nat.min_eq_left (by omega)
 have l1 := HL.out
 have hzl2 : z.toList.length = M * 4 := by simpa using hzl
 have hcp := run_copy_cells (P := Try.prog) w4 28 28 3 42 4 w.heap.size ((l - first) * 4) (M - (l - first)) (M - (l - first)) ⟨r, 0, none⟩ first l (cs1 ++ z.toList.drop cs1.length).toArray 42 cs2 Try.underlying28 (by rw [hi]; simp [hs]) n4 (by rw [l2, hmn]) (cells_at r4.out _ _ (fun j v hj => by rw [hcs2, List.getElem?_take] at hj; (split at hj <;> first | (cases hj; done) | (simpa using hj)))) (by rw [l2]; simp [hzl]; omega) (fun v hv => HC.out v (by rw [hcs2] at hv; exact List.mem_of_mem_take hv))
 rw [hmn] at hcp
 simp only [goInt] at hcp
 have harr : (cs1 ++ z.toList.drop cs1.length).toArray.toList.take ((l - first) * 4) ++ cs2 ++ (cs1 ++ z.toList.drop cs1.length).toArray.toList.drop ((l - first) * 4 + cs2.length) = cs1 ++ cs2 ++ z.toList.drop (l * 4) := by
   simp only []
   rw [← l1, List.take_left, ← List.drop_drop, List.drop_left, List.drop_drop, l1, l2]
   congr 2
   omega
 rw [harr] at hcp
 clear hmn harr
 obtain ⟨w5, hw5⟩ : ∃ w5, w5 = w4.setRow w.heap.size (cs1 ++ cs2 ++ z.toList.drop (l * 4)).toArray := ⟨_, rfl⟩
 rw [← hw5] at hcp
 have k5 : w5.heap[g]? = some (.cells (qcells (some ⟨r, 0, none⟩) l l first n room i o) 56 (0, 0)) := by rw [hw5, setRow_other _ _ _ _ (Ne.symm gne)]; exact k4
 have n5 := Aside0.mk (show w5.heap[w.heap.size]? = some (.cells (cs1 ++ cs2 ++ z.toList.drop (l * 4)).toArray 42 (0, 0)) by rw [hw5]; exact setRow_heap _ _ _ _ _ _ n4)
 have G5 := Aside0.mk (show Fr w w5 (· = g) by rw [hw5]; exact G4.out.setRow (fun h => absurd h (by omega)) _)
 have HL2 := Aside0.mk hzl2
 have HCS2 := Aside0.mk hcs2
 clear hw5 k4 n4 r4 G4 hcs2 l1 l2 hcl hzl2 hzl
 have hc0 : w5.cell? ⟨g, 0, none⟩ = some (.slice (some ⟨r, 0, none⟩) l l) := (blk_cell k5 0).trans rfl
 have hc1 : w5.cell? ⟨g, 1, none⟩ = some (.int .i64 first) := (blk_cell k5 1).trans rfl
 have f0 := blk_frozen k5 0
 have f1 := blk_frozen k5 1
 go_wp2
 clear hcp
 go_end0
 refine ⟨rfl, w.heap.size, z.toList, Nat.le_refl _, ?_, HL2.out, HZ.out, ?_, ?_⟩
 · refine blk_put (cs := qcells (some ⟨w.heap.size, 0, none⟩) M M first n room i o) ?_ 1 _ rfl
   exact blk_put (cs := qcells (some ⟨r, 0, none⟩) l l first n room i o) k5 0 _ rfl
 · rw [← HCS.out, ← HCS2.out]
   exact blk_far (blk_far n5.out gne _) gne _
 · exact (G5.out.set (fun _ => rfl) _).set (fun _ => rfl) _
set_option maxHeartbeats 2000000 in
set_option maxRecDepth 100000 in
theorem grow_new (N : Int) (M : Nat) (h1 : 1 ≤ N) (h2 : N ≤ 65536) (hM : (if N < 4 then 4 else N) = (M : Int)) (h : w.heap[g]? = some (.cells (qcells none 0 0 0 n room i o) 56 (0, 0))) : Calls Try.prog 20 #[.pointer (some ⟨g, 0, none⟩), .int .i64 N] w (Grew0 w g n room i o M) := by
 have c0 : w.cell? ⟨g, 0, none⟩ = some (.slice none 0 0) := (blk_cell h 0).trans rfl
 have c1 : w.cell? ⟨g, 1, none⟩ = some (.int .i64 0) := (blk_cell h 1).trans rfl
 have d1 : decide (N ≤ 0) = false := decide_eq_false (by omega)
 have hM' : M ≤ 65536 := by split at hM <;> omega
 have hb3 : M ≤ maxLen := Nat.le_trans hM' (by decide)
 have hcp : ∀ W (a : Addr) (dl dc : Nat), (Builtin.copy_ #[28, 28] 3 #[.slice (some a) dl dc, .slice none 0 0]).run Try.prog W = .ok (.int .i64 0) W := fun W a dl dc => run_copy_nil Try.prog W 28 28 3 42 a dl dc Try.underlying28 (by kernel_rfl)
 have hN0 : ¬ N < 0 := by omega
 have hN4 : ¬ N ≤ 0 := by omega
 obtain ⟨i0, hi, hz, hs, hb⟩ := info_parts info42
 have hb2 : i0.bytes * M ≤ 281474976710656 := by rw [hb]; omega
 go_enter Try.func20, Try.ntmps20
 go_wp2_with (first | ((with_reducible refine gate_dst (N := 21) rfl ?_); refine wpList_make_full _ rfl (.tmp 20) (.tmp 20) 28 rfl w.heap.size 42 i0 _ 4 Try.underlying28 hi hz hs .i64 .i64 _ _ M rfl rfl rfl rfl hb2 hb3 (Nat.le_refl _) ?_; intro w1 ho hgr))
 have k1 : w1.heap[g]? = some (.cells (qcells none 0 0 0 n room i o) 56 (0, 0)) := (hgr.block g (blk_lt h) (by simp)).trans h
 have hc0 : w1.cell? ⟨g, 0, none⟩ = some (.slice none 0 0) := (blk_cell k1 0).trans rfl
 have hc1 : w1.cell? ⟨g, 1, none⟩ = some (.int .i64 0) := (blk_cell k1 1).trans rfl
 go_still_tail 10, (by kernel_rfl)
 change wpList _ _ _ _ _ w1.drew
 have k2 := blk_drew k1
 have hd0 : w1.drew.cell? ⟨g, 0, none⟩ = some (.slice none 0 0) := (blk_cell k2 0).trans rfl
 have hd1 : w1.drew.cell? ⟨g, 1, none⟩ = some (.int .i64 0) := (blk_cell k2 1).trans rfl
 have G2 := Aside0.mk (show w.grownBy w1.drew none from ⟨hgr.os, hgr.tape, hgr.output, hgr.size, hgr.block⟩)
 have hh2 := Aside0.mk (show w1.drew.heap = w1.heap from rfl)
 generalize w1.drew = w2 at k2 hd0 hd1 hh2 G2 ⊢
 go_wp2
 have hcut := cut_from (P := Try.prog) 28 42 .i64 Try.underlying28 hi 4 hs (some ⟨w.heap.size, 0, none⟩) M M 0 (Int.le_refl _) (by omega)
 have e1 : ((some (⟨w.heap.size, 0, none⟩ : Addr)).map (·.add ((0 : Int).toNat * 4))) = some ⟨w.heap.size, 0, none⟩ := rfl
 simp only [e1, ite_self, Int.toNat_zero, Nat.sub_zero] at hcut
 go_still_tail 12, (by kernel_rfl)
 change wpList _ _ _ _ _ w2.drew
 have k3 := blk_drew k2
 have he0 : w2.drew.cell? ⟨g, 0, none⟩ = some (.slice none 0 0) := (blk_cell k3 0).trans rfl
 have he1 : w2.drew.cell? ⟨g, 1, none⟩ = some (.int .i64 0) := (blk_cell k3 1).trans rfl
 have f0 := blk_frozen k3 0
 have f1 := blk_frozen k3 1
 have G3 := Aside0.mk (show w.grownBy w2.drew none from ⟨G2.out.os, G2.out.tape, G2.out.output, G2.out.size, G2.out.block⟩)
 clear G2
 have hh3 := Aside0.mk (show w2.drew.heap = w1.heap from hh2.out)
 clear hh2
 generalize w2.drew = w3 at k3 he0 he1 f0 f1 hh3 G3 ⊢
 go_wp2
 go_end0
 obtain ⟨_, ⟨hn, _⟩ | ⟨r, cap, cur, hv, hb_, hcur, _, _, hsz, htk⟩⟩ := ho
 · cases hn
 · cases hv
   have hne : w.heap.size ≠ g := Nat.ne_of_gt (blk_lt h)
   refine ⟨rfl, w.heap.size, cur, Nat.le_refl _, ?_, ?_, hsz, fun v hv => ?_, ?_⟩
   · refine blk_put (cs := qcells (some ⟨w.heap.size, 0, none⟩) M M 0 n room i o) ?_ 1 _ rfl
     refine blk_put (cs := qcells none 0 0 0 n room i o) ?_ 0 _ rfl
     exact k3
   · refine blk_far ?_ hne _
     refine blk_far ?_ hne _
     rw [hh3.out]
     exact hcur
   · rw [← List.take_of_length_le (show cur.toList.length ≤ M * 4 by simpa using Nat.le_of_eq hsz), htk] at hv
     exact made_one _ _ (by decide) (by decide) v hv
   · have F0 : Fr w w3 (· = g) := ⟨G3.out.os, G3.out.tape, G3.out.output, G3.out.size, fun k hk _ => G3.out.block k hk (by simp)⟩
     exact (F0.set (fun _ => rfl) _).set (fun _ => rfl) _
/-- What grow leaves, whatever the ring was. -/
def GrewR (w : World) (g : Nat) (n room i o N : Int) (ro : Option Nat) (es : List (List Value)) (e : Ending) (w' : World) : Prop := e = .returned (.tuple #[]) ∧ ∃ (ro' : Option Nat) (l' first' : Nat), N ≤ l' ∧ l' ≤ 131072 ∧ w'.heap[g]? = some (.cells (qcells (ro'.map fun r => ⟨r, 0, none⟩) l' l' first' n room i o) 56 (0, 0)) ∧ Ring w' ro' l' first' es ∧ Fr w w' (· = g) ∧ (ro' = ro ∨ ∃ r, ro' = some r ∧ w.heap.size ≤ r)
theorem grow_calls (N : Int) (ro : Option Nat) (es : List (List Value)) (h2 : N ≤ 65536) (hl : l ≤ 131072) (h : w.heap[g]? = some (.cells (qcells (ro.map fun r => ⟨r, 0, none⟩) l l first n room i o) 56 (0, 0))) (hR : Ring w ro l first es) : Calls Try.prog 20 #[.pointer (some ⟨g, 0, none⟩), .int .i64 N] w (GrewR w g n room i o N ro es) := by
 by_cases hN : N ≤ l
 · refine (grow_fits _ _ N h hN).mono ?_
   rintro e w' ⟨rfl, rfl⟩
   exact ⟨rfl, ro, l, first, hN, hl, h, hR, Fr.refl _ _, .inl rfl⟩
 · obtain ⟨hf, ⟨rfl, rfl, rfl⟩ | ⟨r, cur, rfl, h1, h3, h4, h5, h6⟩⟩ := hR
   · obtain ⟨M, hM⟩ : ∃ M : Nat, (if N < 4 then 4 else N) = (M : Int) := ⟨(if N < 4 then 4 else N).toNat, by split <;> omega⟩
     refine (grow_new N M (by omega) h2 hM h).mono ?_
     rintro e w' ⟨rfl, r, cur, hr, hg, hc, hs, h1, hF⟩
     have he : es = [] := List.eq_nil_of_length_eq_zero (by omega)
     subst he
     have hM1 : 0 < M ∧ N ≤ M ∧ M ≤ 131072 := by split at hM <;> omega
     exact ⟨rfl, some r, M, 0, hM1.2.1, hM1.2.2, hg, ⟨Nat.zero_le _, .inr ⟨r, cur, rfl, hM1.1, hc, hs, h1, fun j e he => by simp at he⟩⟩, hF, .inr ⟨r, rfl, hr⟩⟩
   · obtain ⟨M, hM⟩ : ∃ M : Nat, mx (mx N (2 * l)) 4 = (M : Int) := ⟨(mx (mx N (2 * l)) 4).toNat, by unfold mx; (repeat' split) <;> omega⟩
     have hM1 : N ≤ M ∧ 2 * l ≤ M ∧ M ≤ 262144 := by unfold mx at hM; (repeat' split at hM) <;> omega
     refine (grow_more N M cur (by omega) h2 hM h1 h h3 h4 h5).mono ?_
     rintro e w' ⟨rfl, r', z, hr, hg, hz, hz1, hc, hF⟩
     have hM2 : M ≤ 131072 := by unfold mx at hM; (repeat' split at hM) <;> omega
     refine ⟨rfl, some r', M, 0, hM1.1, hM2, hg, ⟨by omega, .inr ⟨r', _, rfl, by omega, hc, ?_, ?_, ?_⟩⟩, hF, .inr ⟨r', rfl, hr⟩⟩
     · have : cur.toList.length = l * 4 := by simpa using h4
       simp [hz, h4]; omega
     · intro v hv
       simp only [] at hv
       rcases List.mem_append.1 hv with hv | hv
       · rcases List.mem_append.1 hv with hv | hv
         · exact h5 v (List.mem_of_mem_drop hv)
         · exact h5 v (List.mem_of_mem_take hv)
       · exact hz1 v (List.mem_of_mem_drop hv)
     · intro j e hj
       have := copy_plain cur.toList z l first M es (by simpa using h4) hz (by omega) h1 hf (fun j e hj => by
         obtain ⟨a, b⟩ := h6 j e hj
         exact ⟨a, fun t ht => by simpa using b t ht⟩) j e hj
       exact ⟨this.1, fun t ht => by simpa using this.2 t ht⟩
end
end Go.Proofs.Ytbaboemhjcdpbaa.Q
