/- hold's simple methods; slices.Delete of one. -/
import Derived.Test.YtednmkmhileikaaProg
import Derived.Below
import Derived.Deep.Draws
import Derived.Deep.AppendLies
import Derived.Maps.AppendAt
import Derived.OwnWalk
import Derived.Laws.BytesArg
import Derived.Laws.MakeOwn
import Derived.Laws.OwnMore
import Derived.Deep.OwnRows
import Derived.Tactics
import Derived.Lib.ConvBytes
import Derived.Laws.Slices
import Derived.WalkKit
import Derived.KernelRfl
import Derived.RowKit3
import Derived.Deep.LoopGhost
import Derived.Deep.QuietTactic
import Derived.BigQuiet
import Derived.WideLaws
import Derived.Deep.DeepCutAuto
import Derived.Deep.CutBlock
import Derived.Deep.RegionHeld3
import Derived.Laws.Rows
import Derived.Lib.AppendStr
import Derived.ArgAppend
import Derived.Laws.IdiomCopy
import Derived.OrdersHeld
import Derived.Laws.BitsLemmas
import Derived.RowKit
import Derived.Test.YtednmkmhileikaaWWords
import Derived.Test.YtednmkmhileikaaWLast
import Derived.Test.YtednmkmhileikaaWTab
import Derived.Test.YtednmkmhileikaaWApart
import Derived.Test.YtednmkmhileikaaWArr
import Derived.Test.YtednmkmhileikaaWFoot
import Derived.Test.YtednmkmhileikaaWKept
import Derived.Test.YtednmkmhileikaaWShare
import Derived.Test.YtednmkmhileikaaWN
import Derived.Test.YtednmkmhileikaaWEqStruct
import Derived.Test.YtednmkmhileikaaWRepsOne
import Derived.Test.YtednmkmhileikaaWInvWords
import Derived.Test.YtednmkmhileikaaWGuard
import Derived.Test.YtednmkmhileikaaWNEv
import Derived.Test.YtednmkmhileikaaWMore
import Derived.StillTailTactics
import Derived.Laws.CopyRow
import Derived.Laws.ResultCell
import Derived.Lib.SliceRun
import Derived.Test.YtednmkmhileikaaOHoldPlaysx0
namespace Go.Proofs.Ytednmkmhileikaa.G
open Go.RowKit Go.Proofs.YtednmkmhileikaaW.PrintWords Go.Proofs.YtednmkmhileikaaW.PrintLast Go.Proofs.YtednmkmhileikaaW.PrintMore
set_option linter.unusedVariables false
set_option linter.unusedSimpArgs false
/-- What a call leaves of what was there: all but the blocks of S. -/
structure Fr (w w' : World) (S : Nat → Prop) : Prop where
  os : w'.os = w.os
  tape : w'.tape = w.tape
  output : w'.output = w.output
  size : w.heap.size ≤ w'.heap.size
  block : ∀ k, k < w.heap.size → ¬ S k → w'.heap[k]? = w.heap[k]?
theorem Fr.refl (w : World) (S : Nat → Prop) : Fr w w S := ⟨rfl, rfl, rfl, Nat.le_refl _, fun _ _ _ => rfl⟩
theorem Fr.of_below {w w' : World} (h : Below w.heap.size w w') (S : Nat → Prop) : Fr w w' S := ⟨h.os, h.tape, h.output, h.size, fun k hk _ => h.block k hk⟩
theorem Fr.mono {w w' : World} {S S' : Nat → Prop} (h : Fr w w' S) (hS : ∀ k, k < w.heap.size → S k → S' k) : Fr w w' S' := ⟨h.os, h.tape, h.output, h.size, fun k hk hn => h.block k hk (fun hs => hn (hS k hk hs))⟩
theorem Fr.trans {a b c : World} {S S' : Nat → Prop} (h : Fr a b S) (k : Fr b c S') (hS : ∀ i, i < a.heap.size → S' i → S i) : Fr a c S :=
  ⟨k.os.trans h.os, k.tape.trans h.tape, k.output.trans h.output, Nat.le_trans h.size k.size, fun i hi hn => (k.block i (Nat.lt_of_lt_of_le hi h.size) (fun hs => hn (hS i hi hs))).trans (h.block i hi hn)⟩
theorem Fr.below {B : Nat} {w0 w w' : World} {S : Nat → Prop} (hB : Below B w0 w) (h : Fr w w' S) (hs : B ≤ w.heap.size) (hS : ∀ k, S k → B ≤ k) : Below B w0 w' :=
  hB.trans ⟨h.os, h.tape, h.output, h.size, fun k hk => h.block k (Nat.lt_of_lt_of_le hk hs) (fun hk' => absurd (hS k hk') (by omega))⟩
theorem Fr.drewN {w w' : World} {S : Nat → Prop} (h : Fr w w' S) (n : Nat) : Fr w (w'.drewN n) S := ⟨h.os, h.tape, h.output, h.size, h.block⟩
theorem Fr.drew {w w' : World} {S : Nat → Prop} (h : Fr w w' S) : Fr w w'.drew S := ⟨h.os, h.tape, h.output, h.size, h.block⟩
theorem setCell_size (w : World) (p : Addr) (v : Value) : (w.setCell p v).heap.size = w.heap.size := by simp [World.setCell]
theorem Fr.set {w w' : World} {S : Nat → Prop} (h : Fr w w' S) {p : Addr} (hp : p.block < w.heap.size → S p.block) (v : Value) : Fr w (w'.setCell p v) S :=
  ⟨h.os, h.tape, h.output, by rw [setCell_size]; exact h.size, fun k hk hn => (Below.heap_setCell _ _ _ _ (fun e => hn (by subst e; exact hp hk))).trans (h.block k hk hn)⟩
theorem Fr.setRow {w w' : World} {S : Nat → Prop} (h : Fr w w' S) {g : Nat} (hp : g < w.heap.size → S g) (cs : Array Value) : Fr w (w'.setRow g cs) S :=
  ⟨h.os, h.tape, h.output, by rw [setRow_size]; exact h.size, fun k hk hn => (setRow_other _ _ _ _ (fun e => hn (by subst e; exact hp hk))).trans (h.block k hk hn)⟩
theorem Fr.grown {w w' w2 : World} {S : Nat → Prop} {row : Option Nat} (h : Fr w w' S) (hg : w'.grownBy w2 row) (hr : ∀ k, row = some k → k < w.heap.size → S k) : Fr w w2 S :=
  ⟨hg.os.trans h.os, hg.tape.trans h.tape, hg.output.trans h.output, Nat.le_trans h.size hg.size, fun k hk hn => (hg.block k (Nat.lt_of_lt_of_le hk h.size) (fun e => hn (hr k e.symm hk))).trans (h.block k hk hn)⟩
theorem Fr.keep {w w' : World} {S : Nat → Prop} (h : Fr w w' S) {k : Nat} {o : Obj} (hb : w.heap[k]? = some o) (hn : ¬ S k) : w'.heap[k]? = some o := (h.block k (blk_lt hb) hn).trans hb
section
variable {P : Program}
/-- copy, elements of several cells. -/
theorem run_copy_cells (w : World) (dT sT ty elem : TypeId) (s g o dLen dCap : Nat) (a : Addr) (sLen sCap : Nat) (cur : Array Value) (t : TypeId) (cs : List Value)
    (hu : P.underlying dT = some (.slice elem)) (hs : (P.info? elem).map (·.size) = some s)
    (hg : w.heap[g]? = some (.cells cur t (0, 0))) (hn : cs.length = Nat.min sLen dLen * s)
    (hsrc : ∀ j v, cs[j]? = some v → w.cell? (a.add j) = some v) (hfit : o + cs.length ≤ cur.size) (h1 : ∀ v ∈ cs, v.oneCell' = true) :
    (Builtin.copy_ #[dT, sT] ty #[.slice (some ⟨g, o, none⟩) dLen dCap, .slice (some a) sLen sCap]).run P w =
      .ok (goInt (Nat.min sLen dLen)) (w.setRow g (cur.toList.take o ++ cs ++ cur.toList.drop (o + cs.length)).toArray) := by
  have hl := run_loadCells_list (P := P) w a cs hsrc
  have hst := run_storeCells_at P g o t cs 0 cur w hg (by simpa using hfit) h1
  cases hq : P.info? elem with
  | none => simp [hq] at hs
  | some i =>
    have hi : i.size = s := by simpa [hq] using hs
    simp [Builtin.copy_, run_underlying hu, Builtin.lenOf, Builtin.firstCells, sizeOf, typeInfo, hq, hi, ← hn, hl, hst]
end
theorem cells_at {w : World} {r : Nat} {cur : Array Value} {t : TypeId} (h : w.heap[r]? = some (.cells cur t (0, 0))) (o : Nat) (cs : List Value) (hcs : ∀ j v, cs[j]? = some v → cur[o + j]? = some v) : ∀ j v, cs[j]? = some v → w.cell? ((⟨r, o, none⟩ : Addr).add j) = some v := by
  intro j v hj
  have e : (⟨r, o, none⟩ : Addr).add j = ⟨r, o + j, none⟩ := by unfold Addr.add; split <;> simp_all
  rw [e, blk_cell h, hcs j v hj]
/-- A list of changes: nil, or in block r from its head on, c of them have room. -/
def Flat (w : World) (ro : Option Nat) (c : Nat) (es : List (List Value)) : Prop :=
  es.length ≤ c ∧ ((ro = none ∧ c = 0) ∨ ∃ r cur, ro = some r ∧ w.heap[r]? = some (.cells cur 33 (0, 0)) ∧ cur.size = c * 4 ∧ (∀ v ∈ cur.toList, v.oneCell' = true) ∧
    ∀ j e, es[j]? = some e → e.length = 4 ∧ ∀ t, t < 4 → cur[j * 4 + t]? = e[t]?)
theorem Flat.keep {w w' : World} {ro : Option Nat} {c : Nat} {es : List (List Value)} (h : Flat w ro c es) (hk : ∀ r, ro = some r → w'.heap[r]? = w.heap[r]?) : Flat w' ro c es := by
  obtain ⟨hf, h | ⟨r, cur, rfl, h2, h3⟩⟩ := h
  · exact ⟨hf, .inl h⟩
  · exact ⟨hf, .inr ⟨r, cur, rfl, by rw [hk r rfl]; exact h2, h3⟩⟩
end Go.Proofs.Ytednmkmhileikaa.G
namespace Go.Proofs.Ytednmkmhileikaa.G
open Go.RowKit Go.Proofs.YtednmkmhileikaaW.PrintWords Go.Proofs.YtednmkmhileikaaW.PrintLast Go.Proofs.YtednmkmhileikaaW.PrintMore Go.Proofs.Ytednmkmhileikaa.PHoldPlays
attribute [local go_sem] max2_int min2_int max_two min_two max_three min_three max_four min_four
set_option linter.unusedVariables false
set_option linter.unusedSimpArgs false
set_option maxHeartbeats 1000000 in
theorem new_calls (w : World) : Calls Try.prog 8 #[] w fun e w' => ∃ g, e = .returned (.pointer (some ⟨g, 0, none⟩)) ∧ w.heap.size ≤ g ∧ w'.heap[g]? = some (.cells #[.slice none 0 0] 63 (0, 0)) ∧ Below w.heap.size w w' := by
 go_enter Try.func8, Try.ntmps8
 go_wp2
 go_ret
 exact ⟨w.heap.size, rfl, Nat.le_refl _, blk_new w _, below_alloc (Below.refl _ _) _⟩
def Z4 : List Value := [.slice none 0 0, .int .i64 0, .int .i64 0, .int .i64 0]
theorem zc4 : (Builtin.zeroCells (Value.agg #[.slice none 0 0, .int .i64 0, .int .i64 0, .int .i64 0]).cells 1).toList = Z4 := by kernel_rfl
/-- What lies behind a row of one's own may be written over. -/
theorem R_tail {α : Type} {d : Kd α} {e base : Nat} {ok : Nat → Prop} {W : World} {g n c : Nat} {xs : List α} {cur cur2 : Array Value} (HO : d.R e W base ok (.slice (some ⟨g, 0, none⟩) n c) xs) (hc : W.heap[g]? = some (.cells cur e (0, 0))) (hs : cur2.size = cur.size) (ht : cur2.toList.take (n * d.sz) = cur.toList.take (n * d.sz)) : d.R e (W.setRow g cur2) base ok (.slice (some ⟨g, 0, none⟩) n c) xs := by
 obtain ⟨hn, _, _⟩ := Kd.R_reads' HO
 obtain ⟨hok, inner, ⟨hl, ho⟩, hr⟩ := HO
 refine ⟨hok, inner, ⟨hl, ?_⟩, hr.imp_ (fun p cs hp => Kd.M_step hp (fun k hk _ => setRow_other _ _ _ _ (fun h => hk.2 (by rw [h]; rfl))))⟩
 rcases ho with ⟨h, _⟩ | ⟨g', cap, cur', he, hb, hh, h1, h2, h3, h4⟩
 · cases h
 · cases he
   rw [hc] at hh
   cases hh
   refine .inr ⟨g, c, cur2, rfl, hb, setRow_heap _ _ _ _ _ _ hc, h1, h2, by rw [hs]; exact h3, ?_⟩
   rw [← h4, ← hn]
   exact ht
theorem run_clear_one {P : Program} (w : World) (t ty e : TypeId) (z : Value) (hu : P.underlying t = some (.slice e)) (hz : (zeroValue e).run P w = .ok z w) (g o cap : Nat) (cur : Array Value) (te : TypeId) (hg : w.heap[g]? = some (.cells cur te (0, 0))) (zs : List Value) (hzs : (Builtin.zeroCells z.cells 1).toList = zs) (hfit : o + zs.length ≤ cur.size) (h1 : ∀ v ∈ zs, v.oneCell' = true) (m : Nat) (hm : m = 1) :
 (Builtin.clear_ #[t] ty #[.slice (some ⟨g, o, none⟩) m cap]).run P w = .ok (.tuple #[]) (w.setRow g (cur.toList.take o ++ zs ++ cur.toList.drop (o + zs.length)).toArray) := by
 subst hm
 have hst := run_storeCells_at P g o te zs 0 cur w hg (by simpa using hfit) h1
 simp [Builtin.clear_, run_underlying hu, hz, hzs, hst]
section
variable {h c n : Nat} {A : Option Addr} {w : World}
set_option maxHeartbeats 1000000 in
theorem len_calls (hb : w.heap[h]? = some (.cells #[.slice A n c] 63 (0, 0))) : Calls Try.prog 19 #[.pointer (some ⟨h, 0, none⟩)] w fun e w' => e = .returned (.int .i64 n) ∧ ∃ nd, w' = w.drewN nd := by
 have h0 : w.cell? ⟨h, 0, none⟩ = some (.slice A n c) := (blk_cell hb 0).trans rfl
 go_enter Try.func19, Try.ntmps19
 go_wp2
 go_ret
 exact ⟨rfl, 0, rfl⟩
end
/-- .. of a row whose elements share. -/
theorem N_tail {e base : Nat} {ok : Nat → Prop} {W : World} {g n c : Nat} {xs : List S33} {cur cur2 : Array Value} (HO : Kd.N k33 e W base ok (.slice (some ⟨g, 0, none⟩) n c) xs) (hc : W.heap[g]? = some (.cells cur e (0, 0))) (hs : cur2.size = cur.size) (ht : cur2.toList.take (n * 4) = cur.toList.take (n * 4)) : Kd.N k33 e (W.setRow g cur2) base ok (.slice (some ⟨g, 0, none⟩) n c) xs := by
 obtain ⟨h0, rows, hl, hR, hf⟩ := HO
 refine ⟨h0, rows, hl, R_tail hR hc hs ht, fun j x cs hx hcs => Kd.FK_step (hf j x cs hx hcs) (fun k hk _ => setRow_other _ _ _ _ (fun h => hk.2 (by rw [h]; rfl)))⟩
/-- What Delete leaves. -/
def Deleted (w : World) (base : Nat) (ok : Nat → Prop) (g n c i : Nat) (us : List S33) (e : Ending) (w' : World) : Prop := e = .returned (.slice (some ⟨g, 0, none⟩) (n - 1) c) ∧ Kd.N k33 33 w' base ok (.slice (some ⟨g, 0, none⟩) (n - 1) c) (us.eraseIdx i) ∧ Fr w w' (· = g)
set_option maxHeartbeats 2000000 in
set_option maxRecDepth 100000 in
theorem delete_calls {w : World} {base : Nat} {ok : Nat → Prop} {g n c i : Nat} {us : List S33} (HO : Kd.N k33 33 w base ok (.slice (some ⟨g, 0, none⟩) n c) us) (hi : i < n) (hn : n ≤ 1000000) : Calls Try.prog 30 #[.slice (some ⟨g, 0, none⟩) n c, .int .i64 i, .int .i64 ((i : Int) + 1)] w (Deleted w base ok g n c i us) := by
 obtain ⟨hnl, hnc, _⟩ := Kd.N_reads' HO
 obtain ⟨i0, hi0, hz0, hs0, hb0⟩ := info_parts info33
 have d1 : ((i : Int) == (i : Int) + 1) = false := by rw [beq_eq_false_iff_ne]; omega
 replace HO := Aside0.mk HO
 have hbase : base ≤ w.heap.size := Nat.le_trans (Kd.N_base HO.out g rfl) (Nat.le_of_lt (Kd.N_lt HO.out g rfl))
 have hi33 : (Try.prog.info? 33).map (·.size) = some k33.sz := by rw [hi0]; simp [hs0]; rfl
 have hcut1 : ∀ X, (Instr.slice 29 (.slice (some ⟨g, 0, none⟩) n c) none (some (.int .i64 (i : Int))) none).run Try.prog X = .ok (.slice (some ⟨g, 0, none⟩) i c) X := by
  intro X
  rw [cut_to (P := Try.prog) 29 33 .i64 Try.underlying29 hi0 (some ⟨g, 0, none⟩) n c (i : Int) (by omega) (by omega) hnc X]
  simp
 obtain ⟨A5, hA5⟩ : ∃ A, A = if c = i + 1 then some ⟨g, 0, none⟩ else (some (⟨g, 0, none⟩ : Addr)).map (·.add ((i + 1) * k33.sz)) := ⟨_, rfl⟩
 have hcut2 : ∀ X, (Instr.slice 29 (.slice (some ⟨g, 0, none⟩) n c) (some (.int .i64 ((i : Int) + 1))) none none).run Try.prog X = .ok (.slice A5 (n - (i + 1)) (c - (i + 1))) X := by
  intro X
  rw [cut_from (P := Try.prog) 29 33 .i64 Try.underlying29 hi0 4 hs0 (some ⟨g, 0, none⟩) n c ((i : Int) + 1) (by omega) (by omega) X]
  have e : ((i : Int) + 1).toNat = i + 1 := by omega
  rw [e, hA5]
  rfl
 replace hA5 := Aside0.mk hA5
 have hcz : (Try.prog.info? 33).map (·.size) = some 4 := by rw [hi0]; simp [hs0]
 clear hnl
 go_enter Try.func30, Try.ntmps30
 go_wp2_with fail
 go_still_tail 6, (by kernel_rfl)
 change wpList _ _ _ _ _ w.drew
 have O2 := Aside0.mk (Kd.N_drew HO.out)
 have F2 := Aside0.mk (show Fr w w.drew (· = g) from (Fr.refl _ _).drew)
 have hb2 : base ≤ w.drew.heap.size := hbase
 generalize w.drew = w2 at O2 F2 hb2 ⊢
 go_wp2_with (((with_reducible refine gate_builtin (b := .append) (xs := #[.tmp 22, .tmp 25]) rfl ?_); at_builtin; refine Kd.N_delete k33 (w0 := w2) base rfl (.tmp 22) (.tmp 25) 29 33 rfl Try.underlying29 hi33 (n := n) (k := i) rfl rfl hA5.out rfl O2.out hi (Below.refl _ _) hb2 ?_; intro w3 hR3 _ hg3; have O3 := Aside0.mk hR3; have F3 := Aside0.mk (F2.out.grown hg3 (fun k hk _ => by injection hk with hk; exact hk.symm)); clear hR3 hg3))
 have hn1 := (Kd.N_reads' O3.out).1
 obtain ⟨cur, hcur, hcs⟩ : ∃ cur : Array Value, w3.heap[g]? = some (.cells cur 33 (0, 0)) ∧ cur.size = c * 4 := by
  obtain ⟨_, rows, _, ⟨_, inner, ⟨_, ⟨h0, _⟩ | ⟨g', cap, cur, hv, _, hh, _, _, hcs, _⟩⟩, _⟩, _⟩ := O3.out
  · cases h0
  · injection hv with ha _ hc
    injection ha with ha
    injection ha with ha
    rw [ha, hc]
    exact ⟨cur, hh, hcs⟩
 have hz : (zeroValue 33).run Try.prog w3 = .ok (.agg #[.slice none 0 0, .int .i64 0, .int .i64 0, .int .i64 0]) w3 := by kernel_rfl
 have hcl := run_clear_one (P := Try.prog) w3 29 0 33 _ Try.underlying29 hz g ((n - 1) * 4) (c - (n - 1)) cur 33 hcur Z4 zc4 (by simp [Z4]; omega) (by simp [Z4]; decide) (n - (n - 1)) (by omega)
 obtain ⟨w4, hw4⟩ : ∃ w4, w4 = w3.setRow g (cur.toList.take ((n - 1) * 4) ++ Z4 ++ cur.toList.drop ((n - 1) * 4 + Z4.length)).toArray := ⟨_, rfl⟩
 rw [← hw4] at hcl
 have O4 := Aside0.mk (N_tail O3.out hcur (cur2 := (cur.toList.take ((n - 1) * 4) ++ Z4 ++ cur.toList.drop ((n - 1) * 4 + Z4.length)).toArray) (by simp [Z4]; omega) (by
  simp only []
  rw [List.append_assoc, List.take_append_of_le_length (by simp; omega), List.take_take, Nat.min_self]))
 have F4 := Aside0.mk (F3.out.setRow (g := g) (fun _ => rfl) (cur.toList.take ((n - 1) * 4) ++ Z4 ++ cur.toList.drop ((n - 1) * 4 + Z4.length)).toArray)
 rw [← hw4] at O4 F4
 clear hw4
 rw [hcl]
 clear hcl hcur hcs O3 F3 hn1
 go_wp2
 go_ret
 exact ⟨rfl, O4.out, F4.out⟩
end Go.Proofs.Ytednmkmhileikaa.G
