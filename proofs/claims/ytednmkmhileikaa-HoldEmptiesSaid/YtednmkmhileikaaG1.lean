/- Words for a hold's memory: the frame of a call, copies of several cells an element, a list of changes in one block. -/
import Derived.Test.YtednmkmhileikaaProg
import Derived.Below
import Derived.Deep.Draws
import Derived.Deep.AppendLies
import Derived.Maps.AppendAt
import Derived.OwnWalk
import Derived.Laws.BytesArg
import Derived.Laws.MakeOwn
import Derived.Laws.OwnMore
import Derived.Deep.OwnRows
import Derived.Tactics
import Derived.Lib.ConvBytes
import Derived.Laws.Slices
import Derived.WalkKit
import Derived.KernelRfl
import Derived.RowKit3
import Derived.Deep.LoopGhost
import Derived.Deep.QuietTactic
import Derived.BigQuiet
import Derived.WideLaws
import Derived.Deep.DeepCutAuto
import Derived.Deep.CutBlock
import Derived.Deep.RegionHeld3
import Derived.Laws.Rows
import Derived.Lib.AppendStr
import Derived.ArgAppend
import Derived.Laws.IdiomCopy
import Derived.OrdersHeld
import Derived.Laws.BitsLemmas
import Derived.RowKit
import Derived.Test.YtednmkmhileikaaWWords
import Derived.Test.YtednmkmhileikaaWLast
import Derived.Test.YtednmkmhileikaaWTab
import Derived.Test.YtednmkmhileikaaWFour
import Derived.Test.YtednmkmhileikaaWQPut
import Derived.Test.YtednmkmhileikaaWApart
import Derived.Test.YtednmkmhileikaaWArr
import Derived.Test.YtednmkmhileikaaWZeros
import Derived.Test.YtednmkmhileikaaWFoot
import Derived.Test.YtednmkmhileikaaWKept
import Derived.Test.YtednmkmhileikaaWShare
import Derived.Test.YtednmkmhileikaaWN
import Derived.Test.YtednmkmhileikaaWFootNe
import Derived.Test.YtednmkmhileikaaWAt
import Derived.Test.YtednmkmhileikaaWEqStruct
import Derived.Test.YtednmkmhileikaaWRepsOne
import Derived.Test.YtednmkmhileikaaWInv
import Derived.Test.YtednmkmhileikaaWInvWords
import Derived.Test.YtednmkmhileikaaWGuard
import Derived.Test.YtednmkmhileikaaWNEv
import Derived.Test.YtednmkmhileikaaWMore
import Derived.StillTailTactics
import Derived.Laws.CopyRow
import Derived.Laws.ResultCell
import Derived.Lib.SliceRun
namespace Go.Proofs.Ytednmkmhileikaa.G
open Go.RowKit Go.Proofs.YtednmkmhileikaaW.PrintWords Go.Proofs.YtednmkmhileikaaW.PrintLast Go.Proofs.YtednmkmhileikaaW.PrintMore
set_option linter.unusedVariables false
set_option linter.unusedSimpArgs false
/-- What a call leaves of what was there: all but the blocks of S. -/
structure Fr (w w' : World) (S : Nat → Prop) : Prop where
  os : w'.os = w.os
  tape : w'.tape = w.tape
  output : w'.output = w.output
  size : w.heap.size ≤ w'.heap.size
  block : ∀ k, k < w.heap.size → ¬ S k → w'.heap[k]? = w.heap[k]?
theorem Fr.refl (w : World) (S : Nat → Prop) : Fr w w S := ⟨rfl, rfl, rfl, Nat.le_refl _, fun _ _ _ => rfl⟩
theorem Fr.of_below {w w' : World} (h : Below w.heap.size w w') (S : Nat → Prop) : Fr w w' S := ⟨h.os, h.tape, h.output, h.size, fun k hk _ => h.block k hk⟩
theorem Fr.mono {w w' : World} {S S' : Nat → Prop} (h : Fr w w' S) (hS : ∀ k, k < w.heap.size → S k → S' k) : Fr w w' S' := ⟨h.os, h.tape, h.output, h.size, fun k hk hn => h.block k hk (fun hs => hn (hS k hk hs))⟩
theorem Fr.trans {a b c : World} {S S' : Nat → Prop} (h : Fr a b S) (k : Fr b c S') (hS : ∀ i, i < a.heap.size → S' i → S i) : Fr a c S :=
  ⟨k.os.trans h.os, k.tape.trans h.tape, k.output.trans h.output, Nat.le_trans h.size k.size, fun i hi hn => (k.block i (Nat.lt_of_lt_of_le hi h.size) (fun hs => hn (hS i hi hs))).trans (h.block i hi hn)⟩
theorem Fr.below {B : Nat} {w0 w w' : World} {S : Nat → Prop} (hB : Below B w0 w) (h : Fr w w' S) (hs : B ≤ w.heap.size) (hS : ∀ k, S k → B ≤ k) : Below B w0 w' :=
  hB.trans ⟨h.os, h.tape, h.output, h.size, fun k hk => h.block k (Nat.lt_of_lt_of_le hk hs) (fun hk' => absurd (hS k hk') (by omega))⟩
theorem Fr.drewN {w w' : World} {S : Nat → Prop} (h : Fr w w' S) (n : Nat) : Fr w (w'.drewN n) S := ⟨h.os, h.tape, h.output, h.size, h.block⟩
theorem Fr.drew {w w' : World} {S : Nat → Prop} (h : Fr w w' S) : Fr w w'.drew S := ⟨h.os, h.tape, h.output, h.size, h.block⟩
theorem setCell_size (w : World) (p : Addr) (v : Value) : (w.setCell p v).heap.size = w.heap.size := by simp [World.setCell]
theorem Fr.set {w w' : World} {S : Nat → Prop} (h : Fr w w' S) {p : Addr} (hp : p.block < w.heap.size → S p.block) (v : Value) : Fr w (w'.setCell p v) S :=
  ⟨h.os, h.tape, h.output, by rw [setCell_size]; exact h.size, fun k hk hn => (Below.heap_setCell _ _ _ _ (fun e => hn (by subst e; exact hp hk))).trans (h.block k hk hn)⟩
theorem Fr.setRow {w w' : World} {S : Nat → Prop} (h : Fr w w' S) {g : Nat} (hp : g < w.heap.size → S g) (cs : Array Value) : Fr w (w'.setRow g cs) S :=
  ⟨h.os, h.tape, h.output, by rw [setRow_size]; exact h.size, fun k hk hn => (setRow_other _ _ _ _ (fun e => hn (by subst e; exact hp hk))).trans (h.block k hk hn)⟩
theorem Fr.grown {w w' w2 : World} {S : Nat → Prop} {row : Option Nat} (h : Fr w w' S) (hg : w'.grownBy w2 row) (hr : ∀ k, row = some k → k < w.heap.size → S k) : Fr w w2 S :=
  ⟨hg.os.trans h.os, hg.tape.trans h.tape, hg.output.trans h.output, Nat.le_trans h.size hg.size, fun k hk hn => (hg.block k (Nat.lt_of_lt_of_le hk h.size) (fun e => hn (hr k e.symm hk))).trans (h.block k hk hn)⟩
theorem Fr.keep {w w' : World} {S : Nat → Prop} (h : Fr w w' S) {k : Nat} {o : Obj} (hb : w.heap[k]? = some o) (hn : ¬ S k) : w'.heap[k]? = some o := (h.block k (blk_lt hb) hn).trans hb
section
variable {P : Program}
/-- copy, elements of several cells. -/
theorem run_copy_cells (w : World) (dT sT ty elem : TypeId) (s g o dLen dCap : Nat) (a : Addr) (sLen sCap : Nat) (cur : Array Value) (t : TypeId) (cs : List Value)
    (hu : P.underlying dT = some (.slice elem)) (hs : (P.info? elem).map (·.size) = some s)
    (hg : w.heap[g]? = some (.cells cur t (0, 0))) (hn : cs.length = Nat.min sLen dLen * s)
    (hsrc : ∀ j v, cs[j]? = some v → w.cell? (a.add j) = some v) (hfit : o + cs.length ≤ cur.size) (h1 : ∀ v ∈ cs, v.oneCell' = true) :
    (Builtin.copy_ #[dT, sT] ty #[.slice (some ⟨g, o, none⟩) dLen dCap, .slice (some a) sLen sCap]).run P w =
      .ok (goInt (Nat.min sLen dLen)) (w.setRow g (cur.toList.take o ++ cs ++ cur.toList.drop (o + cs.length)).toArray) := by
  have hl := run_loadCells_list (P := P) w a cs hsrc
  have hst := run_storeCells_at P g o t cs 0 cur w hg (by simpa using hfit) h1
  cases hq : P.info? elem with
  | none => simp [hq] at hs
  | some i =>
    have hi : i.size = s := by simpa [hq] using hs
    simp [Builtin.copy_, run_underlying hu, Builtin.lenOf, Builtin.firstCells, sizeOf, typeInfo, hq, hi, ← hn, hl, hst]
end
theorem cells_at {w : World} {r : Nat} {cur : Array Value} {t : TypeId} (h : w.heap[r]? = some (.cells cur t (0, 0))) (o : Nat) (cs : List Value) (hcs : ∀ j v, cs[j]? = some v → cur[o + j]? = some v) : ∀ j v, cs[j]? = some v → w.cell? ((⟨r, o, none⟩ : Addr).add j) = some v := by
  intro j v hj
  have e : (⟨r, o, none⟩ : Addr).add j = ⟨r, o + j, none⟩ := by unfold Addr.add; split <;> simp_all
  rw [e, blk_cell h, hcs j v hj]
theorem blk_set4 {W : World} {r q : Nat} {t : TypeId} {cur : Array Value} {v0 v1 v2 v3 : Value} (hc : W.heap[r]? = some (.cells cur t (0, 0))) : ((((W.setCell ⟨r, q, none⟩ v0).setCell ⟨r, q + 1, none⟩ v1).setCell ⟨r, q + 2, none⟩ v2).setCell ⟨r, q + 3, none⟩ v3).heap[r]? = some (.cells ((((cur.setIfInBounds q v0).setIfInBounds (q + 1) v1).setIfInBounds (q + 2) v2).setIfInBounds (q + 3) v3) t (0, 0)) := blk_set (blk_set (blk_set (blk_set hc _ _) _ _) _ _) _ _
/-- A list of changes: nil, or in block r from its head on, c of them have room. -/
def Flat (w : World) (ro : Option Nat) (c : Nat) (es : List (List Value)) : Prop :=
  es.length ≤ c ∧ ((ro = none ∧ c = 0) ∨ ∃ r cur, ro = some r ∧ w.heap[r]? = some (.cells cur 33 (0, 0)) ∧ cur.size = c * 4 ∧ (∀ v ∈ cur.toList, v.oneCell' = true) ∧
    ∀ j e, es[j]? = some e → e.length = 4 ∧ ∀ t, t < 4 → cur[j * 4 + t]? = e[t]?)
theorem Flat.keep {w w' : World} {ro : Option Nat} {c : Nat} {es : List (List Value)} (h : Flat w ro c es) (hk : ∀ r, ro = some r → w'.heap[r]? = w.heap[r]?) : Flat w' ro c es := by
  obtain ⟨hf, h | ⟨r, cur, rfl, h2, h3⟩⟩ := h
  · exact ⟨hf, .inl h⟩
  · exact ⟨hf, .inr ⟨r, cur, rfl, by rw [hk r rfl]; exact h2, h3⟩⟩
end Go.Proofs.Ytednmkmhileikaa.G
