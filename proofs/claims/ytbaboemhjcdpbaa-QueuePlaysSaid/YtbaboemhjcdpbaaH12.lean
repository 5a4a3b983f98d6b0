/- QueuePlays: words for what the law keeps beside the queue. -/
import Derived.Test.YtbaboemhjcdpbaaH11
import Derived.Test.YtbaboemhjcdpbaaH7
import Derived.Test.YtbaboemhjcdpbaaOQueuePlaysx5
import Derived.Test.YtbaboemhjcdpbaaOQueuePlaysx6
import Derived.Test.YtbaboemhjcdpbaaOQueuePlaysx9
namespace Go.Proofs.Ytbaboemhjcdpbaa.Q
open Go.RowKit Go.Proofs.YtbaboemhjcdpbaaW.PrintWords Go.Proofs.YtbaboemhjcdpbaaW.PrintLast Go.Proofs.YtbaboemhjcdpbaaW.PrintMore Go.Proofs.Ytbaboemhjcdpbaa.PQueuePlays
attribute [local go_sem] max2_int min2_int max_two min_two max_three min_three max_four min_four
set_option linter.unusedVariables false
set_option linter.unusedSimpArgs false
theorem rr_imp {α : Type} {R R' : α → List Value → Prop} {size : Nat} {w : World} {A : Option Addr} {n : Nat} {ps : List α} (h : ReadsRow R size w A n ps) (hR : ∀ p c, R p c → R' p c) : ReadsRow R' size w A n ps := h.imp_ (Below.refl _ _) hR
theorem rr_mid {α : Type} {R : α → List Value → Prop} {w : World} {A : Option Addr} {n c : Nat} {ps : List α} (h : ReadsRow R 4 w A n ps) (a b : Nat) (hab : a ≤ b) (hb : b ≤ n) (hc : n ≤ c) : ReadsRow R 4 w (if c = a then A else A.map (·.add (a * 4))) (b - a) ((ps.take b).drop a) := by
 have hl := h.1
 refine ⟨by simp; omega, by have := h.2.1; omega, fun hp => ?_⟩
 obtain ⟨ad, rfl, hx⟩ := h.2.2 (by omega)
 rw [if_neg (by omega)]
 refine ⟨_, rfl, fun j p hj => ?_⟩
 rw [List.getElem?_drop, List.getElem?_take] at hj
 split at hj
 · obtain ⟨c, h1, h2, h3⟩ := hx _ _ hj
   refine ⟨c, h1, h2, fun i u hi => ?_⟩
   have e0 : ∀ x y : Nat, (ad.add x).add y = ad.add (x + y) := by
    intro x y
    unfold Addr.add
    by_cases h1 : x = 0 <;> by_cases h2 : y = 0 <;> simp [h1, h2, Nat.add_assoc]
   have e : (ad.add (a * 4)).add (j * 4 + i) = ad.add ((a + j) * 4 + i) := by
    rw [e0]; congr 1; omega
   rw [e]
   exact h3 i u hi
 · cases hj
/-- A list of changes that stays as it is whatever the queue's calls do; what its rows lead to came in by w0. -/
def Rd (w0 w : World) (g : Nat) (ro : Option Nat) (W : Option Addr) (us : List S42) : Prop := ∀ w', Fr w w' (Own g ro) → ReadsRow (k42.K w0) 4 w' W us.length us
section
variable {w0 w w2 : World} {g : Nat} {ro ro2 : Option Nat} {W : Option Addr} {us : List S42} {room i o : Int}
theorem Rd.now (h : Rd w0 w g ro W us) : ReadsRow (k42.K w0) 4 w W us.length us := h w (Fr.refl _ _)
theorem Rd.C (h : Rd w0 w g ro W us) (hB : Below w0.heap.size w0 w) : Kd.C k42 w W us.length us := rr_imp h.now (fun p c hp => k42.K_below hB hp)
theorem Rd.step (h : Rd w0 w g ro W us) (hF : Fr w w2 (Own g ro)) (hr : ro2 = ro ∨ ∃ r, ro2 = some r ∧ w.heap.size ≤ r) : Rd w0 w2 g ro2 W us := fun w' h' => h w' (hF.trans h' (fun b hb hO => by
 rcases hO with rfl | hO
 · exact .inl rfl
 · rcases hr with rfl | ⟨r, rfl, hle⟩
   · exact .inr hO
   · injection hO with hO; omega))
theorem Rd.below (h : Rd w0 w g ro W us) (hB : Below w.heap.size w w2) : Rd w0 w2 g ro W us := h.step (Fr.of_below hB _) (.inl rfl)
theorem Rd.mid {c : Nat} (h : Rd w0 w g ro W us) (a b : Nat) (hab : a ≤ b) (hb : b ≤ us.length) (hc : us.length ≤ c) (vs : List S42) (hv : (us.take b).drop a = vs) : Rd w0 w g ro (if c = a then W else W.map (·.add (a * 4))) vs := fun w' h' => by
 have h1 := rr_mid (h w' h') a b hab hb hc
 rw [hv] at h1
 have hl : vs.length = b - a := by rw [← hv]; simp; omega
 rw [hl]
 exact h1
theorem Rd.head {u : S42} {c : Nat} (h : Rd w0 w g ro W (u :: us)) (hc : (u :: us).length ≤ c) : Rd w0 w g ro W [u] := by
 have h1 := h.mid (c := c) 0 1 (by omega) (by simp) hc [u] (by simp)
 have hc1 : c ≠ 0 := by simp at hc; omega
 rw [if_neg hc1] at h1
 have e : (W.map fun x => x.add (0 * 4)) = W := by cases W <;> simp [Addr.add]
 rw [e] at h1
 exact h1
theorem Rd.tail {u : S42} {c : Nat} (h : Rd w0 w g ro W (u :: us)) (hc : (u :: us).length ≤ c) : Rd w0 w g ro (if c = 1 then W else W.map (·.add (1 * 4))) us := h.mid (c := c) 1 (us.length + 1) (by omega) (by simp) hc us (by simp)
theorem Rd.nil : Rd w0 w g ro none [] := fun w' _ => ⟨rfl, by simp, fun h => absurd h (by simp)⟩
theorem Rd.of_R {base : Nat} {n d : Nat} (h : Kd.R (Kd.fixed k42 w0) 42 w base (fun b => ¬ Own g ro b) (.slice W n d) us) : Rd w0 w g ro W us := fun w' h' => by
 have h1 := Kd.R_step h (fun b hb hlt => h'.block b hlt hb)
 obtain ⟨he, _, hC⟩ := Kd.R_reads' h1
 exact hC
theorem R_empty_new {w0 W : World} {ok : Nat → Prop} (hok : ok W.heap.size) : Kd.R (Kd.fixed k42 w0) 42 (W.alloc (.cells #[] 42)).drew W.heap.size ok (.slice (some ⟨W.heap.size, 0, none⟩) 0 0) [] :=
 ⟨fun k hk => by
   have : W.heap.size = k := by simpa [Value.ownBlock] using hk
   subst this
   exact hok, [], ⟨rfl, .inr ⟨W.heap.size, 0, #[], rfl, Nat.le_refl _, blk_drew (blk_new W _), Nat.le_refl _, by decide, rfl, rfl⟩⟩, Reps.none _ _⟩
theorem new_bad (room : Int) (h : room < 1 ∨ 65536 < room) (w : World) : Calls Try.prog 6 #[.int .i64 room] w fun e w' => e = .returned (.tuple #[.pointer none, .int .i64 1]) ∧ w' = w := by
 by_cases h1 : room < 1
 · have c1 : decide (room < 1) = true := decide_eq_true h1
   go_enter Try.func6, Try.ntmps6
   go_wp2
   go_ret2
   exact ⟨rfl, rfl⟩
 · have c1 : decide (room < 1) = false := decide_eq_false h1
   have c2 : decide (room > 65536) = true := decide_eq_true (by omega)
   go_enter Try.func6, Try.ntmps6
   go_wp2
   go_ret2
   exact ⟨rfl, rfl⟩
end
/-- All of them are changes of l's calls. -/
def From (l : List S36) (us : List S42) : Prop := ∀ u ∈ us, ∃ a ∈ l, u ∈ a.f1
/-- The plain facts that the walk asks for. -/
structure Good (l : List S36) (b : Bool) : Prop where
  much : ∃ k, runnellaw19_Much.f k l = some b
  few : b = false → l.length ≤ 100 ∧ ∀ a ∈ l, a.f1.length ≤ 60 ∧ ∀ u ∈ a.f1, u.f0.length < 4398046511104
  same : b = false → ∀ a ∈ l, ∀ u ∈ a.f1, ∃ k, runnelref07_Same.f k [u] [u] = some true
  lower : b = false → ∀ us : List S42, From l us → us.length ≤ 6000 → ∃ rs k, NewAt (us.map (·.f1)) rs ∧ runnelref07_Lower.f k us = some rs ∧ runnelref04_Same.f k rs rs = some true
theorem same_one (u : S42) (k : Nat) (h : runnelref07_Same.f k [u] [u] = some true) {w0 W : World} {bb : Nat} {B A : Option Addr} {d c : Nat} (hB : Below w0.heap.size w0 W) (hb : W.heap[bb]? = some (.cells #[.slice B u.f0.length d, .int .i64 u.f1.f0, .int .i64 u.f1.f1, .int .i64 u.f2] 42 (0, 0))) (hl : u.f0.length ≤ d) (hR : k65.C W B u.f0.length u.f0) (hA : ReadsRow (k42.K w0) 4 W A 1 [u]) (hc : 1 ≤ c) :
  Calls Try.prog 13 #[.slice (some ⟨bb, 0, none⟩) 1 1, .slice A 1 c] W fun e w' => e = .returned (.bool true) ∧ Below W.heap.size W w' := by
 have h1 : Kd.C k42 W (some ⟨bb, 0, none⟩) [u].length [u] := C42_of_block hb [u] (by simp) (fun j x hj => by
  match j, hj with
  | 0, hj =>
   cases hj
   exact ⟨_, rfl, k42_mk W u hl hR, fun i v hi => by match i, hi with | 0, hi => exact hi | 1, hi => exact hi | 2, hi => exact hi | 3, hi => exact hi | (n + 4), hi => cases hi⟩
  | (n + 1), hj => cases hj)
 have h2 : Kd.C k42 W A [u].length [u] := rr_imp hA (fun p c hp => k42.K_below hB hp)
 exact runnelref07_Same.calls k (some ⟨bb, 0, none⟩) 1 [u] A c [u] true W h1 (Nat.le_refl _) h2 hc h
end Go.Proofs.Ytbaboemhjcdpbaa.Q
