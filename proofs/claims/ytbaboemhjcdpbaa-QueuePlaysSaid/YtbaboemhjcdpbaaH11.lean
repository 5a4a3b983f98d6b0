/- (*queue.Queue).Lower: the least of the times of those that wait. -/
import Derived.Test.YtbaboemhjcdpbaaH6
namespace Go.Proofs.Ytbaboemhjcdpbaa.Q
open Go.RowKit Go.Proofs.YtbaboemhjcdpbaaW.PrintWords Go.Proofs.YtbaboemhjcdpbaaW.PrintLast Go.Proofs.YtbaboemhjcdpbaaW.PrintMore Go.Proofs.Ytbaboemhjcdpbaa.PQueuePlays
attribute [local go_sem] max2_int min2_int max_two min_two max_three min_three max_four min_four
set_option linter.unusedVariables false
set_option linter.unusedSimpArgs false
theorem i40 : (Try.prog.info? 40).map (fun i => (i.zero, i.size, i.bytes)) = some (some (.agg #[.int .i64 0, .int .i64 0]), 2, 16) := by kernel_rfl
/-- What New answers at times. -/
def NewAt (ts rs : List S40) : Prop := ∀ (w : World) (A : Option Addr) (c : Nat), Kd.C k40 w A ts.length ts → ts.length ≤ c → Calls Try.prog 25 #[.slice A ts.length c] w fun e w' => ∃ v, e = .returned v ∧ Kd.R k40 40 w' w.heap.size (fun _ => True) v rs ∧ Below w.heap.size w w'
def Lowered (w : World) (rs : List S40) (e : Ending) (w' : World) : Prop := ∃ B d, e = .returned (.slice B rs.length d) ∧ Kd.R k40 40 w' w.heap.size (fun _ => True) (.slice B rs.length d) rs ∧ Below w.heap.size w w'
section
variable {w : World} {g : Nat} {ro : Option Nat} {us : List S42} {room i o : Int}
set_option maxHeartbeats 4000000 in
set_option maxRecDepth 100000 in
theorem lower_calls (rs : List S40) (hN : NewAt (us.map (·.f1)) rs) (hl : us.length ≤ 65536) (h : Qs w g ro us room i o) : Calls Try.prog 17 #[.pointer (some ⟨g, 0, none⟩)] w (Lowered w rs) := by
 have Q0 := Aside0.mk h
 have HN := Aside0.mk hN
 clear h hN
 go_enter Try.func17, Try.ntmps17
 go_wp2_with fail
 refine (qlen Q0.out).mono ?_
 rintro e w1 ⟨rfl, nd, hw1⟩
 have Q1 := Aside0.mk (show Qs w1 g ro us room i o by rw [hw1]; exact Q0.out.drewN nd)
 have B1 := Aside0.mk (show Below w.heap.size w w1 by rw [hw1]; exact pw_below_drewN (Below.refl _ _) nd)
 clear hw1
 go_wp2_with fail
 go_loopg [3, 7] us.length (fun gk v vi wr => ∃ (k : Nat) (B : Option Addr) (d : Nat), vi = .int .i64 k ∧ v = .slice B k d ∧ k ≤ us.length ∧ us.length - k ≤ gk ∧ Aside0 (Kd.R k40 40 wr w.heap.size (fun _ => True) (.slice B k d) ((us.take k).map (·.f1))) ∧ Aside0 (Below w.heap.size w wr))
 case atStart => exact ⟨0, none, 0, rfl, rfl, Nat.zero_le _, by omega, ⟨Kd.R_nil _ _ _ _ _⟩, B1⟩
 case round =>
  clear B1 Q1
  obtain ⟨k, B0, d0, rfl, rfl, hk, hgk, HO, HB⟩ := hrel
  by_cases hlt : k < us.length
  · have hlz : decide ((k : Int) < (us.length : Int)) = true := decide_eq_true (by omega)
    obtain ⟨l, first, es, hl2, hg, hR, hT, hrow⟩ := Q0.out
    obtain ⟨r, cur, hro, hf, hc, hcs, h1c, hes⟩ : ∃ (r : Nat) (cur : Array Value), ro = some r ∧ first < l ∧ w.heap[r]? = some (.cells cur 42 (0, 0)) ∧ cur.size = l * 4 ∧ (∀ v ∈ cur.toList, v.oneCell' = true) ∧ ∀ (j : Nat) (e : List Value), es[j]? = some e → e.length = 4 ∧ ∀ t, t < 4 → cur[((first + j) % l) * 4 + t]? = e[t]? := by
      obtain ⟨hfit, ⟨_, h0, _⟩ | h⟩ := hR
      · have := hT.1; omega
      · exact h
    subst hro
    obtain ⟨t, ht⟩ : ∃ t, es[k]? = some t := ⟨_, List.getElem?_eq_getElem (by have := hT.1; omega)⟩
    obtain ⟨u, hu⟩ : ∃ u, us[k]? = some u := ⟨_, List.getElem?_eq_getElem hlt⟩
    have hK := k42.K_of_M (hT.2 k u t hu ht)
    obtain ⟨A0, c0, rfl, hc0, hk0⟩ := k42_open hK
    obtain ⟨_, htt⟩ := hes k _ ht
    obtain ⟨q, hq⟩ : ∃ q, q = (first + k) % l := ⟨_, rfl⟩
    rw [← hq] at htt
    have hql : q < l := by rw [hq]; exact Nat.mod_lt _ (by omega)
    have hqz : (q : Int) < (l : Int) := by omega
    have hq0 : (0 : Int) ≤ (q : Int) := by omega
    have hpos : 0 < l := by omega
    have hfk : first + k < 1000000 := by omega
    have HQ := Aside0.mk hq
    have G2 := Aside0.mk (blk_below hg HB.out)
    have HU := Aside0.mk hu
    have x0w : w.cell? ⟨g, 0, none⟩ = some (.slice (some ⟨r, 0, none⟩) l l) := (blk_cell hg 0).trans rfl
    have x0 : wr.cell? ⟨g, 0, none⟩ = some (.slice (some ⟨r, 0, none⟩) l l) := pw_cell_below HB.out x0w
    have x0a := Aside0.mk x0w
    have z1w : w.cell? ⟨r, q * 4 + 1, none⟩ = some (.int .i64 u.f1.f0) := (blk_cell hc _).trans (htt 1 (by omega))
    have z1 : wr.cell? ⟨r, q * 4 + 1, none⟩ = some (.int .i64 u.f1.f0) := pw_cell_below HB.out z1w
    have z1a := Aside0.mk z1w
    have z2w : w.cell? ⟨r, q * 4 + 2, none⟩ = some (.int .i64 u.f1.f1) := (blk_cell hc _).trans (htt 2 (by omega))
    have z2 : wr.cell? ⟨r, q * 4 + 2, none⟩ = some (.int .i64 u.f1.f1) := pw_cell_below HB.out z2w
    have z2a := Aside0.mk z2w
    have hsn : (us.take (k + 1)).map (·.f1) = (us.take k).map (·.f1) ++ [u.f1] := by
      rw [List.take_add_one, hu]; simp
    have HSN := Aside0.mk hsn
    have HL5 : Aside0 (((us.take (k + 1)).map (·.f1)).length = k + 1) := ⟨by simp; omega⟩
    have hll : ((us.take k).map (·.f1)).length + 1 ≤ 65537 := by simp; omega
    have HLL := Aside0.mk hll
    clear x0w z1w z2w hg hR hT hrow hc hcs h1c hes ht hu hK hk0 hc0 htt hq hsn hll
    go_wp2_with fail
    go_region_held3 (fun w' => w'.cell? ⟨g, 0, none⟩ = some (.slice (some ⟨r, 0, none⟩) l l) ∧ w'.cell? ⟨r, q * 4 + 1, none⟩ = some (.int .i64 u.f1.f0) ∧ w'.cell? ⟨r, q * 4 + 2, none⟩ = some (.int .i64 u.f1.f1)) (first | exact ⟨x0, z1, z2⟩ | exact ⟨pw_cell_below (below_alloc (Below.refl _ _) _) x0, pw_cell_below (below_alloc (Below.refl _ _) _) z1, pw_cell_below (below_alloc (Below.refl _ _) _) z2⟩ | exact ⟨pw_cell_below HB5.out x0a.out, pw_cell_below HB5.out z1a.out, pw_cell_below HB5.out z2a.out⟩) (first | (go_at_call 22; (with_reducible refine (place_at (n := us.length) (room := room) (i := i) (o := o) (some ⟨r, 0, none⟩) k q ?hg hpos hfk HQ.out).mono ?_); (case hg => exact G2.out); rintro e w4 ⟨rfl, nd, rfl⟩) | (refine Kd.R_append_step k40 (w0 := w) w.heap.size (by rfl) (.tmp 10) (.tmp 21) 49 40 (.agg #[(.int .i64 0), (.int .i64 0)]) 16 rfl Try.underlying49 i40 rfl (by decide) (by omega) (.slice B0 k d0) ((us.take k).map (·.f1)) u.f1 [.int .i64 u.f1.f0, .int .i64 u.f1.f1] (fun _ => True) (fun _ => False) rfl rfl ?aP (fun _ hk => hk.elim) ?aF ?aO ?aB ?aS ?aL ?_; (case aP => exact k40_mkM _ _ _ u.f1); (case aB => exact ⟨HB.out.os, HB.out.tape, HB.out.output, HB.out.size, HB.out.block⟩); (case aF => exact (fun _ _ => trivial)); (case aO => exact Kd.R_step HO.out (fun _ _ _ => rfl)); (case aS => exact HB.out.size); (case aL => have := HLL.out; omega); intro v1 w5 ho hb hg hat; rw [← HSN.out] at ho; obtain ⟨B5, d5, e5⟩ := Kd.R_slice ho; rw [HL5.out] at e5; subst e5; have HO5 := Aside0.mk ho; have HB5 := Aside0.mk hb; clear ho hb hg hat))
    all_goals go_wp2
    all_goals go_roundg (us.length - (k + 1))
    case measure => omega
    case rel => exact ⟨k + 1, B5, d5, by go_num, rfl, by omega, by omega, HO5, HB5⟩
  · have hlz : decide ((k : Int) < (us.length : Int)) = false := decide_eq_false (by omega)
    have hkl : k = us.length := by omega
    have HNN : Aside0 (Calls Try.prog 25 #[.slice B0 k d0] wr fun e w' => ∃ v, e = .returned v ∧ Kd.R k40 40 w' wr.heap.size (fun _ => True) v rs ∧ Below wr.heap.size wr w') := ⟨by
      have hO := HO.out
      have hm : (us.map (·.f1)).length = us.length := List.length_map _
      obtain ⟨he, hlc, hC⟩ := Kd.R_reads' hO
      have e1 : (us.take k).map (·.f1) = us.map (·.f1) := by rw [hkl, List.take_length]
      rw [e1] at hC
      have h1 := HN.out wr B0 d0 hC (by rw [hm]; omega)
      rw [hm, ← hkl] at h1
      exact h1⟩
    clear hkl
    go_wp2_with fail
    refine HNN.out.mono ?_
    rintro e w5 ⟨v, rfl, hR, hb⟩
    obtain ⟨B, d, rfl⟩ := Kd.R_slice hR
    have RR := Aside0.mk (Kd.R_lower hR HB.out.size)
    have HB5 := Aside0.mk (below_then HB.out HB.out.size hb)
    clear hR hb
    go_wp2
    go_ret
    exact ⟨B, d, rfl, RR.out, HB5.out⟩
end
end Go.Proofs.Ytbaboemhjcdpbaa.Q
