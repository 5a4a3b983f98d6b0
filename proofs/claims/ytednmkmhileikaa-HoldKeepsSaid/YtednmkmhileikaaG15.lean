/- HoldPlays: the law's walk. -/
import Derived.Test.YtednmkmhileikaaG12
import Derived.Test.YtednmkmhileikaaG13
import Derived.Test.YtednmkmhileikaaOHoldPlaysx2
import Derived.Test.YtednmkmhileikaaOHoldPlaysx9
import Derived.Test.YtednmkmhileikaaOHoldPlaysx10
import Derived.Test.YtednmkmhileikaaOHoldPlaysx14
namespace Go.Proofs.Ytednmkmhileikaa.G
open Go.RowKit Go.Proofs.YtednmkmhileikaaW.PrintWords Go.Proofs.YtednmkmhileikaaW.PrintLast Go.Proofs.YtednmkmhileikaaW.PrintMore Go.Proofs.Ytednmkmhileikaa.PHoldPlays
attribute [local go_sem] max2_int min2_int max_two min_two max_three min_three max_four min_four
set_option linter.unusedVariables false
set_option linter.unusedSimpArgs false
theorem act_at {w : World} {A : Option Addr} {c : Nat} {l : List S36} {P : Nat → Prop} (hV : Kd.V k36 36 w w.heap.size P (.slice A l.length c) l) (i : Nat) (a : S36) (ha : l[i]? = some a) : ∃ ad A1 c1 A5 c5, A = some ad ∧ w.cell? (ad.add (i * 6)) = some (.bool a.f0) ∧ w.cell? ⟨(ad.add (i * 6)).block, (ad.add (i * 6)).off + 1, none⟩ = some (.slice A1 a.f1.f0.length c1) ∧ w.cell? ⟨(ad.add (i * 6)).block, (ad.add (i * 6)).off + 2, none⟩ = some (.int .i64 a.f1.f1.f0) ∧ w.cell? ⟨(ad.add (i * 6)).block, (ad.add (i * 6)).off + 3, none⟩ = some (.int .i64 a.f1.f1.f1) ∧ w.cell? ⟨(ad.add (i * 6)).block, (ad.add (i * 6)).off + 4, none⟩ = some (.int .i64 a.f1.f2) ∧ w.cell? ⟨(ad.add (i * 6)).block, (ad.add (i * 6)).off + 5, none⟩ = some (.slice A5 a.f2.length c5) ∧ a.f1.f0.length ≤ c1 ∧ Kd.F k61 w (fun k => k < w.heap.size) A1 a.f1.f0.length a.f1.f0 ∧ a.f2.length ≤ c5 ∧ k24.C w A5 a.f2.length a.f2 := by
 have hlt := (List.getElem?_eq_some_iff.1 ha).1
 have hrd : rd_T36 l (i : Int) = a := by
  unfold rd_T36
  rw [Int.toNat_natCast, List.getD_eq_getElem?_getD, ha]; rfl
 obtain ⟨ad, A1, c1, A5, c5, e, x0, x1, x2, x3, x4, x5, l1, i1, l5, i5⟩ := at_T36 (Kd.V_reads' hV).2.2 (i : Int) (by omega) (by omega)
 cases e
 obtain ⟨ce, hce, hMe, hcc⟩ := Kd.V_get hV z36 (i : Int) (by omega) (by omega)
 obtain ⟨B1, d1, B5, d5, rfl, m1, g1, m5, g5⟩ := k36_openF hMe
 have hv1 := hcc 1 _ rfl
 rw [add_field _ _ 1 (by omega)] at hv1
 replace hv1 := Option.some.inj (hv1.symm.trans x1)
 injection hv1 with hva hvn hvc
 change Kd.F k61 w _ B1 (rd_T36 l (i : Int)).f1.f0.length (rd_T36 l (i : Int)).f1.f0 at g1
 rw [hrd] at *
 rw [Int.toNat_natCast] at *
 subst hva
 exact ⟨ad, B1, c1, A5, c5, rfl, x0, x1, x2, x3, x4, x5, l1, Kd.F_mono (Kd.F_bound g1) (fun k hk => hk.2), l5, i5⟩
end Go.Proofs.Ytednmkmhileikaa.G
namespace Go.Proofs.Ytednmkmhileikaa.G
open Go.RowKit Go.Proofs.YtednmkmhileikaaW.PrintWords Go.Proofs.YtednmkmhileikaaW.PrintLast Go.Proofs.YtednmkmhileikaaW.PrintMore Go.Proofs.Ytednmkmhileikaa.PHoldPlays
attribute [local go_sem] max2_int min2_int max_two min_two max_three min_three max_four min_four
set_option linter.unusedVariables false
set_option linter.unusedSimpArgs false
end Go.Proofs.Ytednmkmhileikaa.G
