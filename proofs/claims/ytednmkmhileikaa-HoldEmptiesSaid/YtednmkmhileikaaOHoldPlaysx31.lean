/- HoldEmpties: the law's call, in the words of the row. -/
import Derived.Test.YtednmkmhileikaaG12
namespace Go.Proofs.Ytednmkmhileikaa.PHoldPlays
open Go.RowKit Go.Proofs.YtednmkmhileikaaW.PrintWords Go.Proofs.YtednmkmhileikaaW.PrintLast Go.Proofs.YtednmkmhileikaaW.PrintMore
set_option linter.unusedVariables false
open Classical in
noncomputable def runnellaw21_HoldEmpties.f (k : Nat) (l0 : List (S33)) : Option Bool := if ∃ n b, runnelref07_Much.f n l0 = some b ∧ (b = false → ∃ St, G.Good l0 St) then some true else none
theorem runnellaw21_HoldEmpties.calls (k : Nat) (A0 : Option Addr) (c0 : Nat) (l0 : List (S33)) (r : Bool) (w : World) (hr0 : Kd.C k33 w A0 l0.length l0) (hc0 : l0.length ≤ c0) (h : runnellaw21_HoldEmpties.f k l0 = some r) :
  Calls Try.prog 5 #[.slice A0 l0.length c0] w fun e w' => e = .returned (.bool r) ∧ Below w.heap.size w w' := by
 unfold runnellaw21_HoldEmpties.f at h
 split at h
 · rename_i hg
   obtain ⟨n, b, hM, hG⟩ := hg
   obtain rfl := Option.some.inj h
   exact G.empties_calls w A0 c0 l0 hr0 hc0 b n hM hG
 · cases h
end Go.Proofs.Ytednmkmhileikaa.PHoldPlays
