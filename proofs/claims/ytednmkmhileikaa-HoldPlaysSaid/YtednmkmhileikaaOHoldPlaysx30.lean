/- HoldPlays: the law's call, in the words of the row. -/
import Derived.Test.YtednmkmhileikaaG15
namespace Go.Proofs.Ytednmkmhileikaa.PHoldPlays
open Go.RowKit Go.Proofs.YtednmkmhileikaaW.PrintWords Go.Proofs.YtednmkmhileikaaW.PrintLast Go.Proofs.YtednmkmhileikaaW.PrintMore
set_option linter.unusedVariables false
open Classical in
noncomputable def runnellaw21_HoldPlays.f (k : Nat) (l0 : List (S36)) : Option Bool := if ∃ n b, runnellaw21_Much.f n l0 = some b ∧ (b = false → ∃ St, G.GoodP l0 St) then some true else none
theorem runnellaw21_HoldPlays.calls (k : Nat) (P0_ : Nat → Prop) (A0 : Option Addr) (c0 : Nat) (l0 : List (S36)) (r : Bool) (w : World) (hs0 : Kd.V k36 36 w w.heap.size (fun k_ => P0_ k_) (.slice A0 l0.length c0) l0) (h : runnellaw21_HoldPlays.f k l0 = some r) :
  Calls Try.prog 4 #[.slice A0 l0.length c0] w fun e w' => e = .returned (.bool r) ∧ Below w.heap.size w w' := by
 unfold runnellaw21_HoldPlays.f at h
 split at h
 · rename_i hg
   obtain ⟨n, b, hM, hG⟩ := hg
   obtain rfl := Option.some.inj h
   exact G.plays_calls w P0_ A0 c0 l0 hs0 b n hM hG
 · cases h
end Go.Proofs.Ytednmkmhileikaa.PHoldPlays
