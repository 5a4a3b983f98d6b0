/- HoldKeeps: the law's call, in the words of the row. -/
import Derived.Test.YtednmkmhileikaaG20
namespace Go.Proofs.Ytednmkmhileikaa.PHoldPlays
open Go.RowKit Go.Proofs.YtednmkmhileikaaW.PrintWords Go.Proofs.YtednmkmhileikaaW.PrintLast Go.Proofs.YtednmkmhileikaaW.PrintMore
set_option linter.unusedVariables false
open Classical in
noncomputable def runnellaw21_HoldKeeps.f (k : Nat) (l0 : List (S36)) (a1_0 : Int) (a1_1 : Int) : Option Bool := if ∃ n b, runnellaw21_Much.f n l0 = some b ∧ (b = false → ∃ St, G.GoodK l0 ⟨a1_0, a1_1⟩ St) then some true else none
theorem runnellaw21_HoldKeeps.calls (k : Nat) (P0_ : Nat → Prop) (A0 : Option Addr) (c0 : Nat) (l0 : List (S36)) (a1_0 : Int) (a1_1 : Int) (r : Bool) (w : World) (hs0 : Kd.V k36 36 w w.heap.size (fun k_ => P0_ k_) (.slice A0 l0.length c0) l0) (h : runnellaw21_HoldKeeps.f k l0 a1_0 a1_1 = some r) :
  Calls Try.prog 3 #[.slice A0 l0.length c0, .agg #[.int .i64 a1_0, .int .i64 a1_1]] w fun e w' => e = .returned (.bool r) ∧ Below w.heap.size w w' := by
 unfold runnellaw21_HoldKeeps.f at h
 split at h
 · rename_i hg
   obtain ⟨n, b, hM, hG⟩ := hg
   obtain rfl := Option.some.inj h
   exact G.keeps_calls w P0_ A0 c0 l0 ⟨a1_0, a1_1⟩ hs0 b n hM hG
 · cases h
end Go.Proofs.Ytednmkmhileikaa.PHoldPlays
