/- A number that any bytes tell from any place on has just these bytes. -/
import Derived.Test.YtocgcnmlgkhgpaaBNumOnce
namespace Go.Proofs.Ytocgcnmlgkhgpaa.Pure
open Go.RowKit Go.Proofs.Ytocgcnmlgkhgpaa.PNumOnce Go.Proofs.Ytocgcnmlgkhgpaa.BNumOnce Go.Proofs.Ytocgcnmlgkhgpaa.NumPure Go.Proofs.YtocgcnmlgkhgpaaW.PrintWords Go.Proofs.YtocgcnmlgkhgpaaW.PrintLast
attribute [local irreducible] enc str
theorem NumOnce : runnellaw01_NumOnce.Pure := by
  intro l a _ _ hl _
  have hb := wf_bytes hl
  have hc := cap_ge
  refine ⟨2 * l.length + 61, ?_⟩
  unfold runnellaw01_NumOnce.f
  rw [live_f (by omega)]
  simp only [Option.bind_some]
  by_cases h : (l.length : Int) > 5000
  · rw [if_pos h]
  · rw [if_neg h, get_f l hb a (by omega) (by omega)]
    simp only [Option.bind_some, runnellaw01_code.f]
    rcases get_ok l hb a with ⟨ho, _⟩ | ⟨ho, _⟩ | ⟨m, p, r, hm, hlp, ha, ho⟩
    · rw [ho]; rfl
    · rw [ho]; rfl
    · rw [ho]
      simp only [if_true]
      subst ha
      have h10 := enc_ten hm
      have hcut := cut_mid p (enc m) r ((p.length + (enc m).length : Nat) : Int) (p.length : Int) rfl rfl
      rw [← hlp] at hcut
      have hlen : l.length = p.length + ((enc m).length + r.length) := by rw [hlp]; simp
      have hP : num_Put.f (2 * l.length + 60) [] (m : Int) = some (enc m) := by rw [Put_f [] hm (by omega) (by simp; omega)]; rfl
      have hS := size_f hm (k := 2 * l.length + 60) (by omega)
      have hL := live_f (k := 2 * l.length + 60) (by omega)
      generalize enc m = E at h10 hlen hcut hP hS ⊢
      rw [if_neg (by omega), if_neg (by omega), decide_eq_false (by omega)]
      simp only [runnellaw01_NumOnce.j0]
      rw [if_neg (show ¬ (false = true) by decide), hP]
      simp only [Option.bind_some]
      rw [if_pos (by omega), if_pos (by omega), if_pos (by omega), hcut, if_pos rfl, hS]
      simp only [Option.bind_some]
      rw [if_pos (by rw [wrap_in _ (by omega) (by omega)]; omega), hL]
      rfl
end Go.Proofs.Ytocgcnmlgkhgpaa.Pure
