/- Of two numbers the greater one has no fewer bytes, and of as many the ones of the lesser stand first; for all numbers of 64 bits. -/
import Derived.Test.YtocgcnmlgkhgpaaBNumOrders
namespace Go.Proofs.Ytocgcnmlgkhgpaa.Pure
open Go.RowKit Go.Proofs.Ytocgcnmlgkhgpaa.PNumOrders Go.Proofs.Ytocgcnmlgkhgpaa.BNumOrders Go.Proofs.Ytocgcnmlgkhgpaa.NumPure Go.Proofs.YtocgcnmlgkhgpaaW.PrintWords Go.Proofs.YtocgcnmlgkhgpaaW.PrintLast
attribute [local irreducible] enc str
theorem NumOrders : runnellaw01_NumOrders.Pure := by
  intro a b ha hb
  obtain ⟨a0, a1⟩ := wf_u64 ha
  obtain ⟨b0, b1⟩ := wf_u64 hb
  obtain ⟨a, rfl⟩ := Int.eq_ofNat_of_zero_le a0
  obtain ⟨b, rfl⟩ := Int.eq_ofNat_of_zero_le b0
  have hc := cap_ge
  refine ⟨40, ?_⟩
  unfold runnellaw01_NumOrders.f
  rw [Put_f [] (by omega) (by decide) (by simp; omega), Put_f [] (by omega) (by decide) (by simp; omega)]
  simp only [Option.bind_some, List.nil_append, str_of]
  rw [live_40]
  simp only [Option.bind_some]
  by_cases h : (a : Int) < (b : Int)
  · rw [if_pos h]
    rcases enc_less (a := a) (b := b) (by omega) with h1 | ⟨h1, h2⟩
    · rw [if_pos (by omega)]
    · rw [if_neg (by omega), if_pos (by omega), if_pos h2]
  · rw [if_neg h, if_pos]
    by_cases he : a = b
    · subst he; simp
    · have h1 : ((a : Int) == (b : Int)) = false := beq_eq_false_iff_ne.mpr (by omega)
      have h2 : (str (enc a) == str (enc b)) = false := beq_eq_false_iff_ne.mpr (fun e => by
        have h3 := congrArg (valF 0) (str_inj (enc_byte a) (enc_byte b) e)
        rw [val_enc, val_enc] at h3
        omega)
      rw [h1, h2]; rfl
end Go.Proofs.Ytocgcnmlgkhgpaa.Pure
