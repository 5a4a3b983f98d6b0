/- Any number's bytes, behind any others, are those that the document tells, and as many as Size says; the bytes ahead stay. -/
import Derived.Test.YtocgcnmlgkhgpaaBNumPuts
namespace Go.Proofs.Ytocgcnmlgkhgpaa.Pure
open Go.RowKit Go.Proofs.Ytocgcnmlgkhgpaa.PNumPuts Go.Proofs.Ytocgcnmlgkhgpaa.BNumPuts Go.Proofs.Ytocgcnmlgkhgpaa.NumPure Go.Proofs.YtocgcnmlgkhgpaaW.PrintWords Go.Proofs.YtocgcnmlgkhgpaaW.PrintLast
attribute [local irreducible] enc str
theorem NumPuts : runnellaw01_NumPuts.Pure := by
  intro l n _ _ hl hn
  obtain ⟨n0, n1⟩ := wf_u64 hn
  obtain ⟨n, rfl⟩ := Int.eq_ofNat_of_zero_le n0
  have hn' : n < 18446744073709551616 := by omega
  have hc := cap_ge
  refine ⟨40, ?_⟩
  unfold runnellaw01_NumPuts.f
  rw [live_40]
  simp only [Option.bind_some]
  by_cases h : (l.length : Int) > 5000
  · rw [if_pos h]
  · have hle : l.length + 10 ≤ capN := by omega
    have h10 := enc_ten hn'
    rw [if_neg h, if_pos (cap_lt (by simp; omega)), List.nil_append, Put_f l hn' (by decide) hle, Bytes_f hn' (by decide), size_f hn' (by decide)]
    simp only [Option.bind_some, str_of, toList_append, str_append]
    rw [if_pos (by rw [strOfNums_size, strOfNums_size]; generalize (enc n).length = E at h10 ⊢; omega), if_pos trivial, if_pos trivial, if_pos trivial]
end Go.Proofs.Ytocgcnmlgkhgpaa.Pure
