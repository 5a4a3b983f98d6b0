/- Any frontier's bytes, behind any others, are those that the document tells; it is told again, or refused if it is too long. -/
import Derived.Test.YtpplklickfioiaaQWireFronts
import Derived.Test.YtpplklickfioiaaBWireFronts
namespace Go.Proofs.Ytpplklickfioiaa.Pure
open Go.RowKit Go.Proofs.Ytpplklickfioiaa.PWireFronts Go.Proofs.Ytpplklickfioiaa.BWireFronts Go.Proofs.Ytpplklickfioiaa.NumPure Go.Proofs.YtpplklickfioiaaW.PrintWords Go.Proofs.YtpplklickfioiaaW.PrintLast
attribute [local irreducible] enc str tfront
theorem WireFronts : runnellaw26_WireFronts.Pure := by
  intro b f hbl hwb hfl hwf
  have hb := wf_bytes hwb
  have hc := cap_ge
  have hg : ∀ t ∈ f, tok t := fun t ht => ⟨wf_i64 (hwf t ht).1, wf_i64 (hwf t ht).2⟩
  refine ⟨10000, ?_⟩
  unfold runnellaw26_WireFronts.f
  simp only [runnellaw26_WireFronts.j0]
  rw [live_f (by decide)]
  simp only [Option.bind_some]
  by_cases h1 : (b.length : Int) > 1000
  · rw [if_pos h1]; rfl
  · rw [if_neg h1]
    by_cases h2 : (f.length : Int) > 100
    · rw [decide_eq_true h2]; rfl
    · have htl := tfront_length f (by omega) hg
      have hlen : (b ++ tfront f).length = b.length + (tfront f).length := List.length_append
      have hgf := GetFront_f (k := 9999) b [] f hb (by simp) hg (by omega) (by rw [List.append_nil]; omega) (by rw [List.append_nil]; omega)
      rw [List.append_nil] at hgf
      rw [decide_eq_false h2, if_neg (show ¬ (false = true) by decide), PutFront_f b f (by omega) hg (by omega) (by omega)]
      simp only [Option.bind_some]
      rw [hgf, RFront_f f (by omega) hg (by omega)]
      have hss : (strOfNums b).size + (strOfNums (tfront f)).size ≤ 9223372036854775807 := by rw [strOfNums_size, strOfNums_size]; omega
      have hst : (strOfNums (b ++ tfront f)).toList = (strOfNums b ++ strOfNums (tfront f)).toList := by rw [toList_append, str_of, str_of, str_of, str_append]
      simp only [Option.bind_some, runnellaw26_code.f]
      rw [if_pos hss, if_pos hst]
      by_cases h16 : 16 < f.length
      · rw [if_pos h16, if_pos (by omega)]
        rfl
      · rw [if_neg h16, if_neg (by omega), TSame_refl f (by omega) (by omega)]
        simp only [Option.bind_some]
        rw [if_pos trivial, if_pos (by omega), if_pos trivial]
end Go.Proofs.Ytpplklickfioiaa.Pure
