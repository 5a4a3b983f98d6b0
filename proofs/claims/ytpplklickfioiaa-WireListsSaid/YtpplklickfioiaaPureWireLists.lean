/- Any commands' bytes are those that the document tells, or its fault; told again they are the same commands. -/
import Derived.Test.YtpplklickfioiaaQWireLists
import Derived.Test.YtpplklickfioiaaBWireLists
namespace Go.Proofs.Ytpplklickfioiaa.Pure
open Go.RowKit Go.Proofs.Ytpplklickfioiaa.PWireLists Go.Proofs.Ytpplklickfioiaa.BWireLists Go.Proofs.Ytpplklickfioiaa.RowPure Go.Proofs.Ytpplklickfioiaa.NumPure Go.Proofs.YtpplklickfioiaaW.PrintWords Go.Proofs.YtpplklickfioiaaW.PrintLast
theorem WireLists : runnellaw26_WireLists.Pure := by
  intro l hl hw
  have hcg := cap_ge
  refine ⟨maxLen + 30000000, ?_⟩
  have hwr : ∀ c ∈ l, c.f2.f0.length ≤ maxLen := fun c hc => (hw c hc).2.2.1.1.1
  unfold runnellaw26_WireLists.f
  by_cases h1 : (l.length : Int) > 100
  · unfold runnelref26_Much.f
    rw [if_pos h1]
    simp only [Option.bind_some]
    rw [if_pos trivial, live_f (by omega)]; rfl
  obtain ⟨b, hb, hb2⟩ := Much_l0 l (by omega) hwr l.length (maxLen + 30000000) 0 (by omega) (by omega)
  have hb' : runnelref26_Much.f (maxLen + 30000000) l = some b := by
    unfold runnelref26_Much.f
    rw [if_neg h1]; exact hb
  rw [hb']
  simp only [Option.bind_some]
  cases b with
  | true => rw [if_pos rfl, live_f (by omega)]; rfl
  | false =>
    rw [if_neg (show ¬ (false = true) by decide)]
    have hs := hb2 rfl
    rw [List.drop_zero] at hs
    have hg : ∀ c ∈ l, cok c := by
      intro c hc
      obtain ⟨w0, w1, ⟨⟨w2, w3⟩, w4, w5⟩, ⟨w6, w7⟩, w8, w9, w10⟩ := hw c hc
      obtain ⟨s1, s2, s3⟩ := hs c hc
      exact ⟨wf_i64 w1, wf_i64 w8, wf_i64 w5, ⟨wf_i64 w4.1, wf_i64 w4.2⟩, s1, fun x hx => (w3 x hx).2.1, s2, fun t ht => ⟨wf_i64 (w7 t ht).1, wf_i64 (w7 t ht).2⟩, s3, fun x hx => wf_u8 (w10 x hx)⟩
    rw [Enc_f l (by omega) hg (by omega), REnc_f l (by omega) hg (by omega)]
    simp only [Option.bind_some, runnellaw26_code.f]
    rw [if_pos trivial]
    obtain ⟨K, hK⟩ : ∃ K, maxLen + 30000000 = K + 1 := ⟨maxLen + 29999999, by omega⟩
    rw [show (maxLen + 30000000) = K + 1 from hK]
    simp only [runnellaw26_WireLists.j0]
    rw [if_neg (by simp)]
    by_cases he : cerr l = 0
    · have hc : cenc l = (enc l.length ++ cbl l, 0) := by unfold cenc; rw [if_pos he]
      rw [hc]
      simp only
      rw [if_pos trivial, Dec_f l hg he (by omega) (by omega)]
      simp only [Option.bind_some, runnellaw26_code.f]
      rw [if_pos trivial, PSame_f l (by omega) hg he (by omega), live_f (by omega)]
      rfl
    · have hc : cenc l = ([], cerr l) := by unfold cenc; rw [if_neg he]
      rw [hc]
      simp only
      rw [if_neg he, live_f (by omega)]
      rfl
end Go.Proofs.Ytpplklickfioiaa.Pure
