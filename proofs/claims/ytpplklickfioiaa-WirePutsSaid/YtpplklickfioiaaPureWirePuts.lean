/- Any command's bytes behind any others, what it uses, its fault: as the document tells; told again it is the same command. -/
import Derived.Test.YtpplklickfioiaaQWirePuts
import Derived.Test.YtpplklickfioiaaBWirePuts
namespace Go.Proofs.Ytpplklickfioiaa.Pure
open Go.RowKit Go.Proofs.Ytpplklickfioiaa.PWirePuts Go.Proofs.Ytpplklickfioiaa.BWirePuts Go.Proofs.Ytpplklickfioiaa.RowPure Go.Proofs.Ytpplklickfioiaa.NumPure Go.Proofs.YtpplklickfioiaaW.PrintWords Go.Proofs.YtpplklickfioiaaW.PrintLast
set_option linter.unusedVariables false
theorem WirePuts : runnellaw26_WirePuts.Pure := by
  intro l c _ hwl hw
  have hl := wf_bytes hwl
  have hcg := cap_ge
  have hmb := maxLen_big
  obtain ⟨w0, w1, ⟨⟨w2, w3⟩, w4, w5⟩, ⟨w6, w7⟩, w8, w9, w10⟩ := hw
  obtain ⟨K, hK⟩ : ∃ K, K = maxLen + 30000000 := ⟨_, rfl⟩
  refine ⟨K + 2, ?_⟩
  unfold runnellaw26_WirePuts.f
  by_cases h1 : (l.length : Int) > 1000
  · rw [if_pos h1]
    simp only [runnellaw26_WirePuts.j0]
    rw [if_pos trivial, live_f (by omega)]; rfl
  rw [if_neg h1]
  have hm : ∃ b, runnelref26_Much.f (K + 2) [c] = some b ∧ (b = false → c.f2.f0.length ≤ 30 ∧ c.f3.length ≤ 30 ∧ c.f5.length ≤ 70000) := by
    obtain ⟨b, hb, hb2⟩ := Much_l0 [c] (by simp) (fun x hx => by rw [List.mem_singleton.1 hx]; exact w2) 1 (K + 2) 0 (by simp) (by omega)
    refine ⟨b, ?_, fun e => hb2 e c (by simp)⟩
    unfold runnelref26_Much.f
    rw [if_neg (by simp)]; exact hb
  obtain ⟨b, hb, hb2⟩ := hm
  have hcc : (⟨c.f0, c.f1, ⟨c.f2.f0, ⟨c.f2.f1.f0, c.f2.f1.f1⟩, c.f2.f2⟩, c.f3, c.f4, c.f5⟩ : S40) = c := rfl
  rw [hcc, hb]
  simp only [Option.bind_some, runnellaw26_WirePuts.j0]
  cases b with
  | true => rw [if_pos rfl, live_f (by omega)]; rfl
  | false =>
    rw [if_neg (show ¬ (false = true) by decide)]
    obtain ⟨s1, s2, s3⟩ := hb2 rfl
    have hc : cok c := ⟨wf_i64 w1, wf_i64 w8, wf_i64 w5, ⟨wf_i64 w4.1, wf_i64 w4.2⟩, s1, fun x hx => (w3 x hx).2.1, s2, fun t ht => ⟨wf_i64 (w7 t ht).1, wf_i64 (w7 t ht).2⟩, s3, fun x hx => wf_u8 (w10 x hx)⟩
    have hs := CSamePl c hc (k := K + 1) (by omega)
    have hpl : ∀ x : S40, (⟨x.f0, x.f1, ⟨x.f2.f0, ⟨x.f2.f1.f0, x.f2.f1.f1⟩, x.f2.f2⟩, x.f3, x.f4, x.f5⟩ : S40) = x := fun _ => rfl
    rw [wput_f l c hc (by omega) (by omega), Rcheck_f c hc (by omega)]
    simp only [Option.bind_some, runnellaw26_code.f]
    have h2 : (if cchk c = 0 then (l ++ cbytes c, 0) else (([] : List Int), cchk c)).2 = cchk c := by
      split
      · rename_i h; exact h.symm
      · rfl
    rw [h2, if_pos rfl, wcheck_f c hc (by omega)]
    simp only [Option.bind_some]
    (first | rw [if_pos trivial] | rw [if_pos rfl])
    rw [wplain_f c hc (by omega), rplain_f c (by omega)]
    simp only [Option.bind_some]
    rw [hpl, hs]
    simp only [Option.bind_some, runnellaw26_WirePuts.j1, Bool.not_true]
    rw [if_neg (show ¬ (false = true) by decide)]
    by_cases hz : cchk c = 0
    · rw [if_pos hz]
      simp only [if_pos hz]
      have hcl := cbytes_length c hc hz
      have hcb := cbytes_byte c hc hz
      have hg : cget (l ++ (cbytes c ++ [])) (l.length : Int) = _ := cget_told l [] c hc hz
      rw [List.append_nil] at hg
      rw [cget_f (l ++ cbytes c) (fun x hx => by rcases List.mem_append.1 hx with h | h; exact hl x h; exact hcb x h) (by rw [List.length_append]; omega) _ (by rw [List.length_append]; omega), hg]
      simp only [Option.bind_some]
      rw [Rcbytes_f c hc hz (by omega)]
      simp only [Option.bind_some]
      rw [if_pos (by rw [strOfNums_size, strOfNums_size]; omega), if_pos (by rw [str_of, toList_append, str_of, str_of, str_append])]
      simp only [runnellaw26_code.f, Option.bind_some]
      (first | rw [if_pos trivial] | rw [if_pos rfl])
      rw [if_pos (by rw [List.length_append]), rplain_f c (by omega)]
      simp only [Option.bind_some]
      rw [hpl, hpl, CSameP c hc hz (by omega)]
      simp only [Option.bind_some]
      (first | rw [if_pos trivial] | rw [if_pos rfl])
      rw [live_f (by omega)]; rfl
    · rw [if_neg hz]
      simp only [if_neg hz]
      rw [if_pos (by simp), live_f (by omega)]; rfl
end Go.Proofs.Ytpplklickfioiaa.Pure
