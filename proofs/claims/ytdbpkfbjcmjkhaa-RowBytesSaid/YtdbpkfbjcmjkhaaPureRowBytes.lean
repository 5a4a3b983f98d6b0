/- Any row's bytes behind any others are those that the document tells, or the same error; it is told again. -/
import Derived.Test.YtdbpkfbjcmjkhaaQRowBytes
import Derived.Test.YtdbpkfbjcmjkhaaBRowBytes
namespace Go.Proofs.Ytdbpkfbjcmjkhaa.Pure
open Go.RowKit Go.Proofs.Ytdbpkfbjcmjkhaa.PRowBytes Go.Proofs.Ytdbpkfbjcmjkhaa.BRowBytes Go.Proofs.Ytdbpkfbjcmjkhaa.RowPure Go.Proofs.Ytdbpkfbjcmjkhaa.NumPure Go.Proofs.YtdbpkfbjcmjkhaaW.PrintWords Go.Proofs.YtdbpkfbjcmjkhaaW.PrintLast
attribute [local irreducible] enc str rbytes
theorem RowBytes : runnellaw03_RowBytes.Pure := by
  intro b l hbl hwb hl hwl
  have hb := wf_bytes hwb
  have hc := cap_ge
  have hwi : ∀ x ∈ l, (Lit.int .i64 x.f1).wf = true := fun x hx => (hwl x hx).2.1
  refine ⟨2 * l.length + 150000, ?_⟩
  unfold runnellaw03_RowBytes.f
  obtain ⟨t, ht, htf⟩ := Long_f l hl (k := 2 * l.length + 150000) (by omega)
  rw [ht]
  simp only [Option.bind_some, runnellaw03_RowBytes.j0]
  rw [live_f (by omega)]
  simp only [Option.bind_some]
  cases t with
  | true => rfl
  | false =>
    rw [if_neg (show ¬ (false = true) by decide)]
    by_cases h1000 : (b.length : Int) > 1000
    · rw [decide_eq_true h1000]; rfl
    · rw [decide_eq_false h1000, if_neg (show ¬ (false = true) by decide), rput_f b l hl hwi (by omega) (by omega), RCheck_f l hl (by omega)]
      simp only [Option.bind_some, runnellaw03_code.f]
      by_cases h : chk l = 0
      · obtain ⟨h16, hg⟩ := chk_good l h hwi
        have hrl := rbytes_length l h16 hg
        have hlen : (b ++ rbytes l).length = b.length + (rbytes l).length := List.length_append
        have hbb : ∀ x ∈ b ++ rbytes l, 0 ≤ x ∧ x < 256 := fun x hx => (List.mem_append.1 hx).elim (hb x) (rbytes_byte l hg x)
        have hrt := rget_told b [] l h16 hg
        rw [List.append_nil] at hrt
        rw [if_pos h, if_pos h.symm, if_pos h, rget_f (b ++ rbytes l) hbb _ (by omega) (by omega), hrt, RBytes_f l h16 hg (by omega)]
        simp only [Option.bind_some]
        have hss : (strOfNums b).size + (strOfNums (rbytes l)).size ≤ 9223372036854775807 := by rw [strOfNums_size, strOfNums_size]; omega
        have hst : (strOfNums (b ++ rbytes l)).toList = (strOfNums b ++ strOfNums (rbytes l)).toList := by rw [toList_append, str_of, str_of, str_of, str_append]
        have hsame : runnelref03_Same.f (2 * l.length + 149999) (l.map plain) l = some true := by
          have hml : (l.map plain).length = l.length := List.length_map ..
          unfold runnelref03_Same.f
          rw [ROrder_f (l.map plain) l (by omega) (by omega), plain_same l hg]
          rfl
        rw [if_pos hss, if_pos hst, hsame]
        simp only [Option.bind_some]
        rw [if_pos trivial, if_pos (by omega), if_pos trivial]
      · rw [if_neg h, if_pos rfl, if_neg h]
        rfl
end Go.Proofs.Ytdbpkfbjcmjkhaa.Pure
