/- The row that any bytes tell from any place on is the one that the document tells. -/
import Derived.Test.YtdbpkfbjcmjkhaaBRowGets
namespace Go.Proofs.Ytdbpkfbjcmjkhaa.Pure
open Go.RowKit Go.Proofs.Ytdbpkfbjcmjkhaa.PRowGets Go.Proofs.Ytdbpkfbjcmjkhaa.BRowGets Go.Proofs.Ytdbpkfbjcmjkhaa.RowPure Go.Proofs.Ytdbpkfbjcmjkhaa.NumPure Go.Proofs.YtdbpkfbjcmjkhaaW.PrintWords Go.Proofs.YtdbpkfbjcmjkhaaW.PrintLast
theorem gets_l0 (l : List S28) (hm : l.length ≤ 1000) (d : Nat) : ∀ (k i : Nat), i + d = l.length → d + 60 < k → runnellaw03_RowGets.l0 k l l (i : Int) = some true := by
  induction d with
  | zero =>
    intro k i hi hk
    obtain ⟨k, rfl⟩ : ∃ m, k = m + 1 := ⟨k - 1, by omega⟩
    simp only [runnellaw03_RowGets.l0]
    rw [if_neg (by omega), live_f (by omega)]
    rfl
  | succ d ih =>
    intro k i hi hk
    obtain ⟨k, rfl⟩ : ∃ m, k = m + 1 := ⟨k - 1, by omega⟩
    simp only [runnellaw03_RowGets.l0]
    rw [if_pos (by omega), if_pos (by omega), if_pos (by omega), if_neg (by simp), wrap_in _ (by omega) (by omega), show ((i : Int) + 1) = ((i + 1 : Nat) : Int) by omega, ih k (i + 1) (by omega) (by omega)]
theorem valN_len (l : List Int) (d : Nat) : ∀ (at0 : Int) (r : List S28 × Int), valN l d at0 = some r → r.1.length = d := by
  induction d with
  | zero => intro a r h; rw [valN] at h; cases h; rfl
  | succ d ih =>
    intro a r h
    rw [valN] at h
    rw [Option.bind_eq_some_iff] at h
    obtain ⟨v, _, h⟩ := h
    rw [Option.map_eq_some_iff] at h
    obtain ⟨q, hq, rfl⟩ := h
    simp [ih _ q hq]
theorem rget_len (l : List Int) (a : Int) : (rget l a).1.length ≤ 1000 := by
  unfold rget
  split
  · split
    · simp
    · split
      · simp
      · rename_i h _ r hr
        have := valN_len l _ _ _ hr
        simp only
        omega
  · simp
theorem RowGets : runnellaw03_RowGets.Pure := by
  intro l a _ _ hl _
  have hb := wf_bytes hl
  have hc := cap_ge
  refine ⟨2 * l.length + 1200, ?_⟩
  unfold runnellaw03_RowGets.f
  rw [live_f (by omega)]
  simp only [Option.bind_some]
  by_cases h : (l.length : Int) > 10000
  · rw [if_pos h]
  · rw [if_neg h, rget_f l hb a (by omega) (by omega), Rrget_f l hb a (by omega) (by omega)]
    have hlen := rget_len l a
    simp only [Option.bind_some, runnellaw03_code.f, if_true, bne_self_eq_false, runnellaw03_RowGets.j0]
    rw [if_neg (show ¬ (false = true) by decide)]
    exact gets_l0 _ hlen (rget l a).1.length _ 0 (by omega) (by omega)
end Go.Proofs.Ytdbpkfbjcmjkhaa.Pure
