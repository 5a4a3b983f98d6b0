/- Any number with a sign, behind any bytes, has the bytes that the document tells; it is told again. -/
import Derived.Test.YtocgcnmlgkhgpaaBNumInts
namespace Go.Proofs.Ytocgcnmlgkhgpaa.Pure
open Go.RowKit Go.Proofs.Ytocgcnmlgkhgpaa.PNumInts Go.Proofs.Ytocgcnmlgkhgpaa.BNumInts Go.Proofs.Ytocgcnmlgkhgpaa.NumPure Go.Proofs.YtocgcnmlgkhgpaaW.PrintWords Go.Proofs.YtocgcnmlgkhgpaaW.PrintLast
attribute [local irreducible] enc str
theorem NumInts : runnellaw01_NumInts.Pure := by
  intro l a _ _ hl ha
  have hb := wf_bytes hl
  obtain ⟨a0, a1⟩ := wf_i64 ha
  have hc := cap_ge
  have hz := zig_lt a a0 a1
  have h10 := enc_ten hz
  refine ⟨2 * l.length + 80, ?_⟩
  unfold runnellaw01_NumInts.f
  rw [live_f (by omega)]
  simp only [Option.bind_some]
  by_cases h : (l.length : Int) > 5000
  · rw [if_pos h]
  · have hlen : (l ++ enc (zig a)).length = l.length + (enc (zig a)).length := List.length_append
    have hbb : ∀ x ∈ l ++ enc (zig a), 0 ≤ x ∧ x < 256 := fun x hx => (List.mem_append.1 hx).elim (hb x) (enc_byte _ x)
    have hg := get_enc l [] (zig a) hz (l.length : Int) rfl
    rw [List.append_nil] at hg
    rw [if_neg h, PutInt_f l a a0 a1 (by omega) (by omega), Signed_f a a0 a1]
    simp only [Option.bind_some]
    rw [getInt_f (l ++ enc (zig a)) hbb _ (by rw [hlen]; generalize (enc (zig a)).length = E at h10 ⊢; omega) (by rw [hlen]; generalize (enc (zig a)).length = E at h10 ⊢; omega), Bytes_f hz (by omega), hg]
    simp only [Option.bind_some, str_of, toList_append, str_append, runnellaw01_code.f]
    rw [if_pos (by rw [strOfNums_size, strOfNums_size]; generalize (enc (zig a)).length = E at h10 ⊢; omega), if_pos trivial, if_pos (show zag ((zig a : Nat) : Int) = a from zag_zig a), if_pos (by rw [hlen]), if_pos trivial]
end Go.Proofs.Ytocgcnmlgkhgpaa.Pure
