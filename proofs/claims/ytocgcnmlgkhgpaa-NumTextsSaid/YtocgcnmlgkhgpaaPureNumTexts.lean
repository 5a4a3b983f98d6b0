/- Any text, behind any bytes, has the bytes that the document tells; it is told again. -/
import Derived.Test.YtocgcnmlgkhgpaaBNumTexts
namespace Go.Proofs.Ytocgcnmlgkhgpaa.Pure
open Go.RowKit Go.Proofs.Ytocgcnmlgkhgpaa.PNumTexts Go.Proofs.Ytocgcnmlgkhgpaa.BNumTexts Go.Proofs.Ytocgcnmlgkhgpaa.NumPure Go.Proofs.YtocgcnmlgkhgpaaW.PrintWords Go.Proofs.YtocgcnmlgkhgpaaW.PrintLast
attribute [local irreducible] enc str
theorem NumTexts : runnellaw01_NumTexts.Pure := by
  intro l s _ _ hl _
  have hb := wf_bytes hl
  have hc := cap_ge
  refine ⟨2 * l.length + 2 * s.size + 100, ?_⟩
  unfold runnellaw01_NumTexts.f
  simp only [runnellaw01_NumTexts.j0]
  rw [live_f (by omega)]
  simp only [Option.bind_some]
  by_cases h : (l.length : Int) > 5000
  · rw [if_pos h]; rfl
  · rw [if_neg h]
    by_cases h2 : (s.size : Int) > 5000
    · rw [decide_eq_true h2]; rfl
    · have hn : s.size < 18446744073709551616 := by omega
      have h10 := enc_ten hn
      have hbl := bytesOf_length s
      have hlen : (l ++ txt s).length = l.length + ((enc s.size).length + s.size) := by rw [txt, List.length_append, List.length_append, hbl]
      have hbb : ∀ x ∈ l ++ txt s, 0 ≤ x ∧ x < 256 := fun x hx => (List.mem_append.1 hx).elim (hb x) (fun hx => (List.mem_append.1 hx).elim (enc_byte _ x) (bytesOf_byte s x))
      have hg := get_enc l (bytesOf s) s.size hn (l.length : Int) rfl
      have hcut := cut_mid (l ++ enc s.size) (bytesOf s) [] (((l.length + (enc s.size).length : Nat) : Int) + (s.size : Int)) ((l.length + (enc s.size).length : Nat) : Int) (by rw [List.length_append, hbl]; omega) (by rw [List.length_append])
      rw [List.append_nil, List.append_assoc] at hcut
      have hR := RText_f s (k := 2 * l.length + 2 * s.size + 99) (by omega) (by omega)
      have hG := GetText_f (k := 2 * l.length + 2 * s.size + 99) (l ++ txt s) hbb (l.length : Int) (s.size : Int) (by rw [hlen]; generalize (enc s.size).length = E at h10 ⊢; omega) (by rw [hlen]; generalize (enc s.size).length = E at h10 ⊢; omega) (by omega)
      have hl2 : strOfNums (l ++ txt s) = strOfNums (l ++ txt s) := rfl
      rw [show NumPure.get (l ++ txt s) (l.length : Int) = ((s.size : Int), ((l.length + (enc s.size).length : Nat) : Int), 0) from hg] at hG
      simp only [if_true] at hG
      rw [if_neg (by omega), if_neg (Int.lt_irrefl _), if_neg (by rw [hlen]; generalize (enc s.size).length = E at h10 ⊢; omega), show l ++ txt s = l ++ (enc s.size ++ bytesOf s) from rfl, hcut] at hG
      have hts : (strOfNums (bytesOf s)).toList = s.toList := by rw [str_of, str_bytesOf]
      rw [decide_eq_false h2, if_neg (show ¬ (false = true) by decide), PutText_f l s (by omega) (by omega)]
      simp only [Option.bind_some]
      rw [show l ++ txt s = l ++ (enc s.size ++ bytesOf s) from rfl, hG, hR]
      simp only [Option.bind_some, runnellaw01_code.f]
      have hsz : (strOfNums l).size + (strOfNums (txt s)).size ≤ 9223372036854775807 := by rw [strOfNums_size, strOfNums_size, txt, List.length_append, hbl]; generalize (enc s.size).length = E at h10 ⊢; omega
      rw [if_pos hsz, if_pos (by rw [toList_append, str_of, str_of, str_of, str_append]; rfl), if_pos hts, if_pos (by rw [show l ++ (enc s.size ++ bytesOf s) = l ++ txt s from rfl, hlen]; omega), if_pos trivial]
end Go.Proofs.Ytocgcnmlgkhgpaa.Pure
