/- Any plan's bytes are those that the document tells, or its fault; told again it is the same plan. -/
import Derived.Test.YtbdpnecnnokkkaaQSheetEncodes
import Derived.Test.YtbdpnecnnokkkaaBSheetEncodes
namespace Go.Proofs.Ytbdpnecnnokkkaa.Pure
open Go.RowKit Go.Proofs.Ytbdpnecnnokkkaa.PSheetEncodes Go.Proofs.Ytbdpnecnnokkkaa.BSheetEncodes Go.Proofs.Ytbdpnecnnokkkaa.EqPure Go.Proofs.Ytbdpnecnnokkkaa.NumPure Go.Proofs.YtbdpnecnnokkkaaW.PrintWords Go.Proofs.YtbdpnecnnokkkaaW.PrintLast
set_option linter.unusedVariables false
theorem nw_of {x : S44} (h : W44 x) : NW x := by
  obtain ⟨_, h1, h2, h3, h4, _⟩ := h
  exact ⟨h1.1, h2.1, h4.1, h3.1, fun y hy => (h3.2 y hy).1⟩
theorem nsum_all (ns : List S44) (h : nsum ns = 0) : ∀ x ∈ ns, nchk x = 0 := by
  induction ns with
  | nil => intro x hx; cases hx
  | cons y t ih =>
    rw [nsum] at h
    by_cases hy : nchk y = 0
    · rw [if_pos hy] at h
      intro x hx
      rcases List.mem_cons.1 hx with rfl | hx
      · exact hy
      · exact ih h x hx
    · rw [if_neg hy] at h; exact absurd h hy
theorem ngood_of (x : S44) (w : W44 x) (h : nchk x = 0) : ngood x := by
  obtain ⟨w0, w1, w2, w3, w4, w5, w6, w7, w8⟩ := w
  unfold nchk at h
  split at h
  · cases h
  · rename_i hl
    split at h
    · cases h
    · rename_i he
      split at h
      · cases h
      · rename_i ht
        have hex : ∀ e ∈ x.f3, egood e := by
          intro e hm
          have h1 : elong e = false := by
            rw [Bool.not_eq_true, List.any_eq_false] at he
            simpa using he e hm
          have h2 : e.any tlong = false := by
            rw [Bool.not_eq_true, List.any_eq_false] at ht
            simpa using ht e hm
          have h3 := of_decide_eq_false h1
          refine ⟨by omega, fun t hmt => ?_⟩
          rw [List.any_eq_false] at h2
          have h4 : tlong t = false := by simpa using h2 t hmt
          have h5 := of_decide_eq_false h4
          have wt := (w3.2 e hm).2 t hmt
          exact ⟨wf_i64 wt.1, wf_i64 wt.2.1, by omega⟩
        exact ⟨wf_i64 w0, by omega, fun a ha => wf_i64 (w1.2 a ha), by omega, fun a ha => wf_i64 (w2.2 a ha), by omega, hex, by omega, fun a ha => wf_i64 (w4.2 a ha), wf_i64 w5, wf_i64 w6, wf_i64 w7, wf_i64 w8⟩
theorem SheetEncodes : runnellaw17_SheetEncodes.Pure := by
  intro p hp
  apply Ev.rounds
  have hw : ∀ x ∈ p.f0, NW x := fun x hx => nw_of (hp.1.2 x hx)
  have hm := hp.1.1
  obtain ⟨b, hb⟩ := Long_ev p.f0 p.f1 p.f2 hm hw
  have hg : pchk p.f0 p.f1 = 0 → pgood p.f0 p.f1 p.f2 := by
    intro h
    unfold pchk at h
    split at h
    · cases h
    · exact ⟨by omega, fun x hx => ngood_of x (hp.1.2 x hx) (nsum_all _ h x hx), by omega, fun a ha => wf_i64 (hp.2.1.2 a ha), wf_i64 hp.2.2⟩
  have henc := encode_ev p.f0 p.f1 p.f2 hm hw hg
  have hchk := chk_ev p.f0 p.f1 p.f2 hm hw
  have hR := Rchk_ev p.f0 p.f1 p.f2 hm hw
  refine Ev.bind (g := fun k => runnelref16_Long.f k p.f0 p.f1 p.f2) hb ?_
  cases b with
  | true => simp only [if_true]; exact Ev.bind live_ev (Ev.now true)
  | false =>
    simp only [Bool.false_eq_true, if_false]
    by_cases h : pchk p.f0 p.f1 = 0
    · have g := hg h
      rw [if_pos h] at henc
      rw [h] at hchk hR
      refine Ev.bind henc (Ev.bind hR ?_)
      simp only [runnellaw17_code.f, Option.bind_some, if_true]
      refine Ev.bind hchk ?_
      simp only [bne_self_eq_false]
      refine Ev.step (f := fun k => (sheet_Decode.f k (pbytes p.f0 p.f1 p.f2)).bind fun d => (runnelref17_Bytes.f k p.f0 p.f1 p.f2).bind fun t => if (strOfNums (pbytes p.f0 p.f1 p.f2)).toList = (strOfNums t).toList then (runnellaw17_code.f d.2.2.2).bind fun c => if c = 0 then (runnelref17_Same.f k p.f0 p.f1 p.f2 d.1 d.2.1 d.2.2.1).bind fun s => if s = true then (runnellaw17_live.f k).bind fun z => some z else some false else some false else some false) (fun k => by simp only [runnellaw17_SheetEncodes.j0]; rfl) ?_
      refine Ev.bind (decode_told _ _ _ g) (Ev.bind (Rbytes_ev _ _ _ g) ?_)
      simp only [runnellaw17_code.f, Option.bind_some, if_true]
      refine Ev.bind (RSame_ev p.f0 p.f0 p.f1 p.f1 p.f2 p.f2 hm hw hp.2.1.1) ?_
      simp only [decide_true, if_true]
      exact Ev.bind live_ev (Ev.now true)
    · rw [if_neg h] at henc
      refine Ev.bind henc (Ev.bind hR ?_)
      simp only [runnellaw17_code.f, Option.bind_some, if_true]
      refine Ev.bind hchk ?_
      simp only [bne_self_eq_false]
      refine Ev.step (f := fun k => (runnellaw17_live.f k).bind fun z => some z) (fun k => ?_) (Ev.bind live_ev (Ev.now true))
      simp only [runnellaw17_SheetEncodes.j0]
      rw [if_neg (show ¬ (false = true) by decide), if_neg h]
      rfl
end Go.Proofs.Ytbdpnecnnokkkaa.Pure
