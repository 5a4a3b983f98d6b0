/- The plan, or the fault, that any bytes tell is the one that the document tells; what is told so has those bytes. -/
import Derived.Test.YtbdpnecnnokkkaaBSheetDecodes
namespace Go.Proofs.Ytbdpnecnnokkkaa.Pure
open Go.RowKit Go.Proofs.Ytbdpnecnnokkkaa.PSheetDecodes Go.Proofs.Ytbdpnecnnokkkaa.BSheetDecodes Go.Proofs.Ytbdpnecnnokkkaa.EqPure Go.Proofs.Ytbdpnecnnokkkaa.NumPure Go.Proofs.YtbdpnecnnokkkaaW.PrintWords Go.Proofs.YtbdpnecnnokkkaaW.PrintLast
set_option linter.unusedVariables false
theorem nw_good {x : S44} (h : ngood x) : NW x := by
  have hb := maxLen_big
  exact ⟨by have := h.insl; omega, by have := h.kindsl; omega, by have := h.colsl; omega, by have := h.exprsl; omega, fun y hy => by have := (h.exprs y hy).1; omega⟩
theorem nchk_good {x : S44} (h : ngood x) : nchk x = 0 := by
  have h1 := h.insl; have h2 := h.kindsl; have h3 := h.exprsl; have h4 := h.colsl
  have he : x.f3.any elong = false := by
    rw [List.any_eq_false]
    intro e hm
    have h5 := (h.exprs e hm).1
    rw [elong, decide_eq_false (by omega)]; decide
  have ht : (x.f3.any fun e => e.any tlong) = false := by
    rw [List.any_eq_false]
    intro e hm
    have h5 : e.any tlong = false := by
      rw [List.any_eq_false]
      intro t hm2
      have h6 := ((h.exprs e hm).2 t hm2).str
      rw [tlong, decide_eq_false (by omega)]; decide
    rw [h5]; decide
  unfold nchk
  rw [if_neg (by omega), he, ht]; rfl
theorem nsum_good (ns : List S44) (h : ∀ x ∈ ns, ngood x) : nsum ns = 0 := by
  induction ns with
  | nil => rfl
  | cons y t ih =>
    rw [nsum, if_pos (nchk_good (h y (by simp)))]
    exact ih (fun x hx => h x (by simp [hx]))
theorem SheetDecodes : runnellaw17_SheetDecodes.Pure := by
  intro l _ _ hwl
  apply Ev.rounds
  have hl := wf_bytes hwl
  have hcg := cap_ge
  have hb := maxLen_big
  by_cases h1 : (l.length : Int) > 5000
  · exact Ev.congr (f := fun k => (runnellaw17_live.f k).bind fun t => some t) (fun k => by unfold runnellaw17_SheetDecodes.f; rw [if_pos h1]) (Ev.bind live_ev (Ev.now true))
  · have hc : l.length + 10 ≤ capN := by omega
    refine Ev.congr (f := fun k => (sheet_Decode.f k l).bind fun p => (runnelref17_Decode.f k l).bind fun q => (runnellaw17_code.f p.2.2.2).bind fun t => if t = q.2.2.2 then ((runnelref17_Same.f k p.1 p.2.1 p.2.2.1 q.1 q.2.1 q.2.2.1).bind fun t => if t = true then runnellaw17_SheetDecodes.j0 k l q.2.2.2 ((strOfNums l).toList != (strOfNums l).toList) p.1 p.2.1 p.2.2.1 else runnellaw17_SheetDecodes.j0 k l q.2.2.2 true p.1 p.2.1 p.2.2.1) else runnellaw17_SheetDecodes.j0 k l q.2.2.2 true p.1 p.2.1 p.2.2.1) (fun k => ?_) ?_
    · unfold runnellaw17_SheetDecodes.f
      rw [if_neg h1]
      simp only [Option.bind_some, List.nil_append, List.length_nil, Nat.zero_add]
      rw [if_pos (by omega)]
    · refine Ev.bind (dec_any l hl hc) (Ev.bind (Rdec_any l hl hc) ?_)
      simp only [runnellaw17_code.f, Option.bind_some, if_true, bne_self_eq_false]
      rcases sdec_back l hl with e | ⟨ns, o, r, e, f, g⟩
      · rw [e]
        refine Ev.bind (RSame_ev [] [] [] [] 0 0 (by simp) (fun x hx => by cases hx) (by simp)) ?_
        simp only [decide_true, if_true]
        refine Ev.step (f := fun k => (runnellaw17_live.f k).bind fun t => some t) (fun k => ?_) (Ev.bind live_ev (Ev.now true))
        simp only [runnellaw17_SheetDecodes.j0]
        rw [if_neg (by decide), if_neg (show ¬ (sbad.2.2.2 = 0) by decide)]
      · rw [e]
        have hm : ns.length ≤ maxLen := by have := g.nsl; omega
        have hw : ∀ x ∈ ns, NW x := fun x hx => nw_good (g.ns x hx)
        have hp : pchk ns o = 0 := by
          have h2 := g.nsl; have h3 := g.ol
          unfold pchk
          rw [if_neg (by omega)]; exact nsum_good ns g.ns
        have he := encode_ev ns o r hm hw (fun _ => g)
        rw [if_pos hp] at he
        refine Ev.bind (RSame_ev ns ns o o r r hm hw (by have := g.ol; omega)) ?_
        simp only [decide_true, if_true]
        refine Ev.step (f := fun k => (sheet_Encode.f k ns o r).bind fun b => (runnellaw17_code.f b.2).bind fun t => if t = 0 then (if (strOfNums b.1).toList = (strOfNums l).toList then ((runnellaw17_live.f k).bind fun t => some t) else some false) else some false) (fun k => ?_) (Ev.bind he ?_)
        · simp only [runnellaw17_SheetDecodes.j0]
          rw [if_neg (by decide), if_pos trivial]
        · simp only [runnellaw17_code.f, Option.bind_some, if_true]
          rw [← f]
          simp only [if_true]
          exact Ev.bind live_ev (Ev.now true)
end Go.Proofs.Ytbdpnecnnokkkaa.Pure
