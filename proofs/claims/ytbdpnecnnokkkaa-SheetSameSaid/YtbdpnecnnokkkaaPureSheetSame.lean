/- Whether two plans are alike is told as the document tells it, and each plan is like itself. -/
import Derived.Test.YtbdpnecnnokkkaaQSheetSame
import Derived.Test.YtbdpnecnnokkkaaBSheetSame
namespace Go.Proofs.Ytbdpnecnnokkkaa.Pure
open Go.RowKit Go.Proofs.Ytbdpnecnnokkkaa.PSheetSame Go.Proofs.Ytbdpnecnnokkkaa.BSheetSame Go.Proofs.Ytbdpnecnnokkkaa.EqPure Go.Proofs.YtbdpnecnnokkkaaW.PrintWords Go.Proofs.YtbdpnecnnokkkaaW.PrintLast
set_option linter.unusedVariables false
theorem nw_of {x : S44} (h : W44 x) : NW x := by
  obtain ⟨_, h1, h2, h3, h4, _⟩ := h
  exact ⟨h1.1, h2.1, h4.1, h3.1, fun y hy => (h3.2 y hy).1⟩
theorem len_le {α : Type} (f : α → Nat) (l : List α) : ∃ B, ∀ x ∈ l, f x ≤ B := bound f l
theorem nb_of (l : List S44) : ∃ B, ∀ x ∈ l, NB B x := by
  obtain ⟨B1, h1⟩ := bound (fun x : S44 => x.f1.length) l
  obtain ⟨B2, h2⟩ := bound (fun x : S44 => x.f2.length) l
  obtain ⟨B3, h3⟩ := bound (fun x : S44 => x.f3.length) l
  obtain ⟨B4, h4⟩ := bound (fun x : S44 => x.f4.length) l
  obtain ⟨B5, h5⟩ := bound (fun y : List S52 => y.length) (l.map (·.f3)).flatten
  refine ⟨B1 + B2 + B3 + B4 + B5, fun x hx => ⟨?_, ?_, ?_, ?_, fun y hy => ?_⟩⟩
  · have := h1 x hx; omega
  · have := h2 x hx; omega
  · have := h4 x hx; omega
  · have := h3 x hx; omega
  · have := h5 y (List.mem_flatten.2 ⟨x.f3, List.mem_map.2 ⟨x, hx, rfl⟩, hy⟩); omega
theorem same_ev (l m : List S44) (o q : List Int) (r s : Int) (hw : ∀ x ∈ l, NW x) (hl : l.length ≤ maxLen) (ho : o.length ≤ maxLen) :
    Ev (fun k => sheet_Same.f k l o r m q s) (decide ((r, o, l.map nk) = (s, q, m.map nk))) := by
  obtain ⟨B, hB⟩ := nb_of l
  exact ⟨l.length + o.length + 2 * B + 1, fun k hk => Same_f l m o q r s B hB hw hl ho (by omega)⟩
theorem j0_ev (l m : List S44) (o q : List Int) (r s : Int) (hw : ∀ x ∈ l, NW x) (hl : l.length ≤ maxLen) (ho : o.length ≤ maxLen) (t : Bool) :
    Ev (fun k => runnellaw17_SheetSame.j0 k t l o r m q s) true := by
  cases t with
  | true =>
    have h : ∀ k, runnellaw17_SheetSame.j0 (k + 1) true l o r m q s = (runnellaw17_live.f k).bind fun t => some t := by
      intro k
      simp only [runnellaw17_SheetSame.j0]
      rfl
    exact Ev.step h (Ev.bind live_ev (Ev.now true))
  | false =>
    have h : ∀ k, runnellaw17_SheetSame.j0 (k + 1) false l o r m q s = (sheet_Same.f k l o r m q s).bind fun a => (runnelref17_Same.f k l o r m q s).bind fun b => if (a == b) = true then (sheet_Same.f k l o r l o r).bind fun c => if c = true then (runnellaw17_live.f k).bind fun d => some d else some false else some false := by
      intro k
      simp only [runnellaw17_SheetSame.j0]
      rfl
    refine Ev.step h (Ev.bind (same_ev l m o q r s hw hl ho) (Ev.bind (RSame_ev l m o q r s hl hw ho) ?_))
    simp only [beq_self_eq_true, if_true]
    refine Ev.bind (same_ev l l o o r r hw hl ho) ?_
    simp only [decide_true, if_true]
    exact Ev.bind live_ev (Ev.now true)
theorem SheetSame : runnellaw17_SheetSame.Pure := by
  intro p q hp hq
  apply Ev.rounds
  have hw : ∀ x ∈ p.f0, NW x := fun x hx => nw_of (hp.1.2 x hx)
  have hw' : ∀ x ∈ q.f0, NW x := fun x hx => nw_of (hq.1.2 x hx)
  obtain ⟨b, hb⟩ := Long_ev p.f0 p.f1 p.f2 hp.1.1 hw
  obtain ⟨c, hc⟩ := Long_ev q.f0 q.f1 q.f2 hq.1.1 hw'
  refine Ev.bind (g := fun k => runnelref16_Long.f k p.f0 p.f1 p.f2) hb ?_
  cases b with
  | true => exact j0_ev _ _ _ _ _ _ hw hp.1.1 hp.2.1.1 true
  | false =>
    show Ev (fun n => (runnelref16_Long.f n q.f0 q.f1 q.f2).bind _) true
    exact Ev.bind hc (j0_ev _ _ _ _ _ _ hw hp.1.1 hp.2.1.1 c)
end Go.Proofs.Ytbdpnecnnokkkaa.Pure
