/- The order of rows is total: of any two just one stands ahead, or they are alike; it goes on over three; a row that is longer by a value is behind. -/
import Derived.Test.YtdbpkfbjcmjkhaaQRowTotal
import Derived.Test.YtdbpkfbjcmjkhaaBRowTotal
namespace Go.Proofs.Ytdbpkfbjcmjkhaa.Pure
open Go.RowKit Go.Proofs.Ytdbpkfbjcmjkhaa.PRowTotal Go.Proofs.Ytdbpkfbjcmjkhaa.BRowTotal Go.Proofs.Ytdbpkfbjcmjkhaa.RowPure Go.Proofs.YtdbpkfbjcmjkhaaW.PrintWords Go.Proofs.YtdbpkfbjcmjkhaaW.PrintLast
set_option linter.unusedVariables false
theorem wrap_small {x : Int} (h : x = -1 ∨ x = 0 ∨ x = 1) : wrap64 (-x) = -x := by
  rcases h with rfl | rfl | rfl <;> decide +kernel
theorem total_j2 {k : Nat} (l : List S28) (v : S28) (hl : l.length ≤ 30) (hk : 100 ≤ k) : runnellaw03_RowTotal.j2 k l false v.f0 v.f1 v.f2 = some true := by
  obtain ⟨k, rfl⟩ : ∃ n, k = n + 1 := ⟨k - 1, by omega⟩
  have hc : maxLen = 9223372036854775807 := by with_unfolding_all rfl
  simp only [runnellaw03_RowTotal.j2]
  have hf : ([l, [v]] : List (List S28)).flatten = l ++ [v] := by simp
  have hv : (⟨v.f0, v.f1, v.f2⟩ : S28) = v := by cases v; rfl
  rw [if_neg (by decide), hv, Join_f [l, [v]] (by rw [hc]; simp) (by simp; omega) (by rw [hf, List.length_append]; simp; omega), hf]
  simp only [Option.bind_some]
  rw [Order_f l (l ++ [v]) (by rw [hc]; omega) (by omega)]
  have e : vs (l ++ [v]) = vs l ++ [toV v] := by simp [vs]
  have e2 : ord (vs l) (vs l ++ [toV v]) = -1 := lex_snoc vcmp_ok _ _
  simp only [Option.bind_some]
  rw [e, e2, if_pos rfl, live_f (by omega)]; rfl
theorem total_j1 {k : Nat} (l m n : List S28) (v : S28) (hl : l.length ≤ 30) (hm : m.length ≤ 30) (hn : n.length ≤ 30) (hk : 102 ≤ k) : runnellaw03_RowTotal.j1 k l m n false v.f0 v.f1 v.f2 = some true := by
  obtain ⟨k, rfl⟩ : ∃ n, k = n + 1 := ⟨k - 1, by omega⟩
  have hc : maxLen = 9223372036854775807 := by with_unfolding_all rfl
  simp only [runnellaw03_RowTotal.j1]
  rw [if_neg (by decide), Order_f l m (by omega) (by omega), Order_f m n (by omega) (by omega), Order_f l n (by omega) (by omega)]
  simp only [Option.bind_some]
  rw [total_j2 l v hl (by omega)]
  by_cases h1 : ord (vs l) (vs m) < 0
  · rw [if_pos h1]
    by_cases h2 : ord (vs m) (vs n) < 0
    · have h3 := ord_ok.lt_trans h1 (by omega : ord (vs m) (vs n) ≤ 0)
      rw [if_pos h2, decide_eq_false (by omega)]
      exact total_j2 l v hl (by omega)
    · rw [if_neg h2]
  · rw [if_neg h1]
theorem total_j0 {k : Nat} (l m n : List S28) (v : S28) (b : Bool) (h : b = false → l.length ≤ 30 ∧ m.length ≤ 30 ∧ n.length ≤ 30) (hk : 104 ≤ k) : runnellaw03_RowTotal.j0 k l m n b v.f0 v.f1 v.f2 = some true := by
  obtain ⟨k, rfl⟩ : ∃ n, k = n + 1 := ⟨k - 1, by omega⟩
  have hc : maxLen = 9223372036854775807 := by with_unfolding_all rfl
  simp only [runnellaw03_RowTotal.j0]
  cases b with
  | true => rw [if_pos rfl, live_f (by omega)]; rfl
  | false =>
    obtain ⟨hl, hm, hn⟩ := h rfl
    rw [if_neg (by decide), Order_f l m (by omega) (by omega), Order_f m l (by omega) (by omega), Order_f l l (by omega) (by omega)]
    simp only [Option.bind_some]
    rw [wrap_small (ord_ok.rng _ _), ord_ok.anti (vs l) (vs m), Int.neg_neg, if_pos rfl, ord_ok.refl]
    exact total_j1 l m n v hl hm hn (by omega)
theorem RowTotal : runnellaw03_RowTotal.Pure := by
  intro l m n v hl hwl hm hwm hn hwn hv
  refine ⟨l.length + m.length + n.length + 200, ?_⟩
  unfold runnellaw03_RowTotal.f
  obtain ⟨b, hb, hbf⟩ := Long_f l hl (k := l.length + m.length + n.length + 200) (by omega)
  obtain ⟨c, hc, hcf⟩ := Long_f m hm (k := l.length + m.length + n.length + 200) (by omega)
  obtain ⟨d, hd, hdf⟩ := Long_f n hn (k := l.length + m.length + n.length + 200) (by omega)
  rw [hb, hc, hd]
  simp only [Option.bind_some]
  cases b with
  | true => rw [if_pos rfl]; exact total_j0 l m n v true (fun e => by cases e) (by omega)
  | false =>
    rw [if_neg (by decide)]
    cases c with
    | true => rw [if_pos rfl]; exact total_j0 l m n v true (fun e => by cases e) (by omega)
    | false =>
      rw [if_neg (by decide)]
      exact total_j0 l m n v d (fun e => ⟨(hbf rfl).1, (hcf rfl).1, (hdf e).1⟩) (by omega)
end Go.Proofs.Ytdbpkfbjcmjkhaa.Pure
