/- SheetSame: what the printed functions answer, for each input, by plain mathematics. -/
import Derived.Test.YtbdpnecnnokkkaaOSheetSamex
import Derived.Test.YtbdpnecnnokkkaaEqPure
namespace Go.Proofs.Ytbdpnecnnokkkaa.BSheetSame
open Go.RowKit Go.Proofs.Ytbdpnecnnokkkaa.PSheetSame Go.Proofs.Ytbdpnecnnokkkaa.EqPure Go.Proofs.YtbdpnecnnokkkaaW.PrintWords Go.Proofs.YtbdpnecnnokkkaaW.PrintLast Go.Proofs.YtbdpnecnnokkkaaW.PrintMore
set_option linter.unusedVariables false
set_option linter.unusedSimpArgs false
attribute [local irreducible] IntKind.wrap Go.bits shr shl maxLen
/-- What two terms, two nodes, two plans are compared by. -/
def tk (x : S52) : Int × Int × List UInt8 := (x.f0, x.f1, x.f2.toList)
def ek (l : List S52) : List (Int × Int × List UInt8) := l.map tk
abbrev NK := ((Int × Int × Int × Int × Int) × (List Int × List Int × List Int)) × List (List (Int × Int × List UInt8))
noncomputable instance : DecidableEq NK := fun a b => Classical.propDecidable (a = b)
def nk (x : S44) : NK := (((x.f0, x.f5, x.f6, x.f7, x.f8), (x.f1, x.f2, x.f4)), x.f3.map ek)
theorem wrapi {i n : Nat} (h : i < n) (hn : n ≤ maxLen) : wrap64 ((i : Int) + 1) = ((i + 1 : Nat) : Int) := by
  have : maxLen = 9223372036854775807 := by with_unfolding_all rfl
  have e : wrap64 ((i : Int) + 1) = ((i : Int) + 1 + 9223372036854775808) % 18446744073709551616 - 9223372036854775808 := by with_unfolding_all rfl
  rw [e]; omega
theorem rdI (l : List Int) (i : Nat) (h : i < l.length) : rd l (i : Int) = l[i] := by unfold rd; rw [Int.toNat_natCast, List.getD_eq_getElem?_getD, List.getElem?_eq_getElem h]; rfl
theorem rdT (l : List S52) (i : Nat) (h : i < l.length) : rd_T52 l (i : Int) = l[i] := by unfold rd_T52; rw [Int.toNat_natCast, List.getD_eq_getElem?_getD, List.getElem?_eq_getElem h]; rfl
theorem rdN (l : List S44) (i : Nat) (h : i < l.length) : rd_T44 l (i : Int) = l[i] := by unfold rd_T44; rw [Int.toNat_natCast, List.getD_eq_getElem?_getD, List.getElem?_eq_getElem h]; rfl
theorem rdE (l : List (List S52)) (i : Nat) (h : i < l.length) : rd_L4 l (i : Int) = l[i] := by unfold rd_L4; rw [Int.toNat_natCast, List.getD_eq_getElem?_getD, List.getElem?_eq_getElem h]; rfl
theorem ints_l0 (l m : List Int) (hl : l.length ≤ maxLen) (he : l.length = m.length) (d : Nat) : ∀ (k i : Nat), i + d = l.length → d < k →
    slices_Equal_int_int.l0 k l m (l.length : Int) (i : Int) = some (decide ((l.drop i).map id = (m.drop i).map id)) := by
  induction d with
  | zero =>
    intro k i hi hk
    obtain ⟨k, rfl⟩ : ∃ n, k = n + 1 := ⟨k - 1, by omega⟩
    simp only [slices_Equal_int_int.l0]
    rw [if_neg (by omega), decide_end id l m i (by omega) (by omega)]
  | succ d ih =>
    intro k i hi hk
    obtain ⟨k, rfl⟩ : ∃ n, k = n + 1 := ⟨k - 1, by omega⟩
    simp only [slices_Equal_int_int.l0]
    rw [if_pos (by omega), if_pos (by omega), if_pos (by omega), if_pos (by omega), rdI l i (by omega), rdI m i (by omega), wrapi (n := l.length) (by omega) hl, ih k (i + 1) (by omega) (by omega), decide_step id l m i (by omega) (by omega)]
    by_cases h : l[i]'(by omega) = m[i]'(by omega)
    · rw [if_pos h, decide_eq_true (show id _ = id _ from h)]; rfl
    · rw [if_neg h, decide_eq_false (show ¬ id _ = id _ from h)]; rfl
theorem ints_f {k : Nat} (l m : List Int) (hl : l.length ≤ maxLen) (hk : l.length < k) : slices_Equal_int_int.f k l m = some (decide (l = m)) := by
  unfold slices_Equal_int_int.f
  by_cases h : l.length = m.length
  · rw [if_pos (by omega)]
    have := ints_l0 l m hl h l.length k 0 (by omega) hk
    rw [show ((0 : Nat) : Int) = 0 from rfl] at this
    rw [this]; simp
  · rw [if_neg (by omega)]
    have := decide_len id l m h
    simp only [List.map_id] at this
    rw [this]
theorem rints_l0 (l m : List Int) (hl : l.length ≤ maxLen) (he : l.length = m.length) (d : Nat) : ∀ (k i : Nat), i + d = l.length → d < k →
    runnelref16_same.l0 k l m (i : Int) = some (decide ((l.drop i).map id = (m.drop i).map id)) := by
  induction d with
  | zero =>
    intro k i hi hk
    obtain ⟨k, rfl⟩ : ∃ n, k = n + 1 := ⟨k - 1, by omega⟩
    simp only [runnelref16_same.l0]
    rw [if_neg (by omega), decide_end id l m i (by omega) (by omega)]
  | succ d ih =>
    intro k i hi hk
    obtain ⟨k, rfl⟩ : ∃ n, k = n + 1 := ⟨k - 1, by omega⟩
    simp only [runnelref16_same.l0]
    rw [if_pos (by omega), if_pos (by omega), if_pos (by omega), rdI l i (by omega), rdI m i (by omega), wrapi (n := l.length) (by omega) hl, ih k (i + 1) (by omega) (by omega), decide_step id l m i (by omega) (by omega)]
    by_cases h : l[i]'(by omega) = m[i]'(by omega)
    · rw [if_pos h, decide_eq_true (show id _ = id _ from h)]; rfl
    · rw [if_neg h, decide_eq_false (show ¬ id _ = id _ from h)]; rfl
theorem rints_f {k : Nat} (l m : List Int) (hl : l.length ≤ maxLen) (hk : l.length < k) : runnelref16_Same.f k l m = some (decide (l = m)) := by
  unfold runnelref16_Same.f runnelref16_same.f
  by_cases h : l.length = m.length
  · rw [if_pos (by omega)]
    have := rints_l0 l m hl h l.length k 0 (by omega) hk
    rw [show ((0 : Nat) : Int) = 0 from rfl] at this
    rw [this]; simp
  · rw [if_neg (by omega)]
    have := decide_len id l m h
    simp only [List.map_id] at this
    rw [this]; rfl
theorem term_test (a b : S52) : (!(a.f0 == b.f0) || (!(a.f1 == b.f1) || (!(a.f2.toList == b.f2.toList)))) = !decide (tk a = tk b) := by
  unfold tk
  by_cases h0 : a.f0 = b.f0
  · by_cases h1 : a.f1 = b.f1
    · by_cases h2 : a.f2.toList = b.f2.toList
      · simp [h0, h1, h2]
      · simp [h0, h1, h2]
    · simp [h0, h1]
  · simp [h0]
theorem terms_l0 (l m : List S52) (hl : l.length ≤ maxLen) (he : l.length = m.length) (d : Nat) : ∀ (k i : Nat), i + d = l.length → d < k →
    api_Term_23.l0 k l m (l.length : Int) (i : Int) = some (decide ((l.drop i).map tk = (m.drop i).map tk)) := by
  induction d with
  | zero =>
    intro k i hi hk
    obtain ⟨k, rfl⟩ : ∃ n, k = n + 1 := ⟨k - 1, by omega⟩
    simp only [api_Term_23.l0]
    rw [if_neg (by omega), decide_end tk l m i (by omega) (by omega)]
  | succ d ih =>
    intro k i hi hk
    obtain ⟨k, rfl⟩ : ∃ n, k = n + 1 := ⟨k - 1, by omega⟩
    simp only [api_Term_23.l0]
    rw [if_pos (by omega), if_pos (by omega), if_pos (by omega), if_pos (by omega), rdT l i (by omega), rdT m i (by omega), term_test, wrapi (n := l.length) (by omega) hl, ih k (i + 1) (by omega) (by omega), decide_step tk l m i (by omega) (by omega)]
    by_cases h : tk (l[i]'(by omega)) = tk (m[i]'(by omega))
    · rw [decide_eq_true h]; rfl
    · rw [decide_eq_false h]; rfl
theorem terms_f {k : Nat} (l m : List S52) (hl : l.length ≤ maxLen) (hk : l.length < k) : sheet_Same_1_1.f k l m = some (decide (ek l = ek m)) := by
  unfold sheet_Same_1_1.f api_Term_23.f ek
  by_cases h : l.length = m.length
  · rw [if_pos (by omega)]
    have := terms_l0 l m hl h l.length k 0 (by omega) hk
    rw [show ((0 : Nat) : Int) = 0 from rfl] at this
    rw [this]; rfl
  · rw [if_neg (by omega), decide_len tk l m h]; rfl
theorem exprs_l0 (l m : List (List S52)) (B : Nat) (hB : ∀ x ∈ l, x.length ≤ B) (hw : ∀ x ∈ l, x.length ≤ maxLen) (hl : l.length ≤ maxLen) (he : l.length = m.length) (d : Nat) : ∀ (k i : Nat), i + d = l.length → d + B < k →
    api_Term_21.l0 k m l (l.length : Int) (i : Int) = some (decide ((l.drop i).map ek = (m.drop i).map ek)) := by
  induction d with
  | zero =>
    intro k i hi hk
    obtain ⟨k, rfl⟩ : ∃ n, k = n + 1 := ⟨k - 1, by omega⟩
    simp only [api_Term_21.l0]
    rw [if_neg (by omega), decide_end ek l m i (by omega) (by omega)]
  | succ d ih =>
    intro k i hi hk
    obtain ⟨k, rfl⟩ : ∃ n, k = n + 1 := ⟨k - 1, by omega⟩
    have h1 := hB (l[i]'(by omega)) (List.getElem_mem _)
    have h2 := hw (l[i]'(by omega)) (List.getElem_mem _)
    simp only [api_Term_21.l0]
    rw [if_pos (by omega), if_pos (by omega), if_pos (by omega), if_pos (by omega), rdE l i (by omega), rdE m i (by omega), terms_f _ _ h2 (by omega), wrapi (n := l.length) (by omega) hl, ih k (i + 1) (by omega) (by omega), decide_step ek l m i (by omega) (by omega)]
    by_cases h : ek (l[i]'(by omega)) = ek (m[i]'(by omega))
    · rw [decide_eq_true h]; rfl
    · rw [decide_eq_false h]; rfl
theorem exprs_f {k : Nat} (l m : List (List S52)) (B : Nat) (hB : ∀ x ∈ l, x.length ≤ B) (hw : ∀ x ∈ l, x.length ≤ maxLen) (hl : l.length ≤ maxLen) (hk : l.length + B < k) (b : Bool) : api_Term_21.f k l m b = some (decide (l.map ek = m.map ek)) := by
  unfold api_Term_21.f
  by_cases h : l.length = m.length
  · rw [if_pos (by omega)]
    have := exprs_l0 l m B hB hw hl h l.length k 0 (by omega) hk
    rw [show ((0 : Nat) : Int) = 0 from rfl] at this
    rw [this]; rfl
  · rw [if_neg (by omega), decide_len ek l m h]
/-- How great a node's parts are. -/
def NB (B : Nat) (a : S44) : Prop := a.f1.length ≤ B ∧ a.f2.length ≤ B ∧ a.f4.length ≤ B ∧ a.f3.length ≤ B ∧ ∀ x ∈ a.f3, x.length ≤ B
def NW (a : S44) : Prop := a.f1.length ≤ maxLen ∧ a.f2.length ≤ maxLen ∧ a.f4.length ≤ maxLen ∧ a.f3.length ≤ maxLen ∧ ∀ x ∈ a.f3, x.length ≤ maxLen
theorem node_f {k : Nat} (a b : S44) (B : Nat) (hB : NB B a) (hw : NW a) (hk : 2 * B < k) :
    sheet_Same_1.f k a.f0 a.f1 a.f2 a.f3 a.f4 a.f5 a.f6 a.f7 a.f8 b.f0 b.f1 b.f2 b.f3 b.f4 b.f5 b.f6 b.f7 b.f8 = some (decide (nk a = nk b)) := by
  obtain ⟨b1, b2, b4, b3, bx⟩ := hB
  obtain ⟨w1, w2, w4, w3, wx⟩ := hw
  unfold sheet_Same_1.f nk
  rw [exprs_f a.f3 b.f3 B bx wx w3 (by omega), ints_f a.f1 b.f1 w1 (by omega), ints_f a.f2 b.f2 w2 (by omega), ints_f a.f4 b.f4 w4 (by omega)]
  simp only [Option.bind_some]
  by_cases h3 : a.f3.map ek = b.f3.map ek
  · rw [decide_eq_true h3, if_pos rfl]
    by_cases h0 : a.f0 = b.f0
    · by_cases h5 : a.f5 = b.f5
      · by_cases h6 : a.f6 = b.f6
        · by_cases h7 : a.f7 = b.f7
          · by_cases h8 : a.f8 = b.f8
            · by_cases h1 : a.f1 = b.f1
              · by_cases h2 : a.f2 = b.f2
                · by_cases h4 : a.f4 = b.f4
                  · simp [h0, h1, h2, h3, h4, h5, h6, h7, h8]
                  · simp [h0, h1, h2, h3, h4, h5, h6, h7, h8]
                · simp [h0, h1, h2, h3, h5, h6, h7, h8]
              · simp [h0, h1, h3, h5, h6, h7, h8]
            · simp [h0, h3, h5, h6, h7, h8]
          · simp [h0, h3, h5, h6, h7]
        · simp [h0, h3, h5, h6]
      · simp [h0, h3, h5]
    · simp [h0, h3]
  · rw [decide_eq_false h3, if_neg (by decide)]
    simp [h3]
theorem nodes_l0 (l m : List S44) (B : Nat) (hB : ∀ x ∈ l, NB B x) (hw : ∀ x ∈ l, NW x) (hl : l.length ≤ maxLen) (he : l.length = m.length) (d : Nat) : ∀ (k i : Nat), i + d = l.length → d + 2 * B < k →
    api_Node_19.l0 k m l (l.length : Int) (i : Int) = some (decide ((l.drop i).map nk = (m.drop i).map nk)) := by
  induction d with
  | zero =>
    intro k i hi hk
    obtain ⟨k, rfl⟩ : ∃ n, k = n + 1 := ⟨k - 1, by omega⟩
    simp only [api_Node_19.l0]
    rw [if_neg (by omega), decide_end nk l m i (by omega) (by omega)]
  | succ d ih =>
    intro k i hi hk
    obtain ⟨k, rfl⟩ : ∃ n, k = n + 1 := ⟨k - 1, by omega⟩
    have h1 := hB (l[i]'(by omega)) (List.getElem_mem _)
    have h2 := hw (l[i]'(by omega)) (List.getElem_mem _)
    simp only [api_Node_19.l0]
    rw [if_pos (by omega), if_pos (by omega), if_pos (by omega), if_pos (by omega), rdN l i (by omega), rdN m i (by omega), node_f _ _ B h1 h2 (by omega), wrapi (n := l.length) (by omega) hl, ih k (i + 1) (by omega) (by omega), decide_step nk l m i (by omega) (by omega)]
    by_cases h : nk (l[i]'(by omega)) = nk (m[i]'(by omega))
    · rw [decide_eq_true h]; rfl
    · rw [decide_eq_false h]; rfl
theorem nodes_f {k : Nat} (l m : List S44) (B : Nat) (hB : ∀ x ∈ l, NB B x) (hw : ∀ x ∈ l, NW x) (hl : l.length ≤ maxLen) (hk : l.length + 2 * B < k) (b : Bool) : api_Node_19.f k l m b = some (decide (l.map nk = m.map nk)) := by
  unfold api_Node_19.f
  by_cases h : l.length = m.length
  · rw [if_pos (by omega)]
    have := nodes_l0 l m B hB hw hl h l.length k 0 (by omega) hk
    rw [show ((0 : Nat) : Int) = 0 from rfl] at this
    rw [this]; rfl
  · rw [if_neg (by omega), decide_len nk l m h]
theorem Same_f {k : Nat} (l m : List S44) (o q : List Int) (r s : Int) (B : Nat) (hB : ∀ x ∈ l, NB B x) (hw : ∀ x ∈ l, NW x) (hl : l.length ≤ maxLen) (ho : o.length ≤ maxLen) (hk : l.length + o.length + 2 * B < k) :
    sheet_Same.f k l o r m q s = some (decide ((r, o, l.map nk) = (s, q, m.map nk))) := by
  unfold sheet_Same.f
  rw [ints_f o q ho (by omega), nodes_f l m B hB hw hl (by omega)]
  simp only [Option.bind_some]
  by_cases h1 : r = s
  · by_cases h2 : o = q
    · simp [h1, h2]
    · simp [h1, h2]
  · simp [h1]
section
variable (ns ms : List S44) (o q : List Int) (r s : Int)
def L0 (i : Int) (k : Nat) : Option Bool := runnelref17_Same.l0 k i ns o r ms q s
def J2 (a b : S44) (x : Int) (t : Bool) (k : Nat) : Option Bool := runnelref17_Same.j2 k x t ns o r ms q s a.f0 a.f1 a.f2 a.f3 a.f4 a.f5 a.f6 a.f7 a.f8 b.f0 b.f1 b.f2 b.f3 b.f4 b.f5 b.f6 b.f7 b.f8
def L1 (a b : S44) (x e : Int) (k : Nat) : Option Bool := runnelref17_Same.l1 k x e ns o r ms q s a.f0 a.f1 a.f2 a.f3 a.f4 a.f5 a.f6 a.f7 a.f8 b.f0 b.f1 b.f2 b.f3 b.f4 b.f5 b.f6 b.f7 b.f8
def L2 (a b : S44) (x e j : Int) (k : Nat) : Option Bool := runnelref17_Same.l2 k x e j ns o r ms q s a.f0 a.f1 a.f2 a.f3 a.f4 a.f5 a.f6 a.f7 a.f8 b.f0 b.f1 b.f2 b.f3 b.f4 b.f5 b.f6 b.f7 b.f8
theorem L2_ev (a b : S44) (x : Int) (e : Nat) (he : e < a.f3.length) (he' : e < b.f3.length) (hlen : (a.f3[e]).length = (b.f3[e]).length) (hm : (a.f3[e]).length ≤ maxLen) (hm3 : a.f3.length ≤ maxLen)
    (R : Bool) (h : Ev (L1 ns ms o q r s a b x ((e + 1 : Nat) : Int)) R) (d : Nat) : ∀ j : Nat, j + d = (a.f3[e]).length →
    Ev (L2 ns ms o q r s a b x e j) (decide (((a.f3[e]).drop j).map tk = ((b.f3[e]).drop j).map tk) && R) := by
  induction d with
  | zero =>
    intro j hj
    rw [decide_end tk _ _ j (by omega) (by omega), Bool.true_and]
    refine Ev.step (fun k => ?_) h
    show runnelref17_Same.l2 (k + 1) _ _ _ _ _ _ _ _ _ _ _ _ _ _ _ _ _ _ _ _ _ _ _ _ _ _ _ = _
    simp only [runnelref17_Same.l2]
    rw [rdE a.f3 e he, if_pos (by omega), if_pos (by omega), if_neg (by omega), wrapi (n := a.f3.length) he hm3]
    rfl
  | succ d ih =>
    intro j hj
    rw [decide_step tk _ _ j (by omega) (by omega)]
    by_cases ht : tk ((a.f3[e])[j]'(by omega)) = tk ((b.f3[e])[j]'(by omega))
    · rw [decide_eq_true ht, Bool.true_and]
      refine Ev.step (fun k => ?_) (ih (j + 1) (by omega))
      show runnelref17_Same.l2 (k + 1) _ _ _ _ _ _ _ _ _ _ _ _ _ _ _ _ _ _ _ _ _ _ _ _ _ _ _ = _
      simp only [runnelref17_Same.l2]
      rw [rdE a.f3 e he, rdE b.f3 e he', if_pos (by omega), if_pos (by omega), if_pos (by omega), if_pos (by omega), if_pos (by omega), if_pos (by omega), rdT _ j (by omega), rdT _ j (by omega), term_test, decide_eq_true ht, wrapi (n := (a.f3[e]).length) (by omega) hm]
      rfl
    · rw [decide_eq_false ht, Bool.false_and, Bool.false_and]
      refine Ev.step (fun k => ?_) (Ev.now false)
      show runnelref17_Same.l2 (k + 1) _ _ _ _ _ _ _ _ _ _ _ _ _ _ _ _ _ _ _ _ _ _ _ _ _ _ _ = _
      simp only [runnelref17_Same.l2]
      rw [rdE a.f3 e he, rdE b.f3 e he', if_pos (by omega), if_pos (by omega), if_pos (by omega), if_pos (by omega), if_pos (by omega), if_pos (by omega), rdT _ j (by omega), rdT _ j (by omega), term_test, decide_eq_false ht]
      rfl
theorem L1_ev (a b : S44) (x : Nat) (hx : x < ns.length) (hns : ns.length ≤ maxLen) (hw : NW a) (hlen : a.f3.length = b.f3.length)
    (R : Bool) (h : Ev (L0 ns ms o q r s ((x + 1 : Nat) : Int)) R) (d : Nat) : ∀ e : Nat, e + d = a.f3.length →
    Ev (L1 ns ms o q r s a b x e) (decide ((a.f3.drop e).map ek = (b.f3.drop e).map ek) && R) := by
  induction d with
  | zero =>
    intro e he
    rw [decide_end ek _ _ e (by omega) (by omega), Bool.true_and]
    refine Ev.step (fun k => ?_) h
    show runnelref17_Same.l1 (k + 1) _ _ _ _ _ _ _ _ _ _ _ _ _ _ _ _ _ _ _ _ _ _ _ _ _ _ = _
    simp only [runnelref17_Same.l1]
    rw [if_neg (by omega), wrapi (n := ns.length) hx hns]
    rfl
  | succ d ih =>
    intro e he
    have h1 : e < a.f3.length := by omega
    have h2 : e < b.f3.length := by omega
    rw [decide_step ek _ _ e h1 h2]
    by_cases hl : (a.f3[e]).length = (b.f3[e]).length
    · rw [Bool.and_assoc]
      have := L2_ev ns ms o q r s a b x e h1 h2 hl (hw.2.2.2.2 _ (List.getElem_mem _)) hw.2.2.2.1 _ (ih (e + 1) (by omega)) (a.f3[e]).length 0 (by omega)
      refine Ev.step (fun k => ?_) this
      show runnelref17_Same.l1 (k + 1) _ _ _ _ _ _ _ _ _ _ _ _ _ _ _ _ _ _ _ _ _ _ _ _ _ _ = _
      simp only [runnelref17_Same.l1]
      rw [rdE a.f3 e h1, rdE b.f3 e h2, if_pos (by omega), if_pos (by omega), if_pos (by omega), if_pos (by omega)]
      rfl
    · have hne : ¬ ek a.f3[e] = ek b.f3[e] := fun e_ => hl (by have := congrArg List.length e_; simpa [ek] using this)
      rw [decide_eq_false hne, Bool.false_and, Bool.false_and]
      refine Ev.step (fun k => ?_) (Ev.now false)
      show runnelref17_Same.l1 (k + 1) _ _ _ _ _ _ _ _ _ _ _ _ _ _ _ _ _ _ _ _ _ _ _ _ _ _ = _
      simp only [runnelref17_Same.l1]
      rw [rdE a.f3 e h1, rdE b.f3 e h2, if_pos (by omega), if_pos (by omega), if_pos (by omega), if_neg (by omega)]
theorem J2_true (a b : S44) (x : Int) : Ev (J2 ns ms o q r s a b x true) false := by
  refine Ev.step (fun k => ?_) (Ev.now false)
  show runnelref17_Same.j2 (k + 1) _ _ _ _ _ _ _ _ _ _ _ _ _ _ _ _ _ _ _ _ _ _ _ _ _ _ = _
  simp only [runnelref17_Same.j2]
  rfl
theorem ints_ev (l m : List Int) (hl : l.length ≤ maxLen) : Ev (fun k => runnelref16_Same.f k l m) (decide (l = m)) := ⟨l.length + 1, fun k hk => rints_f l m hl (by omega)⟩
theorem L0_ev (hns : ns.length ≤ maxLen) (hw : ∀ x ∈ ns, NW x) (hlen : ns.length = ms.length) (d : Nat) : ∀ i : Nat, i + d = ns.length →
    Ev (L0 ns ms o q r s i) (decide ((ns.drop i).map nk = (ms.drop i).map nk)) := by
  induction d with
  | zero =>
    intro i hi
    rw [decide_end nk _ _ i (by omega) (by omega)]
    refine Ev.step (fun k => ?_) (Ev.now true)
    show runnelref17_Same.l0 (k + 1) _ _ _ _ _ _ _ = _
    simp only [runnelref17_Same.l0]
    rw [if_neg (by omega)]
  | succ d ih =>
    intro i hi
    have h1 : i < ns.length := by omega
    have h2 : i < ms.length := by omega
    have hwi := hw _ (List.getElem_mem h1)
    have rest := ih (i + 1) (by omega)
    rw [decide_step nk _ _ i h1 h2]
    generalize hR : decide ((ns.drop (i + 1)).map nk = (ms.drop (i + 1)).map nk) = R at rest ⊢
    have ea := rdN ns i h1
    have eb := rdN ms i h2
    generalize hA : ns[i] = a at ea hwi ⊢
    generalize hB : ms[i] = b at eb ⊢
    have bad := J2_true ns ms o q r s a b i
    have good : ∀ t : Bool, t = false → a.f3.length = b.f3.length → Ev (J2 ns ms o q r s a b i t) (decide (a.f3.map ek = b.f3.map ek) && R) := by
      rintro t rfl hl
      have := L1_ev ns ms o q r s a b i h1 hns hwi hl R rest a.f3.length 0 (by omega)
      refine Ev.step (fun k => ?_) this
      show runnelref17_Same.j2 (k + 1) _ _ _ _ _ _ _ _ _ _ _ _ _ _ _ _ _ _ _ _ _ _ _ _ _ _ = _
      simp only [runnelref17_Same.j2]
      rfl
    have start : ∀ k, L0 ns ms o q r s i (k + 1) = (if a.f0 = b.f0 then (if a.f5 = b.f5 then (if a.f6 = b.f6 then (if a.f7 = b.f7 then (if a.f8 = b.f8 then ((runnelref16_Same.f k a.f1 b.f1).bind fun t => if t = true then ((runnelref16_Same.f k a.f2 b.f2).bind fun t => if t = true then ((runnelref16_Same.f k a.f4 b.f4).bind fun t => if t = true then J2 ns ms o q r s a b i ((a.f3.length : Int) != (b.f3.length : Int)) k else J2 ns ms o q r s a b i true k) else J2 ns ms o q r s a b i true k) else J2 ns ms o q r s a b i true k) else J2 ns ms o q r s a b i true k) else J2 ns ms o q r s a b i true k) else J2 ns ms o q r s a b i true k) else J2 ns ms o q r s a b i true k) else J2 ns ms o q r s a b i true k) := by
      intro k
      show runnelref17_Same.l0 (k + 1) _ _ _ _ _ _ _ = _
      simp only [runnelref17_Same.l0]
      rw [ea, eb, if_pos (by omega), if_pos (by omega), if_pos (by omega)]
      rfl
    refine Ev.step start ?_
    have nf : ∀ {p : Bool}, (decide (nk a = nk b) && R) = p → p = false ∨ (nk a = nk b ∧ p = R) := by
      intro p hp
      by_cases h : nk a = nk b
      · exact .inr ⟨h, by rw [← hp, decide_eq_true h, Bool.true_and]⟩
      · exact .inl (by rw [← hp, decide_eq_false h, Bool.false_and])
    have no : ∀ P : Prop, ¬ P → (nk a = nk b → P) → (decide (nk a = nk b) && R) = false := fun P hP hi => by rw [decide_eq_false (fun e => hP (hi e)), Bool.false_and]
    by_cases c0 : a.f0 = b.f0
    · by_cases c5 : a.f5 = b.f5
      · by_cases c6 : a.f6 = b.f6
        · by_cases c7 : a.f7 = b.f7
          · by_cases c8 : a.f8 = b.f8
            · simp only [c0, c5, c6, c7, c8, if_true]
              refine Ev.bind (ints_ev a.f1 b.f1 hwi.1) ?_
              by_cases c1 : a.f1 = b.f1
              · simp only [decide_eq_true c1, if_true]
                refine Ev.bind (ints_ev a.f2 b.f2 hwi.2.1) ?_
                by_cases c2 : a.f2 = b.f2
                · simp only [decide_eq_true c2, if_true]
                  refine Ev.bind (ints_ev a.f4 b.f4 hwi.2.2.1) ?_
                  by_cases c4 : a.f4 = b.f4
                  · simp only [decide_eq_true c4, if_true]
                    by_cases c3 : a.f3.length = b.f3.length
                    · have e : decide (nk a = nk b) = decide (a.f3.map ek = b.f3.map ek) := by
                        apply decide_eq_decide.2
                        unfold nk
                        simp [c0, c1, c2, c4, c5, c6, c7, c8]
                      rw [e]
                      exact good _ (bne_eq_false_iff_eq.2 (by omega)) c3
                    · rw [no _ c3 (fun e => by unfold nk at e; simp at e; have := congrArg List.length e.2; simpa using this), show ((a.f3.length : Int) != (b.f3.length : Int)) = true from bne_iff_ne.2 (by omega)]
                      exact bad
                  · simp only [decide_eq_false c4, Bool.false_eq_true, if_false]
                    rw [no _ c4 (fun e => by unfold nk at e; simp at e; exact e.1.2.2.2)]
                    exact bad
                · simp only [decide_eq_false c2, Bool.false_eq_true, if_false]
                  rw [no _ c2 (fun e => by unfold nk at e; simp at e; exact e.1.2.2.1)]
                  exact bad
              · simp only [decide_eq_false c1, Bool.false_eq_true, if_false]
                rw [no _ c1 (fun e => by unfold nk at e; simp at e; exact e.1.2.1)]
                exact bad
            · simp only [c0, c5, c6, c7, c8, if_true, if_false]
              rw [no _ c8 (fun e => by unfold nk at e; simp at e; exact e.1.1.2.2.2.2)]
              exact bad
          · simp only [c0, c5, c6, c7, if_true, if_false]
            rw [no _ c7 (fun e => by unfold nk at e; simp at e; exact e.1.1.2.2.2.1)]
            exact bad
        · simp only [c0, c5, c6, if_true, if_false]
          rw [no _ c6 (fun e => by unfold nk at e; simp at e; exact e.1.1.2.2.1)]
          exact bad
      · simp only [c0, c5, if_true, if_false]
        rw [no _ c5 (fun e => by unfold nk at e; simp at e; exact e.1.1.2.1)]
        exact bad
    · simp only [c0, if_false]
      rw [no _ c0 (fun e => by unfold nk at e; simp at e; exact e.1.1.1)]
      exact bad
theorem RSame_ev (hns : ns.length ≤ maxLen) (hw : ∀ x ∈ ns, NW x) (ho : o.length ≤ maxLen) :
    Ev (fun k => runnelref17_Same.f k ns o r ms q s) (decide ((r, o, ns.map nk) = (s, q, ms.map nk))) := by
  have jbad : Ev (fun k => runnelref17_Same.j0 k true ns o r ms q s) false := by
    refine Ev.step (fun k => ?_) (Ev.now false)
    simp only [runnelref17_Same.j0]
    rfl
  by_cases h1 : r = s
  · have e : ∀ k, runnelref17_Same.f k ns o r ms q s = (runnelref16_Same.f k o q).bind fun t => if t = true then runnelref17_Same.j0 k ((ns.length : Int) != (ms.length : Int)) ns o r ms q s else runnelref17_Same.j0 k true ns o r ms q s := by
      intro k
      unfold runnelref17_Same.f
      rw [if_pos h1]
    refine Ev.congr e (Ev.bind (ints_ev o q ho) ?_)
    by_cases h2 : o = q
    · simp only [decide_eq_true h2, if_true]
      by_cases h3 : ns.length = ms.length
      · have l0 := L0_ev ns ms o q r s hns hw h3 ns.length 0 (by omega)
        rw [show ((ns.length : Int) != (ms.length : Int)) = false from bne_eq_false_iff_eq.2 (by omega)]
        have e2 : decide ((r, o, ns.map nk) = (s, q, ms.map nk)) = decide ((ns.drop 0).map nk = (ms.drop 0).map nk) := by
          apply decide_eq_decide.2
          simp [h1, h2]
        rw [e2]
        refine Ev.step (fun k => ?_) l0
        simp only [runnelref17_Same.j0]
        rfl
      · rw [show ((ns.length : Int) != (ms.length : Int)) = true from bne_iff_ne.2 (by omega), show decide ((r, o, ns.map nk) = (s, q, ms.map nk)) = false from decide_eq_false (fun e => h3 (by have := congrArg (fun z => z.2.2.length) e; simpa using this))]
        exact jbad
    · simp only [decide_eq_false h2, Bool.false_eq_true, if_false]
      rw [show decide ((r, o, ns.map nk) = (s, q, ms.map nk)) = false from decide_eq_false (fun e => h2 (congrArg (fun z => z.2.1) e))]
      exact jbad
  · have e : ∀ k, runnelref17_Same.f k ns o r ms q s = runnelref17_Same.j0 k true ns o r ms q s := by
      intro k
      unfold runnelref17_Same.f
      rw [if_neg h1]
    refine Ev.congr e ?_
    rw [show decide ((r, o, ns.map nk) = (s, q, ms.map nk)) = false from decide_eq_false (fun e => h1 (congrArg (fun z => z.1) e))]
    exact jbad
end
theorem Long08_l0 (l : List S52) (hm : l.length ≤ maxLen) (d : Nat) : ∀ i : Nat, i + d = l.length → ∃ b, Ev (fun k => runnelref08_Long.l0 k l (i : Int)) b := by
  induction d with
  | zero =>
    intro i hi
    refine ⟨false, Ev.step (fun k => ?_) (Ev.now false)⟩
    simp only [runnelref08_Long.l0]
    rw [if_neg (by omega)]
  | succ d ih =>
    intro i hi
    by_cases h : ((rd_T52 l (i : Int)).f2.size : Int) > 5000
    · refine ⟨true, Ev.step (fun k => ?_) (Ev.now true)⟩
      simp only [runnelref08_Long.l0]
      rw [if_pos (by omega), if_pos (by omega), if_pos h]
    · obtain ⟨b, hb⟩ := ih (i + 1) (by omega)
      refine ⟨b, Ev.step (fun k => ?_) hb⟩
      simp only [runnelref08_Long.l0]
      rw [if_pos (by omega), if_pos (by omega), if_neg h, wrapi (n := l.length) (by omega) hm]
theorem Long08_ev (l : List S52) (hm : l.length ≤ maxLen) : ∃ b, Ev (fun k => runnelref08_Long.f k l) b := by
  unfold runnelref08_Long.f
  by_cases h : (l.length : Int) > 80
  · simp only [if_pos h]; exact ⟨true, Ev.now true⟩
  · simp only [if_neg h]; exact Long08_l0 l hm l.length 0 (by omega)
section
variable (ns : List S44) (o : List Int) (r : Int)
def G0 (i : Int) (k : Nat) : Option Bool := runnelref16_Long.l0 k i ns o r
def H2 (a : S44) (x : Int) (t : Bool) (k : Nat) : Option Bool := runnelref16_Long.j2 k x t ns o r a.f0 a.f1 a.f2 a.f3 a.f4 a.f5 a.f6 a.f7 a.f8
def G1 (a : S44) (x e : Int) (k : Nat) : Option Bool := runnelref16_Long.l1 k x e ns o r a.f0 a.f1 a.f2 a.f3 a.f4 a.f5 a.f6 a.f7 a.f8
theorem G1_ev (a : S44) (x : Nat) (hx : x < ns.length) (hns : ns.length ≤ maxLen) (hw : NW a) (R : Bool) (h : Ev (G0 ns o r ((x + 1 : Nat) : Int)) R) (d : Nat) : ∀ e : Nat, e + d = a.f3.length → ∃ b, Ev (G1 ns o r a x e) b := by
  induction d with
  | zero =>
    intro e he
    refine ⟨R, Ev.step (fun k => ?_) h⟩
    show runnelref16_Long.l1 (k + 1) _ _ _ _ _ _ _ _ _ _ _ _ _ _ = _
    simp only [runnelref16_Long.l1]
    rw [if_neg (by omega), wrapi (n := ns.length) hx hns]
    rfl
  | succ d ih =>
    intro e he
    have h1 : e < a.f3.length := by omega
    obtain ⟨b, hb⟩ := ih (e + 1) (by omega)
    obtain ⟨c, hc⟩ := Long08_ev (a.f3[e]) (hw.2.2.2.2 _ (List.getElem_mem _))
    have start : ∀ k, G1 ns o r a x e (k + 1) = (runnelref08_Long.f k (a.f3[e])).bind fun t => if t = true then some true else G1 ns o r a x ((e + 1 : Nat) : Int) k := by
      intro k
      show runnelref16_Long.l1 (k + 1) _ _ _ _ _ _ _ _ _ _ _ _ _ _ = _
      simp only [runnelref16_Long.l1]
      rw [if_pos (by omega), if_pos (by omega), rdE a.f3 e h1, wrapi (n := a.f3.length) h1 hw.2.2.2.1]
      rfl
    cases c with
    | true => exact ⟨true, Ev.step start (Ev.bind hc (Ev.now true))⟩
    | false => exact ⟨b, Ev.step start (Ev.bind hc hb)⟩
theorem G0_ev (hns : ns.length ≤ maxLen) (hw : ∀ x ∈ ns, NW x) (d : Nat) : ∀ i : Nat, i + d = ns.length → ∃ b, Ev (G0 ns o r i) b := by
  induction d with
  | zero =>
    intro i hi
    refine ⟨false, Ev.step (fun k => ?_) (Ev.now false)⟩
    show runnelref16_Long.l0 (k + 1) _ _ _ _ = _
    simp only [runnelref16_Long.l0]
    rw [if_neg (by omega)]
  | succ d ih =>
    intro i hi
    have h1 : i < ns.length := by omega
    have hwi := hw _ (List.getElem_mem h1)
    obtain ⟨R, hR⟩ := ih (i + 1) (by omega)
    have ea := rdN ns i h1
    generalize hA : ns[i] = a at ea hwi
    have j : ∀ t : Bool, ∃ b, Ev (H2 ns o r a i t) b := by
      intro t
      cases t with
      | true =>
        refine ⟨true, Ev.step (fun k => ?_) (Ev.now true)⟩
        show runnelref16_Long.j2 (k + 1) _ _ _ _ _ _ _ _ _ _ _ _ _ _ = _
        simp only [runnelref16_Long.j2]
        rfl
      | false =>
        obtain ⟨b, hb⟩ := G1_ev ns o r a i h1 hns hwi R hR a.f3.length 0 (by omega)
        refine ⟨b, Ev.step (fun k => ?_) hb⟩
        show runnelref16_Long.j2 (k + 1) _ _ _ _ _ _ _ _ _ _ _ _ _ _ = _
        simp only [runnelref16_Long.j2]
        rfl
    have start : ∀ k, G0 ns o r i (k + 1) = (if (a.f1.length : Int) > 20 then H2 ns o r a i true k else if (a.f2.length : Int) > 30 then H2 ns o r a i true k else if (a.f3.length : Int) > 30 then H2 ns o r a i true k else H2 ns o r a i (decide ((a.f4.length : Int) > 30)) k) := by
      intro k
      show runnelref16_Long.l0 (k + 1) _ _ _ _ = _
      simp only [runnelref16_Long.l0]
      rw [ea, if_pos (by omega), if_pos (by omega)]
      rfl
    obtain ⟨b, hb⟩ := j true
    obtain ⟨c, hc⟩ := j (decide ((a.f4.length : Int) > 30))
    by_cases h1 : (a.f1.length : Int) > 20
    · simp only [if_pos h1] at start; exact ⟨b, Ev.step start hb⟩
    · by_cases h2 : (a.f2.length : Int) > 30
      · simp only [if_neg h1, if_pos h2] at start; exact ⟨b, Ev.step start hb⟩
      · by_cases h3 : (a.f3.length : Int) > 30
        · simp only [if_neg h1, if_neg h2, if_pos h3] at start; exact ⟨b, Ev.step start hb⟩
        · simp only [if_neg h1, if_neg h2, if_neg h3] at start; exact ⟨c, Ev.step start hc⟩
theorem Long_ev (hns : ns.length ≤ maxLen) (hw : ∀ x ∈ ns, NW x) : ∃ b, Ev (fun k => runnelref16_Long.f k ns o r) b := by
  have j : ∀ t : Bool, ∃ b, Ev (fun k => runnelref16_Long.j0 k t ns o r) b := by
    intro t
    cases t with
    | true =>
      refine ⟨true, Ev.step (fun k => ?_) (Ev.now true)⟩
      simp only [runnelref16_Long.j0]
      rfl
    | false =>
      obtain ⟨b, hb⟩ := G0_ev ns o r hns hw ns.length 0 (by omega)
      refine ⟨b, Ev.step (fun k => ?_) hb⟩
      simp only [runnelref16_Long.j0]
      rfl
  unfold runnelref16_Long.f
  by_cases h : (ns.length : Int) > 70
  · simp only [if_pos h]; exact j _
  · simp only [if_neg h]; exact j _
end
theorem live_60 : runnellaw17_live.f 60 = some true := by decide +kernel
theorem live_ev : Ev (fun k => runnellaw17_live.f k) true := Ev.of (fun k => runnellaw17_live.mono k) live_60
end Go.Proofs.Ytbdpnecnnokkkaa.BSheetSame
