/- RowParts: what the printed functions answer, for each input, by plain mathematics. -/
import Derived.Test.YtdbpkfbjcmjkhaaORowPartsx
import Derived.Test.YtdbpkfbjcmjkhaaRowPure
namespace Go.Proofs.Ytdbpkfbjcmjkhaa.BRowParts
open Go.RowKit Go.Proofs.Ytdbpkfbjcmjkhaa.PRowParts Go.Proofs.Ytdbpkfbjcmjkhaa.RowPure Go.Proofs.YtdbpkfbjcmjkhaaW.PrintWords Go.Proofs.YtdbpkfbjcmjkhaaW.PrintLast Go.Proofs.YtdbpkfbjcmjkhaaW.PrintMore
set_option linter.unusedVariables false
set_option linter.unusedSimpArgs false
attribute [local irreducible] IntKind.wrap Go.bits shr shl maxLen
/-- A value in the plain words. -/
def toV (x : S28) : V := ⟨x.f0, x.f1, x.f2.toList⟩
def vs (l : List S28) : List V := l.map toV
theorem vs_drop (l : List S28) (i : Nat) (h : i < l.length) : vs (l.drop i) = toV (rd_T28 l (i : Int)) :: vs (l.drop (i + 1)) := by
  rw [List.drop_eq_getElem_cons h]
  show toV l[i] :: vs (l.drop (i + 1)) = _
  rw [show rd_T28 l (i : Int) = l[i] by unfold rd_T28; rw [Int.toNat_natCast, List.getD_eq_getElem?_getD, List.getElem?_eq_getElem h]; rfl]
theorem vs_nil (l : List S28) (i : Nat) (h : l.length ≤ i) : vs (l.drop i) = [] := by rw [List.drop_of_length_le h]; rfl
theorem wrapi {i n : Nat} (h : i < n) (hn : n ≤ maxLen) : wrap64 ((i : Int) + 1) = ((i + 1 : Nat) : Int) := by
  have : maxLen = 9223372036854775807 := by with_unfolding_all rfl
  have e : wrap64 ((i : Int) + 1) = ((i : Int) + 1 + 9223372036854775808) % 18446744073709551616 - 9223372036854775808 := by with_unfolding_all rfl
  rw [e]; omega
theorem cmpInt_f (a b : Int) : cmp_Compare_int.f a b = some (cmpI a b) := by
  unfold cmp_Compare_int.f cmp_isNaN_int.f cmpI
  simp only [Option.bind_some, bne_self_eq_false, Bool.false_eq_true, if_false]
  split
  · rfl
  · split <;> rfl
theorem cmpStr_f (a b : ByteArray) : cmp_Compare_string.f a b = some (cmpS a.toList b.toList) := by
  unfold cmp_Compare_string.f cmp_isNaN_string.f
  rw [cmpS_eq]
  simp only [Option.bind_some, bne_self_eq_false, Bool.false_eq_true, if_false]
  split
  · rfl
  · split <;> rfl
theorem Cmp_f (a b : S28) : row_Cmp.f a.f0 a.f1 a.f2 b.f0 b.f1 b.f2 = some (vcmp (toV a) (toV b)) := by
  unfold row_Cmp.f vcmp toV
  rw [cmpInt_f, cmpInt_f, cmpStr_f]
  simp only [Option.bind_some]
  split
  · split
    · rfl
    · split <;> rfl
  · rfl
theorem CompareFunc_l0 (l m : List S28) (hm : l.length ≤ maxLen) (d : Nat) : ∀ (k i : Nat), i + d = l.length → i ≤ m.length → d < k →
    api_Val_32.l0 k l m l (l.length : Int) (i : Int) = some (ord (vs (l.drop i)) (vs (m.drop i))) := by
  induction d with
  | zero =>
    intro k i hi him hk
    obtain ⟨k, rfl⟩ : ∃ n, k = n + 1 := ⟨k - 1, by omega⟩
    simp only [api_Val_32.l0]
    rw [if_neg (by omega), vs_nil l i (by omega)]
    by_cases h : l.length < m.length
    · rw [if_pos (by omega), vs_drop m i (by omega)]; rfl
    · rw [if_neg (by omega), vs_nil m i (by omega)]; rfl
  | succ d ih =>
    intro k i hi him hk
    obtain ⟨k, rfl⟩ : ∃ n, k = n + 1 := ⟨k - 1, by omega⟩
    simp only [api_Val_32.l0]
    rw [if_pos (by omega), if_pos (by omega), if_pos (by omega), vs_drop l i (by omega)]
    by_cases h : i < m.length
    · rw [if_neg (by omega), if_pos (by omega), Cmp_f, vs_drop m i h]
      simp only [Option.bind_some]
      rw [wrapi (n := l.length) (by omega) hm, ih k (i + 1) (by omega) (by omega) (by omega)]
      show _ = some (if vcmp _ _ = 0 then ord _ _ else vcmp _ _)
      split <;> rfl
    · rw [if_pos (by omega), vs_nil m i (by omega)]; rfl
theorem Order_f {k : Nat} (l m : List S28) (hm : l.length ≤ maxLen) (hk : l.length < k) : row_Order.f k l m = some (ord (vs l) (vs m)) := by
  unfold row_Order.f api_Val_32.f
  have h := CompareFunc_l0 l m hm l.length k 0 (by omega) (by omega) hk
  rw [show ((0 : Nat) : Int) = 0 from rfl] at h
  rw [h]
  rfl
theorem RCmp_f {k : Nat} (a b : S28) (hk : 1 ≤ k) : runnelref03_Cmp.f k a.f0 a.f1 a.f2 b.f0 b.f1 b.f2 = some (vcmp (toV a) (toV b)) := by
  obtain ⟨k, rfl⟩ : ∃ n, k = n + 1 := ⟨k - 1, by omega⟩
  unfold runnelref03_Cmp.f vcmp toV
  simp only [runnelref03_Cmp.j0]
  rw [cmpS_eq]
  unfold cmpI
  by_cases h1 : a.f0 = b.f0
  · by_cases h2 : a.f0 = 0
    · have h3 : ¬ (a.f0 = 1) := by omega
      simp only [h1] at h2 h3 ⊢
      by_cases h4 : a.f1 < b.f1
      · simp [h2, h4]
      · by_cases h5 : b.f1 < a.f1
        · simp [h2, h4, h5]
        · simp [h2, h4, h5]
    · by_cases h3 : a.f0 = 1
      · simp only [h1] at h2 h3 ⊢
        by_cases h4 : Op.bytesLess a.f2.toList b.f2.toList = true
        · simp [h3, h4]
        · by_cases h5 : Op.bytesLess b.f2.toList a.f2.toList = true
          · simp [h3, h4, h5]
          · simp [h3, h4, h5]
      · simp only [h1] at h2 h3 ⊢
        simp [h2, h3]
  · by_cases h4 : a.f0 < b.f0
    · simp [h1, h4]
    · by_cases h5 : b.f0 < a.f0
      · simp [h1, h4, h5]
      · omega
theorem ROrder_l0 (l m : List S28) (hm : l.length ≤ maxLen) (d : Nat) : ∀ (k i : Nat), i + d = l.length → i ≤ m.length → 2 * d + 2 < k →
    runnelref03_Order.l0 k l m (i : Int) = some (ord (vs (l.drop i)) (vs (m.drop i))) := by
  induction d with
  | zero =>
    intro k i hi him hk
    obtain ⟨k, rfl⟩ : ∃ n, k = n + 1 + 1 := ⟨k - 2, by omega⟩
    simp only [runnelref03_Order.l0, runnelref03_Order.j1]
    rw [if_neg (by omega), if_neg (show ¬ (false = true) by decide), vs_nil l i (by omega)]
    by_cases h : l.length < m.length
    · rw [if_pos (by omega), vs_drop m i (by omega)]; rfl
    · rw [if_neg (by omega), if_neg (by omega), vs_nil m i (by omega)]; rfl
  | succ d ih =>
    intro k i hi him hk
    obtain ⟨k, rfl⟩ : ∃ n, k = n + 1 + 1 := ⟨k - 2, by omega⟩
    simp only [runnelref03_Order.l0, runnelref03_Order.j1]
    rw [if_pos (by omega), vs_drop l i (by omega)]
    by_cases h : i < m.length
    · rw [decide_eq_true (by omega), if_pos rfl, if_pos (by omega), if_pos (by omega), if_pos (by omega), RCmp_f _ _ (by omega), vs_drop m i h]
      simp only [Option.bind_some]
      rw [wrapi (n := l.length) (by omega) hm, ih k (i + 1) (by omega) (by omega) (by omega)]
      show _ = some (if vcmp _ _ = 0 then ord _ _ else vcmp _ _)
      split <;> rfl
    · rw [decide_eq_false (by omega), if_neg (show ¬ (false = true) by decide), if_neg (by omega), if_pos (by omega), vs_nil m i (by omega)]; rfl
theorem ROrder_f {k : Nat} (l m : List S28) (hm : l.length ≤ maxLen) (hk : 2 * l.length + 2 < k) : runnelref03_Order.f k l m = some (ord (vs l) (vs m)) := by
  unfold runnelref03_Order.f
  exact ROrder_l0 l m hm l.length k 0 (by omega) (by omega) hk
theorem Long_l0 (l : List S28) (hm : l.length ≤ maxLen) (d : Nat) : ∀ (k i : Nat), i + d = l.length → d < k → ∃ b, runnelref03_Long.l0 k l (i : Int) = some b ∧ (b = false → ∀ x ∈ l.drop i, x.f2.size ≤ 5000) := by
  induction d with
  | zero =>
    intro k i hi hk
    obtain ⟨k, rfl⟩ : ∃ n, k = n + 1 := ⟨k - 1, by omega⟩
    simp only [runnelref03_Long.l0]
    rw [if_neg (by omega)]
    exact ⟨false, rfl, fun _ => by rw [List.drop_of_length_le (by omega)]; simp⟩
  | succ d ih =>
    intro k i hi hk
    obtain ⟨k, rfl⟩ : ∃ n, k = n + 1 := ⟨k - 1, by omega⟩
    simp only [runnelref03_Long.l0]
    rw [if_pos (by omega), if_pos (by omega)]
    have hi' : i < l.length := by omega
    have e : rd_T28 l (i : Int) = l[i] := by unfold rd_T28; rw [Int.toNat_natCast, List.getD_eq_getElem?_getD, List.getElem?_eq_getElem hi']; rfl
    rw [e]
    by_cases h : (l[i].f2.size : Int) > 5000
    · rw [if_pos h]; exact ⟨true, rfl, fun e => by cases e⟩
    · rw [if_neg h, wrapi (n := l.length) hi' hm]
      obtain ⟨b, hb, hf⟩ := ih k (i + 1) (by omega) (by omega)
      refine ⟨b, hb, fun e x hx => ?_⟩
      rw [List.drop_eq_getElem_cons hi'] at hx
      rcases List.mem_cons.1 hx with rfl | hx
      · omega
      · exact hf e x hx
theorem Long_f {k : Nat} (l : List S28) (hm : l.length ≤ maxLen) (hk : l.length < k) : ∃ b, runnelref03_Long.f k l = some b ∧ (b = false → l.length ≤ 30 ∧ ∀ x ∈ l, x.f2.size ≤ 5000) := by
  unfold runnelref03_Long.f
  by_cases h : (l.length : Int) > 30
  · rw [if_pos h]; exact ⟨true, rfl, fun e => by cases e⟩
  · rw [if_neg h]
    obtain ⟨b, hb, hf⟩ := Long_l0 l hm l.length k 0 (by omega) hk
    exact ⟨b, hb, fun e => ⟨by omega, by simpa using hf e⟩⟩
theorem live_60 : runnellaw03_live.f 60 = some true := by decide +kernel
theorem live_f {k : Nat} (hk : 60 ≤ k) : runnellaw03_live.f k = some true := at_rounds runnellaw03_live.mono hk live_60
theorem Join_l0 (ls : List (List S28)) (hm : ls.length ≤ maxLen) (d : Nat) : ∀ (k i : Nat) (acc : List S28), i + d = ls.length → d < k → acc.length + (ls.drop i).flatten.length < 4398046511104 →
    row_Join.l0 k acc ls (ls.length : Int) (i : Int) = some (acc ++ (ls.drop i).flatten) := by
  induction d with
  | zero =>
    intro k i acc hi hk hl
    obtain ⟨k, rfl⟩ : ∃ n, k = n + 1 := ⟨k - 1, by omega⟩
    simp only [row_Join.l0]
    rw [if_neg (by omega), List.drop_of_length_le (by omega)]
    simp
  | succ d ih =>
    intro k i acc hi hk hl
    obtain ⟨k, rfl⟩ : ∃ n, k = n + 1 := ⟨k - 1, by omega⟩
    have hi' : i < ls.length := by omega
    simp only [row_Join.l0]
    have e : rd_L4 ls (i : Int) = ls[i] := by unfold rd_L4; rw [Int.toNat_natCast, List.getD_eq_getElem?_getD, List.getElem?_eq_getElem hi']; rfl
    have e2 : (ls.drop i).flatten = ls[i] ++ (ls.drop (i + 1)).flatten := by rw [List.drop_eq_getElem_cons hi', List.flatten_cons]
    rw [e2] at hl ⊢
    rw [List.length_append] at hl
    rw [if_pos (by omega), if_pos (by omega), if_pos (by omega), e, if_pos (by omega), wrapi (n := ls.length) hi' hm, ih k (i + 1) _ (by omega) (by omega) (by rw [List.length_append]; omega), List.append_assoc]
theorem Join_f {k : Nat} (ls : List (List S28)) (hm : ls.length ≤ maxLen) (hk : ls.length < k) (hl : ls.flatten.length < 4398046511104) : row_Join.f k ls = some ls.flatten := by
  unfold row_Join.f
  have h := Join_l0 ls hm ls.length k 0 [] (by omega) hk (by simpa using hl)
  rw [show ((0 : Nat) : Int) = 0 from rfl] at h
  rw [h]
  simp
abbrev VL := S28
theorem mxl : maxLen = 9223372036854775807 := by with_unfolding_all rfl
theorem rdI (l : List Int) (i : Nat) (h : i < l.length) : rd l (i : Int) = l[i] := by unfold rd; rw [Int.toNat_natCast, List.getD_eq_getElem?_getD, List.getElem?_eq_getElem h]; rfl
theorem wrapp {i n : Nat} (h : i < n) (hn : n ≤ 4398046511104) : wrap64 ((i : Int) + 1) = ((i + 1 : Nat) : Int) := wrapi h (by rw [mxl]; omega)
theorem live_ev : Ev (fun k => runnellaw03_live.f k) true := ⟨60, fun k hk => live_f hk⟩
theorem part_eq (l : List VL) (cols : List Int) : ∀ (k : Nat) (acc : List VL) (i : Int), row_Part.l0 k l acc cols (cols.length : Int) i = runnelref03_Part.l0 k l cols acc i
  | 0, _, _ => by simp only [row_Part.l0, runnelref03_Part.l0]
  | k + 1, acc, i => by
    have ih := part_eq l cols k
    simp only [row_Part.l0, runnelref03_Part.l0, ih]
    by_cases h : i < (cols.length : Int)
    · simp [h]
    · simp [h]
theorem part_ex (l : List VL) (cols : List Int) (hc : cols.length ≤ 50) (d : Nat) : ∀ (i : Nat) (acc : List VL), i + d = cols.length → acc.length ≤ i → ∃ r : List VL × Int, r.1.length ≤ 50 ∧ Ev (fun k => runnelref03_Part.l0 k l cols acc (i : Int)) r := by
  induction d with
  | zero =>
    intro i acc hi ha
    refine ⟨(acc, 0), by show acc.length ≤ 50; omega, Ev.step (f := fun _ => some (acc, 0)) (fun k => ?_) (Ev.now _)⟩
    simp only [runnelref03_Part.l0]
    rw [if_neg (by omega)]
  | succ d ih =>
    intro i acc hi ha
    have hil : i < cols.length := by omega
    by_cases h1 : cols[i] < 0
    · refine ⟨([], 9), by simp, Ev.step (f := fun _ => some ([], 9)) (fun k => ?_) (Ev.now _)⟩
      simp only [runnelref03_Part.l0]
      rw [if_pos (by omega), if_pos (by omega), rdI cols i hil, if_pos h1]
    · by_cases h2 : cols[i] ≥ (l.length : Int)
      · refine ⟨([], 9), by simp, Ev.step (f := fun _ => some ([], 9)) (fun k => ?_) (Ev.now _)⟩
        simp only [runnelref03_Part.l0]
        rw [if_pos (by omega), if_pos (by omega), rdI cols i hil, if_neg h1, if_pos h2]
      · obtain ⟨r, hr, hE⟩ := ih (i + 1) (acc ++ [(⟨(rd_T28 l cols[i]).f0, (rd_T28 l cols[i]).f1, (rd_T28 l cols[i]).f2⟩ : VL)]) (by omega) (by simp; omega)
        refine ⟨r, hr, Ev.step (fun k => ?_) hE⟩
        simp only [runnelref03_Part.l0]
        rw [if_pos (by omega), if_pos (by omega), rdI cols i hil, if_neg h1, if_neg h2, if_pos (by omega), if_pos (by omega), if_pos (by omega), wrapp hil (by omega)]
theorem RSame_ev (l m : List VL) (hl : l.length ≤ maxLen) : Ev (fun k => runnelref03_Same.f k l m) (ord (vs l) (vs m) == 0) :=
  Ev.bind (g := fun k => runnelref03_Order.f k l m) (a := ord (vs l) (vs m)) ⟨2 * l.length + 3, fun k hk => ROrder_f l m hl (by omega)⟩ (Ev.now _)
theorem RSame_refl (l : List VL) (hl : l.length ≤ maxLen) : Ev (fun k => runnelref03_Same.f k l l) true := by
  have h := RSame_ev l l hl
  rw [ord_ok.refl] at h
  exact h
theorem clone_f (l : List VL) (hl : l.length < 4398046511104) : api_Val_35.f l = some l := by
  unfold api_Val_35.f
  simp only [Option.bind_some, List.length_nil, Nat.zero_add, List.nil_append]
  rw [if_pos hl]
theorem cut_bad (l : List VL) (key : Int) (h : key < 0 ∨ key > (l.length : Int)) : Ev (fun k => row_Cut.f k l key) (([] : List VL), ([] : List VL), 9) := by
  have h1 : Ev (fun k => row_Cut.j0 k l key true) (([] : List VL), ([] : List VL), 9) := Ev.step (f := fun _ => some (([] : List VL), ([] : List VL), 9)) (fun k => by simp only [row_Cut.j0]; rw [if_pos trivial]) (Ev.now _)
  refine Ev.congr (fun k => ?_) h1
  unfold row_Cut.f
  by_cases h2 : key < 0
  · rw [if_pos h2]
  · rw [if_neg h2, decide_eq_true (by omega)]
theorem cut_good (l : List VL) (key : Nat) (h : key ≤ l.length) (hl : l.length ≤ 30) : Ev (fun k => row_Cut.f k l (key : Int)) (l.take key, l.drop key, 0) := by
  have h1 : Ev (fun k => row_Cut.j0 k l (key : Int) false) (l.take key, l.drop key, 0) := Ev.step (f := fun _ => some (l.take key, l.drop key, 0)) (fun k => by
    simp only [row_Cut.j0]
    rw [if_neg (by simp), if_pos (by omega), if_pos (by omega), Int.toNat_natCast, clone_f _ (by rw [List.length_take]; omega), Option.bind_some, clone_f _ (by rw [List.length_drop]; omega)]
    rfl) (Ev.now _)
  refine Ev.congr (fun k => ?_) h1
  unfold row_Cut.f
  rw [if_neg (by omega), decide_eq_false (by omega)]
theorem l1_ev (l was : List VL) (hE : Ev (fun k => runnelref03_Same.f k was l) true) (d : Nat) : ∀ (i : Nat) (rest : List VL), rest.length ≤ 30 → i + d = rest.length → Ev (fun k => runnellaw03_RowParts.l1 k l rest was (i : Int)) true := by
  induction d with
  | zero =>
    intro i rest hr hi
    refine Ev.step (f := fun k => (runnelref03_Same.f k was l).bind fun t => if t = true then (runnellaw03_live.f k).bind fun t => some t else some false) (fun k => ?_) (Ev.bind hE (by simp only [if_true]; exact Ev.bind live_ev (Ev.now _)))
    simp only [runnellaw03_RowParts.l1]
    rw [if_neg (by omega)]
  | succ d ih =>
    intro i rest hr hi
    refine Ev.step (fun k => ?_) (ih (i + 1) (rest.set i (⟨(rd_T28 rest (i : Int)).f0, wrap64 (((rd_T28 rest (i : Int)).f1) + 1), (rd_T28 rest (i : Int)).f2⟩ : VL)) (by rw [List.length_set]; exact hr) (by rw [List.length_set]; omega))
    simp only [runnellaw03_RowParts.l1]
    rw [if_pos (by omega), if_pos (by omega), wrapp (n := rest.length) (by omega) (by omega), Int.toNat_natCast]
theorem l0_ev (l was rest : List VL) (hrl : rest.length ≤ 30) (hE : Ev (fun k => runnelref03_Same.f k was l) true) (d : Nat) : ∀ (i : Nat) (K : List VL), K.length ≤ 30 → i + d = K.length → Ev (fun k => runnellaw03_RowParts.l0 k l K rest was (i : Int)) true := by
  induction d with
  | zero =>
    intro i K hr hi
    refine Ev.step (f := fun k => runnellaw03_RowParts.l1 k l rest was ((0 : Nat) : Int)) (fun k => ?_) (l1_ev l was hE rest.length 0 rest hrl (by omega))
    simp only [runnellaw03_RowParts.l0]
    rw [if_neg (by omega)]
    rfl
  | succ d ih =>
    intro i K hr hi
    refine Ev.step (fun k => ?_) (ih (i + 1) (K.set i (⟨(rd_T28 K (i : Int)).f0, wrap64 (((rd_T28 K (i : Int)).f1) + 1), (rd_T28 K (i : Int)).f2⟩ : VL)) (by rw [List.length_set]; exact hr) (by rw [List.length_set]; omega))
    simp only [runnellaw03_RowParts.l0]
    rw [if_pos (by omega), if_pos (by omega), wrapp (n := K.length) (by omega) (by omega), Int.toNat_natCast]
theorem j3_ev (l K rest : List VL) (hl : l.length ≤ 30) (hK : K.length ≤ 30) (hr : rest.length ≤ 30) : Ev (fun k => runnellaw03_RowParts.j3 k l K rest false) true := by
  refine Ev.step (f := fun k => runnellaw03_RowParts.l0 k l K rest l ((0 : Nat) : Int)) (fun k => ?_) (l0_ev l l rest hr (RSame_refl l (by rw [mxl]; omega)) K.length 0 K hK (by omega))
  simp only [runnellaw03_RowParts.j3, Option.bind_some, List.length_nil, Nat.zero_add, List.nil_append]
  rw [if_neg (by simp), if_pos (by omega)]
  rfl
theorem j2_bad (l : List VL) (key : Int) : Ev (fun k => runnellaw03_RowParts.j2 k l key ([] : List VL) ([] : List VL) 9 true) true := by
  have hw : wrap64 (((([] : List VL).length : Nat) : Int) + ((([] : List VL).length : Nat) : Int)) = 0 := by decide +kernel
  refine Ev.step (f := fun k => (runnellaw03_live.f k).bind fun t => some t) (fun k => ?_) (Ev.bind live_ev (Ev.now _))
  simp only [runnellaw03_RowParts.j2]
  rw [if_pos trivial, if_pos hw]
  rfl
theorem j2_good (l : List VL) (key : Nat) (h : key ≤ l.length) (hl : l.length ≤ 30) : Ev (fun k => runnellaw03_RowParts.j2 k l (key : Int) (l.take key) (l.drop key) 0 false) true := by
  have hk : (l.take key).length ≤ 30 := by rw [List.length_take]; omega
  have hr : (l.drop key).length ≤ 30 := by rw [List.length_drop]; omega
  have hf : ([l.take key, l.drop key] : List (List VL)).flatten = l := by simp
  refine Ev.step (f := fun k => (runnelref03_Same.f k (l.take key) (l.take key)).bind fun a => if a = true then (runnelref03_Same.f k (l.drop key) (l.drop key)).bind fun b => if b = true then (row_Join.f k [l.take key, l.drop key]).bind fun t => (runnelref03_Same.f k t l).bind fun c => runnellaw03_RowParts.j3 k l (l.take key) (l.drop key) (!c) else runnellaw03_RowParts.j3 k l (l.take key) (l.drop key) true else runnellaw03_RowParts.j3 k l (l.take key) (l.drop key) true) (fun k => ?_) ?_
  · simp only [runnellaw03_RowParts.j2, Int.toNat_natCast]
    rw [if_neg (by simp), if_pos (by omega), if_pos (by omega)]
    simp only [runnellaw03_code.f, Option.bind_some, if_true]
  · refine Ev.bind (RSame_refl _ (by rw [mxl]; omega)) ?_
    simp only [if_true]
    refine Ev.bind (RSame_refl _ (by rw [mxl]; omega)) ?_
    simp only [if_true]
    refine Ev.bind (a := l) ⟨3, fun k hk => ?_⟩ (Ev.bind (RSame_refl _ (by rw [mxl]; omega)) ?_)
    · dsimp only
      rw [Join_f [l.take key, l.drop key] (by rw [mxl]; simp) (by simp; omega) (by rw [hf]; omega), hf]
    · simp only [Bool.not_true]
      exact j3_ev l _ _ hl hk hr
theorem j1_ev (l : List VL) (key : Int) (hl : l.length ≤ 30) : ∃ r : List VL × List VL × Int, Ev (fun k => row_Cut.f k l key) r ∧ Ev (fun k => runnellaw03_RowParts.j1 k l key r.1 r.2.1 r.2.2 false) true := by
  by_cases h : key < 0 ∨ key > (l.length : Int)
  · refine ⟨_, cut_bad l key h, Ev.step (fun k => ?_) (j2_bad l key)⟩
    simp only [runnellaw03_RowParts.j1]
    rw [if_neg (by simp)]
    by_cases h2 : key < 0
    · rw [if_pos h2]
    · rw [if_neg h2, decide_eq_true (by omega)]
  · obtain ⟨n, rfl⟩ : ∃ n : Nat, key = n := ⟨key.toNat, by omega⟩
    refine ⟨_, cut_good l n (by omega) hl, Ev.step (fun k => ?_) (j2_good l n (by omega) hl)⟩
    simp only [runnellaw03_RowParts.j1]
    rw [if_neg (by simp), if_neg (by omega), decide_eq_false (by omega)]
theorem j0_ev (l : List VL) (cols : List Int) (key : Int) (b : Bool) (h : b = false → l.length ≤ 30 ∧ cols.length ≤ 50) : Ev (fun k => runnellaw03_RowParts.j0 k l cols key b) true := by
  cases b with
  | true =>
    refine Ev.step (f := fun k => (runnellaw03_live.f k).bind fun t => some t) (fun k => ?_) (Ev.bind live_ev (Ev.now _))
    simp only [runnellaw03_RowParts.j0]
    rw [if_pos trivial]
  | false =>
    obtain ⟨hl, hc⟩ := h rfl
    obtain ⟨r, hr, hP⟩ := part_ex l cols hc cols.length 0 [] (by omega) (by simp)
    obtain ⟨q, hq, hJ⟩ := j1_ev l key hl
    refine Ev.step (f := fun k => (row_Part.f k l cols).bind fun x => (runnelref03_Part.f k l cols).bind fun y => (row_Cut.f k l key).bind fun z => (runnelref03_Same.f k x.1 y.1).bind fun t => if t = true then (runnellaw03_code.f x.2).bind fun t244 => runnellaw03_RowParts.j1 k l key z.1 z.2.1 z.2.2 (t244 != y.2) else runnellaw03_RowParts.j1 k l key z.1 z.2.1 z.2.2 true) (fun k => ?_) ?_
    · simp only [runnellaw03_RowParts.j0]
      rw [if_neg (by simp)]
    · have hP1 : Ev (fun k => row_Part.f k l cols) r := Ev.congr (fun k => by unfold row_Part.f; exact part_eq l cols k [] 0) hP
      refine Ev.bind hP1 (Ev.bind (g := fun k => runnelref03_Part.f k l cols) hP (Ev.bind hq (Ev.bind (RSame_refl r.1 (by rw [mxl]; omega)) ?_)))
      simp only [if_true, runnellaw03_code.f, Option.bind_some, bne_self_eq_false]
      exact hJ
end Go.Proofs.Ytdbpkfbjcmjkhaa.BRowParts
