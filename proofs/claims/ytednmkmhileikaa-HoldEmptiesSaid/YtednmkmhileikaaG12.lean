/- HoldEmpties: the law's walk. -/
import Derived.Test.YtednmkmhileikaaG11
import Derived.Test.YtednmkmhileikaaOHoldPlaysx11
namespace Go.Proofs.Ytednmkmhileikaa.G
open Go.RowKit Go.Proofs.YtednmkmhileikaaW.PrintWords Go.Proofs.YtednmkmhileikaaW.PrintLast Go.Proofs.YtednmkmhileikaaW.PrintMore Go.Proofs.Ytednmkmhileikaa.PHoldPlays
attribute [local go_sem] max2_int min2_int max_two min_two max_three min_three max_four min_four
set_option linter.unusedVariables false
set_option linter.unusedSimpArgs false
/-- What the plain side shows of the calls; St k us: us may be held behind k of them. -/
structure Good (l : List S33) (St : Nat → List S33 → Prop) : Prop where
 zero : St 0 []
 tot : ∀ k us u, St k us → l[k]? = some u → ∃ vs r, AddsTo us u vs r ∧ St (k + 1) vs
 rows : ∀ k us, St k us → ∀ x ∈ us, x.f0.length < 4398046511104
 arow : ∀ x ∈ l, x.f0.length < 4398046511104
 len : ∀ k us, St k us → us.length ≤ k
 same : ∀ k us, St k us → ∀ x ∈ us, ∃ n, runnelref07_Same.f n [x] [x] = some true
 small : l.length ≤ 60
theorem next_zero {w : World} {h L : Nat} {ro : Option Nat} {x : S33} {us : List S33} (hH : Hs w h L ro (x :: us)) (hn : (x :: us).length ≤ 1000) : Calls Try.prog 11 #[.pointer (some ⟨h, 0, none⟩), .slice none 0 0] w (NextSome w h L ro x us) :=
 next_calls none 0 [] hH hn (Kd.C_nil _ _) (Nat.le_refl _) (by show 0 < 4398046511104; decide) (some 0) (by simp [List.findIdx?_cons]) _ (.inr ⟨0, x, rfl, rfl, rfl⟩)
theorem next_none {w : World} {h L : Nat} {ro : Option Nat} (hH : Hs w h L ro []) : Calls Try.prog 11 #[.pointer (some ⟨h, 0, none⟩), .slice none 0 0] w (NextNone w) :=
 next_calls none 0 [] hH (by decide) (Kd.C_nil _ _) (Nat.le_refl _) (by show 0 < 4398046511104; decide) none rfl _ (.inl ⟨rfl, rfl⟩)
theorem new_nil : NewAt [] [] := fun w A c hC hc => by
 have h : front_New.f 5 [] = some [] := by simp [front_New.f, api_Time.f, front_New.l0, srt]
 refine (front_New.calls 5 A c [] [] w hC hc h).mono ?_
 rintro e w' ⟨v, rfl, hR, hB⟩
 exact ⟨v, rfl, hR, hB⟩
theorem same_one {w : World} {b : Nat} (u : S33) (k : Nat) (hk : runnelref07_Same.f k [u] [u] = some true) {B A : Option Addr} {d c : Nat} (h2 : w.heap[b]? = some (.cells #[.slice B u.f0.length d, .int .i64 u.f1.f0, .int .i64 u.f1.f1, .int .i64 u.f2] 33 (0, 0))) (h3 : u.f0.length ≤ d) (h4 : k61.C w B u.f0.length u.f0) (h5 : k33.C w A 1 [u]) (hc : 1 ≤ c) :
  Calls Try.prog 17 #[.slice (some ⟨b, 0, none⟩) 1 1, .slice A 1 c] w fun e w' => e = .returned (.bool true) ∧ Below w.heap.size w w' :=
 runnelref07_Same.calls k (some ⟨b, 0, none⟩) 1 [u] A c [u] true w (C33_of_block h2 (up_K w B d u h4 h3)) (Nat.le_refl _) h5 hc hk
theorem hlen_at {w : World} {h L : Nat} {ro : Option Nat} {us : List S33} (z : Int) (hz : (us.length : Int) = z) (hH : Hs w h L ro us) : Calls Try.prog 19 #[.pointer (some ⟨h, 0, none⟩)] w fun e w' => e = .returned (.int .i64 z) ∧ ∃ nd, w' = w.drewN nd := by
 subst hz
 exact hlen hH
set_option maxHeartbeats 4000000 in
set_option maxRecDepth 100000 in
theorem empties_calls (w : World) (A : Option Addr) (c : Nat) (l : List S33) (hC : k33.C w A l.length l) (hc : l.length ≤ c) (b : Bool) (k7 : Nat) (hM : runnelref07_Much.f k7 l = some b) (hG : b = false → ∃ St, Good l St) : Calls Try.prog 5 #[.slice A l.length c] w (LiveTrue w) := by
 replace hC := Aside0.mk hC
 replace hc := Aside0.mk hc
 replace hG := Aside0.mk hG
 have HM := Aside0.mk (runnelref07_Much.calls k7 A c l b w hC.out hc.out hM)
 obtain ⟨n, hnn⟩ : ∃ n, n = l.length := ⟨_, rfl⟩
 rw [← hnn] at HM hC hc ⊢
 replace hnn := Aside0.mk hnn
 clear hM
 go_enter Try.func5, Try.ntmps5
 go_wp2_with fail
 refine HM.out.mono ?_
 rintro e w1 ⟨rfl, hw1⟩
 have B1 := Aside0.mk hw1.below
 clear hw1 HM
 cases b with
 | true =>
  go_wp2_with fail
  refine (live_calls _).mono ?_
  rintro e w2 ⟨rfl, hb⟩
  have B2 := Aside0.mk (below_then B1.out B1.out.size hb)
  clear hb
  go_wp2
  go_ret
  exact ⟨rfl, B2.out⟩
 | false =>
  obtain ⟨St, hGG⟩ := hG.out rfl
  have HG := Aside0.mk hGG
  clear hGG
  have hsm : n ≤ 60 := by rw [hnn.out]; exact HG.out.small
  clear hG
  go_wp2_with fail
  refine (hnew _).mono ?_
  rintro e w2 ⟨h, rfl, hH, hg, hB⟩
  have H2 := Aside0.mk hH
  have L2 := Aside0.mk (Lay.first (h := h) (below_then B1.out B1.out.size hB) (by have := B1.out.size; omega))
  clear hH hB
  go_wp2_with fail
  go_loopg [4] n (fun gk v wr => ∃ (k : Nat) (us : List S33) (ro : Option Nat), v = .int .i64 k ∧ k ≤ n ∧ n - k ≤ gk ∧ Aside0 (St k us) ∧ Aside0 (Hs wr h 0 ro us) ∧ Aside0 (Lay w wr h ro))
  case atStart => exact ⟨0, [], none, rfl, Nat.zero_le _, by omega, ⟨HG.out.zero⟩, H2, L2⟩
  case round =>
   clear H2 L2 B1
   obtain ⟨k, us, ro, rfl, hk, hgk, HR, HH, LL⟩ := hrel
   by_cases hlt : k < n
   · have hz : decide ((k : Int) < (n : Int)) = true := decide_eq_true (by omega)
     have hkz : (k : Int) < (n : Int) := by omega
     obtain ⟨x, hx⟩ : ∃ x, l[k]? = some x := ⟨_, List.getElem?_eq_getElem (by have := hnn.out; omega)⟩
     obtain ⟨ad, A0, c0, e0, y0, y1, y2, y3, hl0, hC0⟩ := at_T33 hC.out (k : Int) (by omega) (by omega)
     rw [rd_33 hx] at y0 y1 y2 y3 hl0 hC0
     simp only [Int.toNat_natCast] at y0 y1 y2 y3
     cases e0
     replace y0 := LL.out.1.cell (World.block_lt_of_cell? w _ y0) |>.trans y0
     replace y1 := LL.out.1.cell (World.block_lt_of_cell? w _ y1) |>.trans y1
     replace y2 := LL.out.1.cell (World.block_lt_of_cell? w _ y2) |>.trans y2
     replace y3 := LL.out.1.cell (World.block_lt_of_cell? w _ y3) |>.trans y3
     obtain ⟨vs, r, hA, hS⟩ := HG.out.tot k us x HR.out hx
     have HR' := Aside0.mk hS
     have HAdd := Aside0.mk (hadd A0 c0 x HH.out (Kd.C_below hC0 LL.out.1) hl0 (HG.out.arow x (List.mem_of_getElem? hx)) (by have := HG.out.len k us HR.out; omega) hA)
     clear hx hl0 hC0 hA hS
     go_wp2_with fail
     refine HAdd.out.mono ?_
     rintro e w3 ⟨rfl, ro', hH, hF, ha⟩
     have H3 := Aside0.mk hH
     have L3 := Aside0.mk (LL.out.next hF ha)
     clear hH hF ha HAdd HH LL
     go_wp2
     go_roundg (n - (k + 1))
     case measure => omega
     case rel => exact ⟨k + 1, vs, ro', by go_num, by omega, Nat.le_refl _, HR', H3, L3⟩
   · have hz : decide ((k : Int) < (n : Int)) = false := decide_eq_false (by omega)
     have hul := HG.out.len k us HR.out
     go_wp2_with fail
     refine (ups_calls HH.out (by omega) (HG.out.rows k us HR.out)).mono ?_
     rintro e w3 ⟨v3, rfl, hR3, hB3⟩
     obtain ⟨V, cv, rfl⟩ := Kd.R_slice hR3
     have H3 := Aside0.mk (HH.out.below hB3)
     have L3 := Aside0.mk (LL.out.step hB3)
     have hcv := Aside0.mk (Kd.R_reads' hR3).2.1
     have F3 := Aside0.mk (Kd.F_mono (Kd.R_F (Kd.R_bound hR3)) (ok' := Off h ro) (fun j hj ho => by have := HH.out.lt j ho; have := hj.2.1; omega))
     obtain ⟨m, hmm⟩ : ∃ m, m = us.length := ⟨_, rfl⟩
     rw [← hmm] at F3 hul hcv ⊢
     replace hmm := Aside0.mk hmm
     clear hR3 hB3 LL HH
     go_wp2_with fail
     have hm1 : m ≤ 60 := by omega
     have HR0 := Aside0.mk HR.out
     clear hgk hz hul HR
     have H3 := Aside0.mk (show Hs w3 h 0 ro (us.drop 0) from H3.out)
     go_loopg [6] m (fun gi v6 wr2 => ∃ i : Nat, v6 = .int .i64 i ∧ i ≤ m ∧ m - i ≤ gi ∧ Aside0 (Hs wr2 h 0 ro (us.drop i)) ∧ Aside0 (Lay w wr2 h ro) ∧ Aside0 (Kd.F k33 wr2 (Off h ro) V m us))
     case atStart => exact ⟨0, rfl, Nat.zero_le _, by omega, H3, L3, F3⟩
     case round =>
      clear H3 L3 F3
      obtain ⟨i, rfl, hi, hgi, HH, LL, FF⟩ := hrel
      by_cases him : i < m
      · have hz : decide ((i : Int) < (m : Int)) = true := decide_eq_true (by omega)
        have hiz : (i : Int) < (m : Int) := by omega
        obtain ⟨x, hx⟩ : ∃ x, us[i]? = some x := ⟨_, List.getElem?_eq_getElem (by have := hmm.out; omega)⟩
        have hdr : us.drop i = x :: us.drop (i + 1) := by
          obtain ⟨hlt', he⟩ := List.getElem?_eq_some_iff.1 hx
          rw [List.drop_eq_getElem_cons hlt', he]
        rw [hdr] at HH
        have hxe := Aside0.mk hx
        have hdl : (x :: us.drop (i + 1)).length ≤ 1000 := by rw [← hdr, List.length_drop, ← hmm.out]; omega
        clear hx hdr
        go_wp2_with fail
        refine (next_zero HH.out hdl).mono ?_
        rintro e w4 ⟨D, d, rfl, hd, hF4, hH4, hFr4⟩
        have H4 := Aside0.mk hH4
        have L4 := Aside0.mk (LL.out.next hFr4 (.inl rfl))
        have V4 := Aside0.mk (Kd.F_step FF.out (fun j hj hlt => hFr4.block j hlt hj))
        have C4 := Aside0.mk (Kd.F_now hF4)
        replace hd := Aside0.mk hd
        clear hF4 hH4 hFr4 HH LL FF hdl
        obtain ⟨w5, hw5⟩ : ∃ w', w' = w4.alloc (.cells #[.slice D x.f0.length d, .int .i64 x.f1.f0, .int .i64 x.f1.f1, .int .i64 x.f2] 33) := ⟨_, rfl⟩
        obtain ⟨b5, hb5⟩ : ∃ b, b = w4.heap.size := ⟨_, rfl⟩
        have t5 : Below w4.heap.size w4 w5 := by rw [hw5]; exact below_alloc (Below.refl _ _) _
        have X5 : w5.heap[b5]? = some (.cells #[.slice D x.f0.length d, .int .i64 x.f1.f0, .int .i64 x.f1.f1, .int .i64 x.f2] 33 (0, 0)) := by rw [hw5, hb5]; exact blk_new w4 _
        have H5 := Aside0.mk (H4.out.below t5)
        have L5 := Aside0.mk (L4.out.step t5)
        have V5 := Aside0.mk (Kd.F_below V4.out t5)
        have C5 := Aside0.mk (Kd.C_below C4.out t5)
        clear t5 H4 L4 V4 C4
        have y0 : w5.cell? ⟨b5, 0, none⟩ = some (.slice D x.f0.length d) := (blk_cell X5 0).trans rfl
        have y1 : w5.cell? ⟨b5, 1, none⟩ = some (.int .i64 x.f1.f0) := (blk_cell X5 1).trans rfl
        have y2 : w5.cell? ⟨b5, 2, none⟩ = some (.int .i64 x.f1.f1) := (blk_cell X5 2).trans rfl
        have y3 : w5.cell? ⟨b5, 3, none⟩ = some (.int .i64 x.f2) := (blk_cell X5 3).trans rfl
        obtain ⟨VA, hVA⟩ : ∃ A, A = (if cv = i then V else V.map (·.add (i * 4))) := ⟨_, rfl⟩
        have hcutm : ∀ X, (Instr.slice 29 (.slice V m cv) (some (.int .i64 (i : Int))) (some (.int .i64 ((i : Int) + 1))) none).run Try.prog X = .ok (.slice VA 1 (cv - i)) X := by
          intro X
          obtain ⟨i0, hi, hz, hs, hb⟩ := info_parts info33
          rw [cut_mid (P := Try.prog) 29 33 .i64 .i64 Try.underlying29 hi 4 hs V m cv (i : Int) ((i : Int) + 1) (by omega) (by omega) (by omega) hcv.out X, hVA]
          congr 2
          omega
        have CV := Aside0.mk (show k33.C w5 VA 1 [x] from by
          have h1 := Kd.C_mid (lo := i) (hi := i + 1) (c := cv) (by have := Kd.F_now V5.out; rwa [hmm.out] at this) (by omega) (by have := hmm.out; omega) (by have := hmm.out; have := hcv.out; omega)
          have h2 : (us.take (i + 1)).drop i = [x] := by
            have hlt' := (List.getElem?_eq_some_iff.1 hxe.out).1
            rw [List.take_add_one, hxe.out, List.drop_append, List.length_take, Nat.min_eq_left (Nat.le_of_lt hlt'), Nat.sub_self, List.drop_take]
            simp
          rw [h2] at h1
          rw [hVA]
          exact h1)
        have hci := Aside0.mk (show 1 ≤ cv - i by have := hcv.out; omega)
        obtain ⟨ks, hks⟩ := HG.out.same k us HR0.out x (List.mem_of_getElem? hxe.out)
        replace hks := Aside0.mk hks
        have X5' := Aside0.mk X5
        have hsum : IntKind.i64.wrap ((i : Int) + 1) = (i : Int) + 1 := IntWalk.i64_in _ (by omega)
        have hsub : IntKind.i64.wrap ((m : Int) - (i : Int)) = (m : Int) - i := IntWalk.i64_in _ (by omega)
        have hsub2 : IntKind.i64.wrap ((m : Int) - (i : Int) - 1) = (m : Int) - i - 1 := IntWalk.i64_in _ (by omega)
        have hdl : Aside0 (((us.drop (i + 1)).length : Int) = (m : Int) - i - 1) := ⟨by rw [List.length_drop, ← hmm.out]; omega⟩
        clear hVA X5
        go_wp2_with fail
        rw [← hw5, ← hb5]
        clear hw5 hb5
        go_region_held3 (fun w' => w'.cell? ⟨b5, 0, none⟩ = some (.slice D x.f0.length d) ∧ w'.cell? ⟨b5, 1, none⟩ = some (.int .i64 x.f1.f0) ∧ w'.cell? ⟨b5, 2, none⟩ = some (.int .i64 x.f1.f1) ∧ w'.cell? ⟨b5, 3, none⟩ = some (.int .i64 x.f2)) (first | exact ⟨y0, y1, y2, y3⟩ | exact ⟨pw_cell_below (below_alloc (Below.refl _ _) _) y0, pw_cell_below (below_alloc (Below.refl _ _) _) y1, pw_cell_below (below_alloc (Below.refl _ _) _) y2, pw_cell_below (below_alloc (Below.refl _ _) _) y3⟩ | exact ⟨pw_cell_below HB6.out y0, pw_cell_below HB6.out y1, pw_cell_below HB6.out y2, pw_cell_below HB6.out y3⟩) (first | (go_at_call 17; (with_reducible refine (same_one x ks hks.out (b := w5.heap.size) (B := D) (d := d) (A := VA) (c := cv - i) ?h2 hd.out ?h4 ?h5 hci.out).mono ?_); (case h2 => exact blk_drew (blk_new _ _)); (case h4 => exact Kd.C_below C5.out (below_drew (below_alloc (w := w5) (Below.refl _ _) _))); (case h5 => exact Kd.C_below CV.out (below_drew (below_alloc (w := w5) (Below.refl _ _) _))); rintro e w6 ⟨rfl, hb⟩; have HB6 : Aside0 (Below w5.heap.size w5 w6) := Aside0.mk (below_then (below_drew (below_alloc (w := w5) (Below.refl _ _) _)) (below_drew (below_alloc (w := w5) (Below.refl _ _) _)).size hb); clear hb) | (go_at_call 19; (with_reducible refine (hlen_at ((m : Int) - i - 1) hdl.out (H5.out.below HB6.out)).mono ?_); rintro e w7 ⟨rfl, nd, rfl⟩))
        have tB := Aside0.mk (show Below w5.heap.size w5 (w6.drewN nd) from pw_below_drewN HB6.out nd)
        have H7 := Aside0.mk (H5.out.below tB.out)
        have L7 := Aside0.mk (L5.out.step tB.out)
        have V7 := Aside0.mk (Kd.F_below V5.out tB.out)
        clear tB HB6 H5 L5 V5 y0 y1 y2 y3 hcutm
        go_wp2
        go_roundg (m - (i + 1))
        case measure => omega
        case rel => exact ⟨i + 1, by go_num, by omega, Nat.le_refl _, H7, L7, V7⟩
      · have hz : decide ((i : Int) < (m : Int)) = false := decide_eq_false (by omega)
        have hdr : us.drop i = [] := List.drop_of_length_le (by have := hmm.out; omega)
        rw [hdr] at HH
        clear hdr
        go_wp2_with fail
        refine (next_none HH.out).mono ?_
        rintro e w4 ⟨rfl, hB4⟩
        have L4 := Aside0.mk (LL.out.step hB4)
        clear hB4 HH LL FF
        go_wp2_with fail
        obtain ⟨w5, hw5⟩ : ∃ w', w' = w4.alloc (.cells #[.slice none 0 0, .int .i64 0, .int .i64 0, .int .i64 0] 33) := ⟨_, rfl⟩
        rw [← hw5]
        have L5 := Aside0.mk (show Below w.heap.size w w5 by rw [hw5]; exact L4.out.1.alloc L4.out.1.size _)
        clear hw5 L4
        refine (next_nil none 0 0 w5).mono ?_
        rintro e w6 ⟨rfl, hB6⟩
        have L6 := Aside0.mk (below_then L5.out L5.out.size hB6)
        clear hB6 L5
        go_wp2_with fail
        obtain ⟨w7, hw7⟩ : ∃ w', w' = w6.alloc (.cells #[.slice none 0 0, .int .i64 0, .int .i64 0, .int .i64 0] 33) := ⟨_, rfl⟩
        rw [← hw7]
        have L7 := Aside0.mk (show Below w.heap.size w w7 by rw [hw7]; exact L6.out.alloc L6.out.size _)
        clear hw7 L6
        refine (add_nil none 0 z33 w7).mono ?_
        rintro e w8 ⟨rfl, hB8⟩
        have L8 := Aside0.mk (below_then L7.out L7.out.size hB8)
        clear hB8 L7
        go_wp2_with fail
        refine (code_calls _ _).mono ?_
        rintro e w9 ⟨rfl, nd9, hw9⟩
        have L9 := Aside0.mk (show Below w.heap.size w w9 by rw [hw9]; exact pw_below_drewN L8.out nd9)
        clear hw9 L8
        go_wp2_with fail
        refine (len_nil w9).mono ?_
        rintro e w10 ⟨rfl, nd10, hw10⟩
        have L10 := Aside0.mk (show Below w.heap.size w w10 by rw [hw10]; exact pw_below_drewN L9.out nd10)
        clear hw10 L9
        go_wp2_with fail
        refine (ups_nil w10).mono ?_
        rintro e w11 ⟨rfl, hB11⟩
        have L11 := Aside0.mk (below_then L10.out L10.out.size hB11)
        clear hB11 L10
        go_wp2_with fail
        refine (lower_calls (us := []) none ((ups_nil w11).mono (fun e w' hw => ⟨.slice none 0 0, hw.1, Kd.R_nil _ _ _ _ _, hw.2⟩)) (by decide) [] new_nil).mono ?_
        rintro e w12 ⟨v12, rfl, hR12, hB12⟩
        obtain ⟨B12, d12, rfl⟩ := Kd.R_slice hR12
        have L12 := Aside0.mk (below_then L11.out L11.out.size hB12)
        clear hR12 hB12 L11
        go_wp2_with fail
        refine (live_calls _).mono ?_
        rintro e w13 ⟨rfl, hB13⟩
        have L13 := Aside0.mk (below_then L12.out L12.out.size hB13)
        clear hB13 L12
        go_wp2
        go_ret
        exact ⟨rfl, L13.out⟩
end Go.Proofs.Ytednmkmhileikaa.G
