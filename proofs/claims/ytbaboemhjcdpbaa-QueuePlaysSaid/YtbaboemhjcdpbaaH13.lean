/- QueuePlays: the walk. -/
import Derived.Test.YtbaboemhjcdpbaaH12
import Derived.Deep.DeepCutAuto
namespace Go.Proofs.Ytbaboemhjcdpbaa.Q
open Go.RowKit Go.Proofs.YtbaboemhjcdpbaaW.PrintWords Go.Proofs.YtbaboemhjcdpbaaW.PrintLast Go.Proofs.YtbaboemhjcdpbaaW.PrintMore Go.Proofs.Ytbaboemhjcdpbaa.PQueuePlays
attribute [local go_sem] max2_int min2_int max_two min_two max_three min_three max_four min_four
set_option linter.unusedVariables false
set_option linter.unusedSimpArgs false
/-- Between two calls. -/
def Between (w : World) (l : List S36) (g : Nat) (room : Int) (n : Nat) (vw vi vo : Value) (wr : World) : Prop :=
 ∃ (us : List S42) (ro : Option Nat) (W : Option Addr) (c : Nat) (i o : Int), vw = .slice W us.length c ∧ vi = .int .i64 i ∧ vo = .int .i64 o ∧ us.length ≤ c ∧ us.length ≤ 60 * n ∧ 0 ≤ i ∧ i ≤ 60 * n ∧ 0 ≤ o ∧ o ≤ n ∧ From l us ∧
  Qs wr g ro us room i o ∧ Rd w wr g ro W us ∧ Below w.heap.size w wr ∧ (∀ b, Own g ro b → w.heap.size ≤ b)
set_option maxHeartbeats 8000000 in
set_option maxRecDepth 1000000 in
theorem plays_calls (room : Int) (l : List S36) (b : Bool) (A0 : Option Addr) (c0 : Nat) (w : World) (hr0 : Kd.C k36 w A0 l.length l) (hc0 : l.length ≤ c0) (HG : Good l b) : Calls Try.prog 4 #[.int .i64 room, .slice A0 l.length c0] w (LiveTrue w) := by
 have HR0 := Aside0.mk hr0
 have HC0 := Aside0.mk hc0
 obtain ⟨km, hm⟩ := HG.much
 have HM := Aside0.mk (runnellaw19_Much.calls km A0 c0 l b w hr0 hc0 hm)
 have HG := Aside0.mk HG
 clear hr0 hc0 hm
 go_enter Try.func4, Try.ntmps4
 go_wp2_with fail
 refine HM.out.mono ?_
 rintro e w1 ⟨rfl, ⟨nd, hw1⟩⟩
 have B1 := Aside0.mk (show Below w.heap.size w w1 by rw [hw1]; exact pw_below_drewN (Below.refl _ _) nd)
 clear hw1 HM
 cases b
 case true =>
  go_wp2_with fail
  refine (live_calls _).mono ?_
  rintro e w2 ⟨rfl, hb⟩
  have B2 := Aside0.mk (below_then B1.out B1.out.size hb)
  clear hb B1
  go_wp2
  go_ret
  exact ⟨rfl, B2.out⟩
 case false =>
  by_cases hroom : room < 1 ∨ 65536 < room
  · go_wp2_with fail
    refine (new_bad room hroom _).mono ?_
    rintro e w2 ⟨rfl, hw2⟩
    have B2 := Aside0.mk (show Below w.heap.size w w2 by rw [hw2]; exact B1.out)
    clear hw2 B1
    have hgo : ∀ {Q : Prop}, (decide (room < 1) = true → Q) → (decide (room < 1) = false → decide (room > 65536) = true → Q) → Q := by
      intro Q h1 h2
      by_cases hr : room < 1
      · exact h1 (decide_eq_true hr)
      · exact h2 (decide_eq_false hr) (decide_eq_true (by omega))
    refine hgo (fun d1 => ?_) (fun d1 d2 => ?_)
    all_goals
      clear hroom hgo
      go_wp2_with fail
      refine (code_calls _ _).mono ?_
      rintro e w3 ⟨rfl, nd, hw3⟩
      have B3 := Aside0.mk (show Below w.heap.size w w3 by rw [hw3]; exact pw_below_drewN B2.out nd)
      clear hw3 B2
      go_wp2_with fail
      refine (live_calls _).mono ?_
      rintro e w4 ⟨rfl, hb⟩
      have B4 := Aside0.mk (below_then B3.out B3.out.size hb)
      clear hb B3
      go_wp2
      go_ret
      exact ⟨rfl, B4.out⟩
  · have d1 : decide (room < 1) = false := decide_eq_false (by omega)
    have d2 : decide (room > 65536) = false := decide_eq_false (by omega)
    go_wp2_with fail
    refine (qnew room (by omega) (by omega) _).mono ?_
    rintro e w2 ⟨g, rfl, hq, hg, hB⟩
    have Q2 := Aside0.mk hq
    have B2 := Aside0.mk (below_then B1.out B1.out.size hB)
    have G2 := Aside0.mk (Nat.le_trans B1.out.size hg)
    clear hq hg hB B1
    go_wp2_with fail
    refine (code_calls _ _).mono ?_
    rintro e w3 ⟨rfl, nd, hw3⟩
    have Q3 := Aside0.mk (show Qs w3 g none [] room 0 0 by rw [hw3]; exact Q2.out.drewN nd)
    have B3 := Aside0.mk (show Below w.heap.size w w3 by rw [hw3]; exact pw_below_drewN B2.out nd)
    clear hw3 B2 Q2
    have hl100 : l.length ≤ 100 := (HG.out.few rfl).1
    go_wp2_with fail
    go_loopg [7, 8, 9, 10] l.length (fun gk v7 v8 v9 v10 wr => ∃ k : Nat, v10 = .int .i64 k ∧ k ≤ l.length ∧ l.length - k ≤ gk ∧ Between w l g room k v7 v8 v9 wr)
    case atStart => exact ⟨0, rfl, Nat.zero_le _, by omega, [], none, none, 0, 0, 0, rfl, rfl, rfl, Nat.le_refl _, Nat.zero_le _, by omega, by omega, by omega, by omega, fun u hu => by simp at hu, Q3.out, Rd.nil, B3.out, fun b hb => by rcases hb with rfl | hb; exact G2.out; cases hb⟩
    case round =>
      clear Q3 B3
      obtain ⟨k, rfl, hk, hgk, us, ro, W, c, i, o, rfl, rfl, rfl, hcw, hus, hi0, hi1, ho0, ho1, hfrom, hQ, hRd, hB, hO⟩ := hrel
      have QQ := Aside0.mk hQ
      have RD := Aside0.mk hRd
      have BB := Aside0.mk hB
      have OO := Aside0.mk hO
      have FF := Aside0.mk hfrom
      clear hQ hRd hB hO hfrom
      by_cases hlt : k < l.length
      · have hlz : decide ((k : Int) < (l.length : Int)) = true := decide_eq_true (by omega)
        obtain ⟨ad, A1, c1, hA0, e0, e1, hc1, hk1⟩ := at_T36 (Kd.C_below HR0.out BB.out) (k : Int) (by omega) (by omega)
        obtain ⟨a, ha⟩ : ∃ a, a = rd_T36 l (k : Int) := ⟨_, rfl⟩
        rw [← ha] at e0 e1 hc1 hk1
        simp only [Int.toNat_natCast] at e0 e1
        have hal : a ∈ l := by
          rw [ha]; unfold rd_T36; rw [List.getD_eq_getElem?_getD, Int.toNat_natCast, List.getElem?_eq_getElem hlt]; exact List.getElem_mem _
        have hkw : k42.C w A1 a.f1.length a.f1 ∧ w.cell? ⟨(ad.add (k * 2)).block, (ad.add (k * 2)).off + 1, none⟩ = some (.slice A1 a.f1.length c1) := by
          obtain ⟨ad', A1', c1', hA', f0, f1, _, hk'⟩ := at_T36 HR0.out (k : Int) (by omega) (by omega)
          rw [← ha] at f0 f1 hk'
          simp only [Int.toNat_natCast] at f0 f1
          have : ad' = ad := Option.some.inj (hA'.symm.trans hA0)
          subst this
          have h2 := pw_cell_below BB.out f1
          rw [e1] at h2
          have h3 := Value.slice.inj (Option.some.inj h2)
          refine ⟨by rw [h3.1]; exact hk', ?_⟩
          rw [f1, h3.1, h3.2.2]
        have KW := Aside0.mk hkw.1
        have EW := Aside0.mk hkw.2
        have AL := Aside0.mk hal
        have HC1 := Aside0.mk hc1
        have hA := Aside0.mk hA0
        subst hA0
        clear ha hal hkw hk1 hc1
        go_upto_if 61 with fail
        go_cut [7, 8, 9] (fun v7 v8 v9 wx => Between w l g room (k + 1) v7 v8 v9 wx)
        case first =>
          have hfew := (HG.out.few rfl).2 a AL.out
          have hal60 : a.f1.length ≤ 60 := hfew.1
          have HROW := Aside0.mk hfew.2
          clear hfew
          generalize a.f0 = bp at e0 ⊢
          cases bp
          case true =>
            rcases us with _ | ⟨u, rest⟩
            · have HP := Aside0.mk (qpop_none QQ.out)
              go_wp2_with fail
              refine HP.out.mono ?_
              rintro e w4 ⟨rfl, hb⟩
              have Q4 := Aside0.mk (QQ.out.below hb)
              have B4 := Aside0.mk hb
              clear hb
              go_wp2_with fail
              obtain ⟨w5, hw5⟩ : ∃ w', w' = w4.alloc (.cells #[.slice none 0 0, .int .i64 0, .int .i64 0, .int .i64 0] 42) := ⟨_, rfl⟩
              have hbel : Below w4.heap.size w4 w5 := by rw [hw5]; exact below_alloc (Below.refl _ _) _
              rw [← hw5]
              have Q5 := Aside0.mk (Q4.out.below hbel)
              have B5 := Aside0.mk (below_then B4.out B4.out.size hbel)
              clear hw5 hbel Q4 B4
              go_quiet (fail)
              go_wp2_with fail
              go_meet
              exact ⟨[], ro, W, c, i, o, rfl, rfl, rfl, hcw, Nat.zero_le _, hi0, by omega, ho0, by omega, FF.out, Q5.out.drewN _, (RD.out.below B5.out).below (pw_below_drewN (Below.refl _ _) _), pw_below_drewN (below_then BB.out BB.out.size B5.out) _, OO.out⟩
            · have hlen : (u :: rest).length ≤ 65536 := by omega
              have HP := Aside0.mk (qpop (us := rest) u QQ.out hlen ho0 (by omega))
              have hrl : rest.length + 1 ≤ c := by simpa using hcw
              have hrl2 : rest.length + 1 ≤ 60 * k := by simpa using hus
              obtain ⟨a', ha', hua⟩ := FF.out u (List.mem_cons_self)
              obtain ⟨ks, hks⟩ := HG.out.same rfl a' ha' u hua
              have HK := Aside0.mk hks
              have RH := Aside0.mk (RD.out.head hcw)
              have RT := Aside0.mk (RD.out.tail hcw)
              have FT : Aside0 (From l rest) := ⟨fun x hx => FF.out x (List.mem_cons_of_mem _ hx)⟩
              obtain ⟨i0, hi, hz, hs, hb⟩ := info_parts info42
              have hcutt : ∀ X, (Instr.slice 28 (.slice W (rest.length + 1) c) none (some (.int .i64 1)) none).run Try.prog X = .ok (.slice W 1 c) X := by
                intro X
                rw [cut_to (P := Try.prog) 28 42 .i64 Try.underlying28 hi W (rest.length + 1) c 1 (by omega) (by omega) hrl X]
                rfl
              obtain ⟨WT, hWT⟩ : ∃ A, A = (if c = 1 then W else W.map (·.add (1 * 4))) := ⟨_, rfl⟩
              rw [← hWT] at RT
              have hcutf : ∀ X, (Instr.slice 28 (.slice W (rest.length + 1) c) (some (.int .i64 1)) none none).run Try.prog X = .ok (.slice WT rest.length (c - 1)) X := by
                intro X
                rw [cut_from (P := Try.prog) 28 42 .i64 Try.underlying28 hi 4 hs W (rest.length + 1) c 1 (by omega) (by omega) X, hWT]
                simp
              have h1c : 1 ≤ c := by omega
              have hct : rest.length ≤ c - 1 := by omega
              clear ha' hua hks hi hz hs hb hWT hlen hcw hus
              go_wp2_with fail
              refine HP.out.mono ?_
              rintro e w4 ⟨B4, d4, rfl, hR, hq, hF⟩
              have Q4 := Aside0.mk hq
              have R4 := Aside0.mk hR
              have F4 := Aside0.mk hF
              clear hq hR hF
              go_wp2_with fail
              obtain ⟨b5, hb5⟩ : ∃ b, b = w4.heap.size := ⟨_, rfl⟩
              obtain ⟨w5, hw5⟩ : ∃ w', w' = w4.alloc (.cells #[.slice B4 u.f0.length d4, .int .i64 u.f1.f0, .int .i64 u.f1.f1, .int .i64 u.f2] 42) := ⟨_, rfl⟩
              have hbel : Below w4.heap.size w4 w5 := by rw [hw5]; exact below_alloc (Below.refl _ _) _
              have hbk : w5.heap[b5]? = some (.cells #[.slice B4 u.f0.length d4, .int .i64 u.f1.f0, .int .i64 u.f1.f1, .int .i64 u.f2] 42 (0, 0)) := by rw [hw5, hb5]; exact blk_new w4 _
              rw [← hw5, ← hb5]
              have y0 : w5.cell? ⟨b5, 0, none⟩ = some (.slice B4 u.f0.length d4) := (blk_cell hbk 0).trans rfl
              have y1 : w5.cell? ⟨b5, 1, none⟩ = some (.int .i64 u.f1.f0) := (blk_cell hbk 1).trans rfl
              have y2 : w5.cell? ⟨b5, 2, none⟩ = some (.int .i64 u.f1.f1) := (blk_cell hbk 2).trans rfl
              have y3 : w5.cell? ⟨b5, 3, none⟩ = some (.int .i64 u.f2) := (blk_cell hbk 3).trans rfl
              have Q5 := Aside0.mk (Q4.out.below hbel)
              have F5 := Aside0.mk (F4.out.trans (Fr.of_below hbel (Own g ro)) (fun _ _ h => h))
              have B5 := Aside0.mk (Fr.below BB.out F5.out BB.out.size OO.out)
              have R5 := Aside0.mk (Kd.R_below R4.out hbel)
              have RH5 := Aside0.mk (RH.out.step F5.out (.inl rfl))
              have RT5 := Aside0.mk (RT.out.step F5.out (.inl rfl))
              clear hw5 hb5 hbel hbk Q4 R4 F4
              go_region_held3 (fun w' => w'.cell? ⟨b5, 0, none⟩ = some (.slice B4 u.f0.length d4) ∧ w'.cell? ⟨b5, 1, none⟩ = some (.int .i64 u.f1.f0) ∧ w'.cell? ⟨b5, 2, none⟩ = some (.int .i64 u.f1.f1) ∧ w'.cell? ⟨b5, 3, none⟩ = some (.int .i64 u.f2)) (first | exact ⟨y0, y1, y2, y3⟩ | exact ⟨pw_cell_below (below_alloc (Below.refl _ _) _) y0, pw_cell_below (below_alloc (Below.refl _ _) _) y1, pw_cell_below (below_alloc (Below.refl _ _) _) y2, pw_cell_below (below_alloc (Below.refl _ _) _) y3⟩ | exact ⟨pw_cell_below HB13.out y0, pw_cell_below HB13.out y1, pw_cell_below HB13.out y2, pw_cell_below HB13.out y3⟩) (first | (go_at_call 13; (with_reducible refine (same_one u ks HK.out (w0 := w) (bb := w5.heap.size) (B := B4) (d := d4) (A := W) (c := c) ?h1 ?h2 ?h3 ?h4 ?h5 h1c).mono ?_); (case h1 => exact below_then B5.out B5.out.size (below_drew (below_alloc (w := w5) (Below.refl _ _) _))); (case h2 => exact blk_drew (blk_new _ _)); (case h3 => exact (Kd.R_reads' R5.out).2.1); (case h4 => exact Kd.C_below (Kd.R_reads' R5.out).2.2 (below_drew (below_alloc (w := w5) (Below.refl _ _) _))); (case h5 => exact RH5.out _ (Fr.of_below (below_drew (below_alloc (w := w5) (Below.refl _ _) _)) _)); rintro e w13 ⟨rfl, hb⟩; have HB13 : Aside0 (Below w5.heap.size w5 w13) := Aside0.mk (below_then (below_drew (below_alloc (w := w5) (Below.refl _ _) _)) (below_drew (below_alloc (w := w5) (Below.refl _ _) _)).size hb); clear hb))
              all_goals go_wp2_with fail
              all_goals go_meet
              exact ⟨rest, ro, WT, c - 1, i, o + 1, rfl, rfl, rfl, hct, by omega, hi0, by omega, by omega, by omega, FT.out, Q5.out.below HB13.out, RT5.out.below HB13.out, below_then B5.out B5.out.size HB13.out, OO.out⟩
          case false =>
            have HP := Aside0.mk (qpush a.f1 A1 c1 QQ.out (by omega) hi0 (by omega) (fun w' hF => Kd.C_below KW.out (Fr.below BB.out hF BB.out.size OO.out)) HC1.out HROW.out)
            have FA : Aside0 (From l (us ++ a.f1)) := ⟨fun x hx => by
              rcases List.mem_append.1 hx with hx | hx
              · exact FF.out x hx
              · exact ⟨a, AL.out, hx⟩⟩
            have h1p : us.length + a.f1.length ≤ 60 * (k + 1) := by omega
            have h1q : us.length + a.f1.length ≤ 6060 := by omega
            have h2p : i + a.f1.length ≤ 60 * ((k : Int) + 1) := by omega
            go_wp2_with fail
            refine HP.out.mono ?_
            rintro e w4 ⟨rfl, ro4, hq, hF, ha⟩
            have Q4 := Aside0.mk hq
            have RD4 := Aside0.mk (RD.out.step hF ha)
            have B4 := Aside0.mk (Fr.below BB.out hF BB.out.size OO.out)
            have O4 : Aside0 (∀ b, Own g ro4 b → w.heap.size ≤ b) := ⟨by
              rintro b (rfl | hb)
              · exact OO.out b (.inl rfl)
              · rcases ha with rfl | ⟨r, rfl, hle⟩
                · exact OO.out b (.inr hb)
                · injection hb with hb
                  have := BB.out.size
                  omega⟩
            clear hq hF ha HP
            go_wp2_with fail
            refine (code_calls _ _).mono ?_
            rintro e w5 ⟨rfl, nd, hw5⟩
            have Q5 := Aside0.mk (show Qs w5 g ro4 (us ++ a.f1) room (i + a.f1.length) o by rw [hw5]; exact Q4.out.drewN nd)
            have RD5 := Aside0.mk (show Rd w w5 g ro4 W us by rw [hw5]; exact RD4.out.below (pw_below_drewN (Below.refl _ _) nd))
            have B5 := Aside0.mk (show Below w.heap.size w w5 by rw [hw5]; exact pw_below_drewN B4.out nd)
            clear hw5 Q4 RD4 B4
            have x1 : w5.cell? ⟨(ad.add (k * 2)).block, (ad.add (k * 2)).off + 1, none⟩ = some (.slice A1 a.f1.length c1) := pw_cell_below B5.out EW.out
            have hnew : ¬ Own g ro4 w5.heap.size := fun h => absurd (Q5.out.lt _ h) (Nat.lt_irrefl _)
            have hlen7 : Aside0 (([] ++ us ++ a.f1).length = us.length + a.f1.length) := ⟨by simp⟩
            go_wp2_with fail
            go_region_held3 (fun w' => w'.cell? ⟨(ad.add (k * 2)).block, (ad.add (k * 2)).off + 1, none⟩ = some (.slice A1 a.f1.length c1)) (first | exact x1 | exact pw_cell_below HB7.out x1 | exact pw_cell_below HB6.out x1 | exact pw_cell_below (below_alloc (Below.refl _ _) _) x1) (first | (refine Kd.R_append_rows_step (Kd.fixed k42 w) (Rr := k42.K w) (w0 := w5) w5.heap.size (by rfl) (.tmp 97) (.tmp 98) 28 42 (.agg #[.slice none 0 0, .int .i64 0, .int .i64 0, .int .i64 0]) 48 rfl Try.underlying28 info42 rfl (show 0 < 4 by decide) (by decide) (.slice (some ⟨w5.heap.size, 0, none⟩) 0 0) [] us W us.length c (fun b => ¬ Own g ro4 b) (fun _ => False) rfl rfl ?aO ?aR (fun _ _ h => h) (fun _ h => h.elim) ?aF ?aB ?aS ?aL ?_; (case aO => exact R_empty_new hnew); (case aR => exact RD5.out _ (Fr.of_below (below_drew (below_alloc (w := w5) (Below.refl _ _) _)) _)); (case aF => exact fun b hb h => absurd (Q5.out.lt b h) (by have h2 : w5.heap.size ≤ b := Nat.le_trans (below_drew (below_alloc (w := w5) (Below.refl _ _) _)).size hb; omega)); (case aB => exact below_drew (below_alloc (w := w5) (Below.refl _ _) _)); (case aS => exact (below_drew (below_alloc (w := w5) (Below.refl _ _) _)).size); (case aL => simp; omega); intro v6 w6 ho hb hg hat; have HO6 := Aside0.mk ho; have HB6 := Aside0.mk hb; clear ho hb hg hat) | (refine Kd.R_append_rows_step (Kd.fixed k42 w) (Rr := k42.K w) (w0 := w5) w5.heap.size (by rfl) (.tmp 99) (.tmp 104) 28 42 (.agg #[.slice none 0 0, .int .i64 0, .int .i64 0, .int .i64 0]) 48 rfl Try.underlying28 info42 rfl (show 0 < 4 by decide) (by decide) v6 ([] ++ us) a.f1 A1 a.f1.length c1 (fun b => ¬ Own g ro4 b) (fun _ => False) rfl rfl ?aO ?aR (fun _ _ h => h) (fun _ h => h.elim) ?aF ?aB ?aS ?aL ?_; (case aO => exact Kd.R_step HO6.out (fun _ _ _ => rfl)); (case aR => exact ReadsRow.imp_ KW.out (below_then B5.out B5.out.size ⟨HB6.out.os, HB6.out.tape, HB6.out.output, HB6.out.size, HB6.out.block⟩) (fun _ _ h => h)); (case aF => exact fun b hb h => absurd (Q5.out.lt b h) (by have h2 : w5.heap.size ≤ b := Nat.le_trans HB6.out.size hb; omega)); (case aB => exact ⟨HB6.out.os, HB6.out.tape, HB6.out.output, HB6.out.size, HB6.out.block⟩); (case aS => exact HB6.out.size); (case aL => simp; omega); intro v7 w7 ho hb hg hat; obtain ⟨A7, d7, e7⟩ := Kd.R_slice ho; rw [hlen7.out] at e7; subst e7; have HO7 := Aside0.mk ho; have HB7 := Aside0.mk hb; clear ho hb hg hat))
            have x7 : w7.cell? ⟨(ad.add (k * 2)).block, (ad.add (k * 2)).off + 1, none⟩ = some (.slice A1 a.f1.length c1) := pw_cell_below HB7.out x1
            have hd7 : us.length + a.f1.length ≤ d7 := (Kd.R_reads' HO7.out).2.1
            have RD7 := Aside0.mk (show Rd w w7 g ro4 A7 (us ++ a.f1) from Rd.of_R HO7.out)
            have Q7 := Aside0.mk (Q5.out.below HB7.out)
            have B7 := Aside0.mk (below_then B5.out B5.out.size HB7.out)
            clear x1 HO7 HB7 Q5 B5 RD5 HO6 HB6 hnew
            go_wp2_with fail
            go_meet
            exact ⟨us ++ a.f1, ro4, A7, d7, i + a.f1.length, o, by rw [List.length_append], rfl, rfl, by rw [List.length_append]; exact hd7, by rw [List.length_append]; exact h1p, by omega, by omega, ho0, by omega, FA.out, Q7.out, RD7.out, B7.out, O4.out⟩
        case rest =>
          clear QQ RD BB OO FF e0 e1 hus hi0 hi1 ho0 ho1 hcw
          obtain ⟨us2, ro2, W2, c2, i2, o2, rfl, rfl, rfl, hcw, hus, hi0, hi1, ho0, ho1, hfrom, hQ, hRd, hB, hO⟩ := hcut
          have QQ := Aside0.mk hQ
          have RD := Aside0.mk hRd
          have BB := Aside0.mk hB
          have OO := Aside0.mk hO
          have FF := Aside0.mk hfrom
          have HCW := Aside0.mk hcw
          clear hQ hRd hB hO
          have hus6 : us2.length ≤ 6000 := by omega
          have hi2 : i2 ≤ 6000 := by omega
          have ho2 : o2 ≤ 6000 := by omega
          clear us ro W c i o
          go_wp2_with fail
          refine (qpassed QQ.out).mono ?_
          rintro e w4 ⟨rfl, nd, hw4⟩
          have Q4 := Aside0.mk (show Qs w4 g ro2 us2 room i2 o2 by rw [hw4]; exact QQ.out.drewN nd)
          have B4 := Aside0.mk (show Below wc.heap.size wc w4 by rw [hw4]; exact pw_below_drewN (Below.refl _ _) nd)
          clear hw4
          go_wp2_with fail
          refine (qlen Q4.out).mono ?_
          rintro e w5 ⟨rfl, nd, hw5⟩
          have Q5 := Aside0.mk (show Qs w5 g ro2 us2 room i2 o2 by rw [hw5]; exact Q4.out.drewN nd)
          have B5 := Aside0.mk (show Below wc.heap.size wc w5 by rw [hw5]; exact pw_below_drewN B4.out nd)
          clear hw5 Q4 B4
          go_wp2_with fail
          refine (qopen Q5.out).mono ?_
          rintro e w6 ⟨rfl, nd, hw6⟩
          have Q6 := Aside0.mk (show Qs w6 g ro2 us2 room i2 o2 by rw [hw6]; exact Q5.out.drewN nd)
          have B6 := Aside0.mk (show Below wc.heap.size wc w6 by rw [hw6]; exact pw_below_drewN B5.out nd)
          clear hw6 Q5 B5
          obtain ⟨rs, kl, hNA, hLow, hSm⟩ := HG.out.lower rfl us2 FF.out hus6
          have HLow := Aside0.mk hLow
          have HSm := Aside0.mk hSm
          have HNA := Aside0.mk hNA
          clear hNA hLow hSm
          go_wp2_with fail
          refine (lower_calls rs HNA.out (by omega) Q6.out).mono ?_
          rintro e w7 ⟨B7, d7, rfl, hR, hb⟩
          have R7 := Aside0.mk hR
          have Q7 := Aside0.mk (Q6.out.below hb)
          have B7' := Aside0.mk (below_then B6.out B6.out.size hb)
          clear hb hR Q6 B6
          have hC7 := (RD.out.below B7'.out).C (below_then BB.out BB.out.size B7'.out)
          have HL7 := Aside0.mk (runnelref07_Lower.calls kl W2 c2 us2 rs w7 hC7 HCW.out HLow.out)
          clear hC7
          go_wp2_with fail
          refine HL7.out.mono ?_
          rintro e w8 ⟨v8, rfl, hR, hb⟩
          obtain ⟨A8, d8, rfl⟩ := Kd.R_slice hR
          have R8 := Aside0.mk hR
          have R8' := Aside0.mk (Kd.R_below R7.out hb)
          have Q8 := Aside0.mk (Q7.out.below hb)
          have B8 := Aside0.mk (below_then B7'.out B7'.out.size hb)
          clear hb hR Q7 B7' HL7 R7
          have hs1 := Kd.R_reads' R8.out
          have hs2 := Kd.R_reads' R8'.out
          have HS8 := Aside0.mk (runnelref04_Same.calls kl B7 d7 rs A8 d8 rs true w8 hs2.2.2 hs2.2.1 hs1.2.2 hs1.2.1 HSm.out)
          clear hs1 hs2 R8 R8'
          go_wp2_with fail
          refine HS8.out.mono ?_
          rintro e w9 ⟨rfl, ⟨nd, hw9⟩⟩
          have Q9 := Aside0.mk (show Qs w9 g ro2 us2 room i2 o2 by rw [hw9]; exact Q8.out.drewN nd)
          have B9 := Aside0.mk (show Below wc.heap.size wc w9 by rw [hw9]; exact pw_below_drewN B8.out nd)
          clear hw9 Q8 B8 HS8
          go_wp2_with fail
          go_loopg [15] (us2.length + 1) (fun gj v15 wr2 => ∃ j : Nat, v15 = .int .i64 j ∧ j ≤ us2.length + 1 ∧ us2.length + 1 - j ≤ gj ∧ Aside0 (Qs wr2 g ro2 us2 room i2 o2) ∧ Aside0 (Below wc.heap.size wc wr2))
          case atStart => exact ⟨0, rfl, Nat.zero_le _, by omega, Q9, B9⟩
          case round =>
            clear Q9 B9
            obtain ⟨j, rfl, hj, hgj, Q10, B10⟩ := hrel
            by_cases hj1 : j < us2.length
            · have hjz : decide ((j : Int) ≤ (us2.length : Int)) = true := decide_eq_true (by omega)
              have hjw : decide ((j : Int) < (us2.length : Int)) = true := decide_eq_true (by omega)
              obtain ⟨u, hu⟩ : ∃ u, us2[j]? = some u := ⟨_, List.getElem?_eq_getElem hj1⟩
              go_wp2_with fail
              refine (qpeek j u Q10.out hu).mono ?_
              rintro e w11 ⟨B11, d11, rfl, hR, hb⟩
              have R11 := Aside0.mk hR
              have Q11 := Aside0.mk (Q10.out.below hb)
              have B11' := Aside0.mk (below_then B10.out B10.out.size hb)
              have HU := Aside0.mk hu
              clear hb hR Q10 B10 hu
              go_wp2_with fail
              obtain ⟨b12, hb12⟩ : ∃ b, b = w11.heap.size := ⟨_, rfl⟩
              obtain ⟨w12, hw12⟩ : ∃ w', w' = w11.alloc (.cells #[.slice B11 u.f0.length d11, .int .i64 u.f1.f0, .int .i64 u.f1.f1, .int .i64 u.f2] 42) := ⟨_, rfl⟩
              have hbel : Below w11.heap.size w11 w12 := by rw [hw12]; exact below_alloc (Below.refl _ _) _
              have hbk : w12.heap[b12]? = some (.cells #[.slice B11 u.f0.length d11, .int .i64 u.f1.f0, .int .i64 u.f1.f1, .int .i64 u.f2] 42 (0, 0)) := by rw [hw12, hb12]; exact blk_new w11 _
              rw [← hw12, ← hb12]
              have y0 : w12.cell? ⟨b12, 0, none⟩ = some (.slice B11 u.f0.length d11) := (blk_cell hbk 0).trans rfl
              have y1 : w12.cell? ⟨b12, 1, none⟩ = some (.int .i64 u.f1.f0) := (blk_cell hbk 1).trans rfl
              have y2 : w12.cell? ⟨b12, 2, none⟩ = some (.int .i64 u.f1.f1) := (blk_cell hbk 2).trans rfl
              have y3 : w12.cell? ⟨b12, 3, none⟩ = some (.int .i64 u.f2) := (blk_cell hbk 3).trans rfl
              have Q12 := Aside0.mk (Q11.out.below hbel)
              have B12 := Aside0.mk (below_then B11'.out B11'.out.size hbel)
              have R12 := Aside0.mk (Kd.R_below R11.out hbel)
              obtain ⟨A12, hA12⟩ : ∃ A, A = (if c2 = j then W2 else W2.map (·.add (j * 4))) := ⟨_, rfl⟩
              have hcutm : ∀ X, (Instr.slice 28 (.slice W2 us2.length c2) (some (.int .i64 (j : Int))) (some (.int .i64 ((j : Int) + 1))) none).run Try.prog X = .ok (.slice A12 1 (c2 - j)) X := by
                intro X
                obtain ⟨i0, hi, hz, hs, hb⟩ := info_parts info42
                rw [cut_mid (P := Try.prog) 28 42 .i64 .i64 Try.underlying28 hi 4 hs W2 us2.length c2 (j : Int) ((j : Int) + 1) (by omega) (by omega) (by omega) HCW.out X, hA12]
                congr 2
                omega
              have RD12 := Aside0.mk ((RD.out.below B12.out).mid j (j + 1) (by omega) (by omega) HCW.out [u] (by rw [List.take_add_one, HU.out]; simp [List.drop_append, List.length_take, Nat.min_eq_left (Nat.le_of_lt hj1)]))
              rw [← hA12] at RD12
              have hcj : 1 ≤ c2 - j := by have := HCW.out; omega
              obtain ⟨a', ha', hua⟩ := FF.out u (List.mem_of_getElem? HU.out)
              obtain ⟨ks, hks⟩ := HG.out.same rfl a' ha' u hua
              have HK := Aside0.mk hks
              have BW := Aside0.mk (below_then BB.out BB.out.size B12.out)
              have hsum : IntKind.i64.wrap ((j : Int) + 1) = (j : Int) + 1 := IntWalk.i64_in _ (by omega)
              clear hw12 hb12 hbel hbk Q11 B11' R11 hA12 ha' hua hks
              go_region_held3 (fun w' => w'.cell? ⟨b12, 0, none⟩ = some (.slice B11 u.f0.length d11) ∧ w'.cell? ⟨b12, 1, none⟩ = some (.int .i64 u.f1.f0) ∧ w'.cell? ⟨b12, 2, none⟩ = some (.int .i64 u.f1.f1) ∧ w'.cell? ⟨b12, 3, none⟩ = some (.int .i64 u.f2)) (first | exact ⟨y0, y1, y2, y3⟩ | exact ⟨pw_cell_below (below_alloc (Below.refl _ _) _) y0, pw_cell_below (below_alloc (Below.refl _ _) _) y1, pw_cell_below (below_alloc (Below.refl _ _) _) y2, pw_cell_below (below_alloc (Below.refl _ _) _) y3⟩ | exact ⟨pw_cell_below HB13.out y0, pw_cell_below HB13.out y1, pw_cell_below HB13.out y2, pw_cell_below HB13.out y3⟩) (first | (go_at_call 13; (with_reducible refine (same_one u ks HK.out (w0 := w) (bb := w12.heap.size) (B := B11) (d := d11) (A := A12) (c := c2 - j) ?h1 ?h2 ?h3 ?h4 ?h5 hcj).mono ?_); (case h1 => exact below_then BW.out BW.out.size (below_drew (below_alloc (w := w12) (Below.refl _ _) _))); (case h2 => exact blk_drew (blk_new _ _)); (case h3 => exact (Kd.R_reads' R12.out).2.1); (case h4 => exact Kd.C_below (Kd.R_reads' R12.out).2.2 (below_drew (below_alloc (w := w12) (Below.refl _ _) _))); (case h5 => exact RD12.out _ (Fr.of_below (below_drew (below_alloc (w := w12) (Below.refl _ _) _)) _)); rintro e w13 ⟨rfl, hb⟩; have HB13 : Aside0 (Below w12.heap.size w12 w13) := Aside0.mk (below_then (below_drew (below_alloc (w := w12) (Below.refl _ _) _)) (below_drew (below_alloc (w := w12) (Below.refl _ _) _)).size hb); clear hb))
              all_goals go_wp2
              all_goals go_roundg (us2.length + 1 - (j + 1))
              case measure => omega
              case rel => exact ⟨j + 1, by go_num, by omega, by omega, ⟨Q12.out.below HB13.out⟩, ⟨below_then B12.out B12.out.size HB13.out⟩⟩
            · by_cases hj2 : j = us2.length
              · have hjz : decide ((j : Int) ≤ (us2.length : Int)) = true := decide_eq_true (by omega)
                have hjw : decide ((j : Int) < (us2.length : Int)) = false := decide_eq_false (by omega)
                have HP10 := Aside0.mk (qpeek_none (j : Int) Q10.out (.inr (by omega)))
                have hj3 : us2.length + 1 - (j + 1) < gk ∧ j + 1 ≤ us2.length + 1 := ⟨by omega, by omega⟩
                clear hj2
                go_wp2_with fail
                refine HP10.out.mono ?_
                rintro e w11 ⟨rfl, hb⟩
                have Q11 := Aside0.mk (Q10.out.below hb)
                have B11 := Aside0.mk (below_then B10.out B10.out.size hb)
                clear hb Q10 B10
                go_wp2_with fail
                obtain ⟨w12, hw12⟩ : ∃ w', w' = w11.alloc (.cells #[.slice none 0 0, .int .i64 0, .int .i64 0, .int .i64 0] 42) := ⟨_, rfl⟩
                have hbel : Below w11.heap.size w11 w12 := by rw [hw12]; exact below_alloc (Below.refl _ _) _
                rw [← hw12]
                have Q12 := Aside0.mk (Q11.out.below hbel)
                have B12 := Aside0.mk (below_then B11.out B11.out.size hbel)
                clear hw12 hbel Q11 B11
                go_quiet (fail)
                go_wp2
                go_roundg (us2.length + 1 - (j + 1))
                case measure => exact hj3.1
                case rel => exact ⟨j + 1, by go_num, hj3.2, Nat.le_refl _, ⟨Q12.out.drewN _⟩, ⟨pw_below_drewN B12.out _⟩⟩
              · have hjz : decide ((j : Int) ≤ (us2.length : Int)) = false := decide_eq_false (by omega)
                go_wp2
                go_roundg (l.length - (k + 1))
                case measure => omega
                case rel => exact ⟨k + 1, by go_num, by omega, by omega, us2, ro2, W2, c2, i2, o2, rfl, rfl, rfl, HCW.out, hus, hi0, hi1, ho0, ho1, FF.out, Q10.out, RD.out.below B10.out, below_then BB.out BB.out.size B10.out, OO.out⟩
      · have hlz : decide ((k : Int) < (l.length : Int)) = false := decide_eq_false (by omega)
        go_wp2_with fail
        refine (qpeek_none (-1) QQ.out (.inl (by omega))).mono ?_
        rintro e w4 ⟨rfl, hb⟩
        have B4 := Aside0.mk (below_then BB.out BB.out.size hb)
        clear hb BB
        go_wp2_with fail
        obtain ⟨w5, hw5⟩ : ∃ w', w' = w4.alloc (.cells #[.slice none 0 0, .int .i64 0, .int .i64 0, .int .i64 0] 42) := ⟨_, rfl⟩
        rw [← hw5]
        have B5 := Aside0.mk (show Below w.heap.size w w5 by rw [hw5]; exact B4.out.alloc B4.out.size _)
        clear hw5 B4
        refine (live_calls _).mono ?_
        rintro e w6 ⟨rfl, hb⟩
        have B6 := Aside0.mk (below_then B5.out B5.out.size hb)
        clear hb B5
        go_wp2
        go_ret
        exact ⟨rfl, B6.out⟩
end Go.Proofs.Ytbaboemhjcdpbaa.Q
