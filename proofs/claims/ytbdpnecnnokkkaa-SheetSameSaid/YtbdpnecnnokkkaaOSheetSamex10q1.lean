import Derived.Test.YtbdpnecnnokkkaaOSheetSamex0
import Derived.Test.YtbdpnecnnokkkaaOSheetSamex1
import Derived.Test.YtbdpnecnnokkkaaOSheetSamex9
import Derived.Test.YtbdpnecnnokkkaaShort
import Derived.Test.YtbdpnecnnokkkaaOSheetSamex10p
namespace Go.Proofs.Ytbdpnecnnokkkaa.PSheetSame
open Go.RowKit Go.Proofs.YtbdpnecnnokkkaaW.PrintWords Go.Proofs.YtbdpnecnnokkkaaW.PrintLast Go.Proofs.YtbdpnecnnokkkaaW.PrintMore
attribute [local go_sem] max2_int min2_int max_two min_two max_three min_three max_four min_four   -- for this text's walks alone
set_option linter.unusedVariables false
set_option linter.unusedSimpArgs false
attribute [local go_sem high] eqA52
set_option maxHeartbeats 80000000 in
set_option maxRecDepth 100000 in
theorem runnelref17_Same.calls.leaf1 : runnelref17_Same.calls.pre.2.1 := by
 intro l0_0 l1_0 l0_1 l1_1 ad277 ad278 A0_1 A1_1 _ _ _ _ _ _ _ _ _ a0_2 a1_2 _ _ _ _ _ _ _ _ _ c0_0 _ c0_1 _ c1_0 _ c1_1 _ gb274 gb275 _ _ _ _ _ _ _ _ _ _ _ _ _ _ _ _ _ _ _ _ _ _ _ _ _ w _ _ _ GE274 _ GE275 hw277_8 hw277_7 hw277_6 hw277_5 hw277_4 hw277_3 hw277_2 hw277_1 hw277_0 _ _ _ _ _ hw278_8 hw278_7 hw278_6 hw278_5 hw278_4 hw278_3 hw278_2 hw278_1 hw278_0 _ _ _ _ _ _ _ _ _ _ _ _ _ _ _ _ _ _ _ _ _ _ BK274 BK275 HB _ _ _ _ _ _ _ _ _ _ _ _ _ _ _ _ _ _ hHeld _ _ _ _ _ _ _ _ _ _ _ _ _ _ _ _ _ _ _ _ _ _ _ _ _ _ _ _ _ _ _ _ _ _ _ _ _ _ _ _ _ _ _ _ _ _ _ _ _ _ _ _ _ _ _ _ _ _ _ _ _ _ _ _ _ _ _ _ _ _ _ _ _ _ _ _ _ _ _ _ _ _ _ _ _ _ _ _ _ _ _ _ _ _ _ _ _ _ _ _ _ _ _ _ _ _ _ _ _ _ _ _ _ _ _ _ _ _ _ _ _ _ _ _ _ _ _ _ _ _ _ _ _ _ _ _ _ _ _ _ _ _ _ _ _ _ _ _ _ _ _ _ _ _ _ _ _ _ _ _ _ _ _ _ _ _ _ _ _ _ _ _ _ _ _ _ _ _ _ _ _ _ _ _ _ _ _ _ _ _ _ _ _ _ _ _ _ _ _ _ _ _ _ _ _ _ _ _ _ _ _ _ _ _ _ _ _ _ _ _ _ _ _ _ _ _ _ _ _ _ _ _ _ _ _ _ _ _ _ _ _ _ _ _ _ _ _ _ _ _ _ _ _ _ _ _ _ _ _ _ _ _ _ _ _ _ _ _ _ _ _ _ _ _ _ _ _ _ _ _ _ _ _ _ _ _ _ _ _ _ _ _ _ _ _ _ _ _ _ _
 have HT_ := am runnelref17_Same.tab6
 have HW_ := am runnelref17_Same.bits6
 intro hCont
 refine two_ (i := 10) (j := 11) (Ni := some 6) (Nj := some 7) #[true, true, true, true, true, true, true, true, true, true, true, false, false, false] #[true, true, true, true, true, true, true, true, true, true, false, true, false, false] rfl rfl rfl rfl (two_of HT_.out (by kernel_rfl)) (by decide) (by decide) (fun K hK => ?_) (fun K hK => ?_)
 ·
  skip
  refine box_step ?hg (N := 6) ?hd (cs := #[.int .i64 0, .slice none 0 0, .slice none 0 0, .slice none 0 0, .slice none 0 0, .int .i64 0, .int .i64 0, .int .i64 0, .int .i64 0]) (t := 44) ?hr ?_; (case hd => rfl); (case hg => rfl); (case hr => first | (go_simp; done) | (go_simp; rfl))
  intro gb279 hg w26 hbox hb
  have n0_ := am (b5 (g := gb274) (o := .cells #[.slice (some ad277) l0_0.length c0_0, .slice A0_1 l0_1.length c0_1, .int .i64 a0_2] 25 (0, 0)) (by (with_reducible repeat (first | refine b1 ?_ _ | refine b2 ?_ | refine b3 ?_ _)); exact BK274.out) hb)
  have n1_ := am (b5 (g := gb275) (o := .cells #[.slice (some ad278) l1_0.length c1_0, .slice A1_1 l1_1.length c1_1, .int .i64 a1_2] 25 (0, 0)) (by (with_reducible repeat (first | refine b1 ?_ _ | refine b2 ?_ | refine b3 ?_ _)); exact BK275.out) hb)
  have n2_ := am (below_step (by repeat (first | (with_reducible first | exact HB.out | apply c1 | apply c2 | apply c3 | refine c4 ?_ GE274.out | refine c4 ?_ GE275.out) | exact HB.out)) hb)
  have n3_ := am (hbox)
  have n4_ := am ((by rw [hg]; exact (below_size (by repeat (first | (with_reducible first | exact HB.out | apply c1 | apply c2 | apply c3 | refine c4 ?_ GE274.out | refine c4 ?_ GE275.out) | exact HB.out))) : w.heap.size ≤ gb279))
  have n5_ := am ((by rw [hg]; exact (below_size (by repeat (first | (with_reducible first | exact HB.out | apply c1 | apply c2 | apply c3 | refine c4 ?_ GE274.out | refine c4 ?_ GE275.out) | exact HB.out))) : w.heap.size ≤ gb279))
  have n6_ := am ((by rw [hg]; exact Nat.ne_of_lt (blk_lt (g := gb274) (o := .cells #[.slice (some ad277) l0_0.length c0_0, .slice A0_1 l0_1.length c0_1, .int .i64 a0_2] 25 (0, 0)) (by (with_reducible repeat (first | refine b1 ?_ _ | refine b2 ?_ | refine b3 ?_ _)); exact BK274.out)) : gb274 ≠ gb279))
  have n7_ := am ((by rw [hg]; exact Nat.ne_of_gt (blk_lt (g := gb274) (o := .cells #[.slice (some ad277) l0_0.length c0_0, .slice A0_1 l0_1.length c0_1, .int .i64 a0_2] 25 (0, 0)) (by (with_reducible repeat (first | refine b1 ?_ _ | refine b2 ?_ | refine b3 ?_ _)); exact BK274.out)) : gb279 ≠ gb274))
  have n8_ := am ((by rw [hg]; exact Nat.ne_of_lt (blk_lt (g := gb275) (o := .cells #[.slice (some ad278) l1_0.length c1_0, .slice A1_1 l1_1.length c1_1, .int .i64 a1_2] 25 (0, 0)) (by (with_reducible repeat (first | refine b1 ?_ _ | refine b2 ?_ | refine b3 ?_ _)); exact BK275.out)) : gb275 ≠ gb279))
  have n9_ := am ((by rw [hg]; exact Nat.ne_of_gt (blk_lt (g := gb275) (o := .cells #[.slice (some ad278) l1_0.length c1_0, .slice A1_1 l1_1.length c1_1, .int .i64 a1_2] 25 (0, 0)) (by (with_reducible repeat (first | refine b1 ?_ _ | refine b2 ?_ | refine b3 ?_ _)); exact BK275.out)) : gb279 ≠ gb275))
  clear BK274
  clear BK275
  clear HB
  have BK274 := n0_
  have BK275 := n1_
  have HB := n2_
  have BK279 := n3_
  have GW279 := n4_
  have GE279 := n5_
  have NB274_279 := n6_
  have NB279_274 := n7_
  have NB275_279 := n8_
  have NB279_275 := n9_
  clear n0_ n1_ n2_ n3_ n4_ n5_ n6_ n7_ n8_ n9_
  clear hb hbox hg
  refine hK.out _ _ ⟨(b4 BK274.out 0).trans rfl, (b4 BK274.out 1).trans rfl, (b4 BK274.out 2).trans rfl, (b4 BK275.out 0).trans rfl, (b4 BK275.out 1).trans rfl, (b4 BK275.out 2).trans rfl, ((HB.out.cell (bl w _ hw277_0)).trans hw277_0), ((HB.out.cell (bl w _ hw277_1)).trans hw277_1), ((HB.out.cell (bl w _ hw277_2)).trans hw277_2), ((HB.out.cell (bl w _ hw277_3)).trans hw277_3), ((HB.out.cell (bl w _ hw277_4)).trans hw277_4), ((HB.out.cell (bl w _ hw277_5)).trans hw277_5), ((HB.out.cell (bl w _ hw277_6)).trans hw277_6), ((HB.out.cell (bl w _ hw277_7)).trans hw277_7), ((HB.out.cell (bl w _ hw277_8)).trans hw277_8), ((HB.out.cell (bl w _ hw278_0)).trans hw278_0), ((HB.out.cell (bl w _ hw278_1)).trans hw278_1), ((HB.out.cell (bl w _ hw278_2)).trans hw278_2), ((HB.out.cell (bl w _ hw278_3)).trans hw278_3), ((HB.out.cell (bl w _ hw278_4)).trans hw278_4), ((HB.out.cell (bl w _ hw278_5)).trans hw278_5), ((HB.out.cell (bl w _ hw278_6)).trans hw278_6), ((HB.out.cell (bl w _ hw278_7)).trans hw278_7), ((HB.out.cell (bl w _ hw278_8)).trans hw278_8)⟩ (fun hHeld => ?_)
  clear hK K
  refine norm_ (a' := ?_) ?_ ?_
  rotate_left
  ·
   show Act.put _ (some 6) _ = _
   simp only [Act.put, List.setIfInBounds_toArray, List.set_cons_zero, List.set_cons_succ, i64_w, i32_w]
   rfl
  refine one_ (i := 11) (N := some 7) #[true, true, true, true, true, true, true, true, true, true, true, true, false, false] rfl rfl (one_of HT_.out (by kernel_rfl)) (by decide) (fun K hK => ?_)
  refine box_step ?hg (N := 7) ?hd (cs := #[.int .i64 0, .slice none 0 0, .slice none 0 0, .slice none 0 0, .slice none 0 0, .int .i64 0, .int .i64 0, .int .i64 0, .int .i64 0]) (t := 44) ?hr ?_; (case hd => rfl); (case hg => rfl); (case hr => first | (go_simp; done) | (go_simp; rfl))
  intro gb280 hg w27 hbox hb
  have n0_ := am (b5 (g := gb274) (o := .cells #[.slice (some ad277) l0_0.length c0_0, .slice A0_1 l0_1.length c0_1, .int .i64 a0_2] 25 (0, 0)) (by (with_reducible repeat (first | refine b1 ?_ _ | refine b2 ?_ | refine b3 ?_ _)); exact BK274.out) hb)
  have n1_ := am (b5 (g := gb275) (o := .cells #[.slice (some ad278) l1_0.length c1_0, .slice A1_1 l1_1.length c1_1, .int .i64 a1_2] 25 (0, 0)) (by (with_reducible repeat (first | refine b1 ?_ _ | refine b2 ?_ | refine b3 ?_ _)); exact BK275.out) hb)
  have n2_ := am (b5 (g := gb279) (o := .cells #[.int .i64 0, .slice none 0 0, .slice none 0 0, .slice none 0 0, .slice none 0 0, .int .i64 0, .int .i64 0, .int .i64 0, .int .i64 0] 44 (0, 0)) (by (with_reducible repeat (first | refine b1 ?_ _ | refine b2 ?_ | refine b3 ?_ _)); exact BK279.out) hb)
  have n3_ := am (below_step (by repeat (first | (with_reducible first | exact HB.out | apply c1 | apply c2 | apply c3 | refine c4 ?_ GE274.out | refine c4 ?_ GE275.out | refine c4 ?_ GE279.out) | exact HB.out)) hb)
  have n4_ := am (hbox)
  have n5_ := am ((by rw [hg]; exact (below_size (by repeat (first | (with_reducible first | exact HB.out | apply c1 | apply c2 | apply c3 | refine c4 ?_ GE274.out | refine c4 ?_ GE275.out | refine c4 ?_ GE279.out) | exact HB.out))) : w.heap.size ≤ gb280))
  have n6_ := am ((by rw [hg]; exact (below_size (by repeat (first | (with_reducible first | exact HB.out | apply c1 | apply c2 | apply c3 | refine c4 ?_ GE274.out | refine c4 ?_ GE275.out | refine c4 ?_ GE279.out) | exact HB.out))) : w.heap.size ≤ gb280))
  have n7_ := am ((by rw [hg]; exact Nat.ne_of_lt (blk_lt (g := gb274) (o := .cells #[.slice (some ad277) l0_0.length c0_0, .slice A0_1 l0_1.length c0_1, .int .i64 a0_2] 25 (0, 0)) (by (with_reducible repeat (first | refine b1 ?_ _ | refine b2 ?_ | refine b3 ?_ _)); exact BK274.out)) : gb274 ≠ gb280))
  have n8_ := am ((by rw [hg]; exact Nat.ne_of_gt (blk_lt (g := gb274) (o := .cells #[.slice (some ad277) l0_0.length c0_0, .slice A0_1 l0_1.length c0_1, .int .i64 a0_2] 25 (0, 0)) (by (with_reducible repeat (first | refine b1 ?_ _ | refine b2 ?_ | refine b3 ?_ _)); exact BK274.out)) : gb280 ≠ gb274))
  have n9_ := am ((by rw [hg]; exact Nat.ne_of_lt (blk_lt (g := gb275) (o := .cells #[.slice (some ad278) l1_0.length c1_0, .slice A1_1 l1_1.length c1_1, .int .i64 a1_2] 25 (0, 0)) (by (with_reducible repeat (first | refine b1 ?_ _ | refine b2 ?_ | refine b3 ?_ _)); exact BK275.out)) : gb275 ≠ gb280))
  have n10_ := am ((by rw [hg]; exact Nat.ne_of_gt (blk_lt (g := gb275) (o := .cells #[.slice (some ad278) l1_0.length c1_0, .slice A1_1 l1_1.length c1_1, .int .i64 a1_2] 25 (0, 0)) (by (with_reducible repeat (first | refine b1 ?_ _ | refine b2 ?_ | refine b3 ?_ _)); exact BK275.out)) : gb280 ≠ gb275))
  have n11_ := am ((by rw [hg]; exact Nat.ne_of_lt (blk_lt (g := gb279) (o := .cells #[.int .i64 0, .slice none 0 0, .slice none 0 0, .slice none 0 0, .slice none 0 0, .int .i64 0, .int .i64 0, .int .i64 0, .int .i64 0] 44 (0, 0)) (by (with_reducible repeat (first | refine b1 ?_ _ | refine b2 ?_ | refine b3 ?_ _)); exact BK279.out)) : gb279 ≠ gb280))
  have n12_ := am ((by rw [hg]; exact Nat.ne_of_gt (blk_lt (g := gb279) (o := .cells #[.int .i64 0, .slice none 0 0, .slice none 0 0, .slice none 0 0, .slice none 0 0, .int .i64 0, .int .i64 0, .int .i64 0, .int .i64 0] 44 (0, 0)) (by (with_reducible repeat (first | refine b1 ?_ _ | refine b2 ?_ | refine b3 ?_ _)); exact BK279.out)) : gb280 ≠ gb279))
  clear BK274
  clear BK275
  clear BK279
  clear HB
  have BK274 := n0_
  have BK275 := n1_
  have BK279 := n2_
  have HB := n3_
  have BK280 := n4_
  have GW280 := n5_
  have GE280 := n6_
  have NB274_280 := n7_
  have NB280_274 := n8_
  have NB275_280 := n9_
  have NB280_275 := n10_
  have NB279_280 := n11_
  have NB280_279 := n12_
  clear n0_ n1_ n2_ n3_ n4_ n5_ n6_ n7_ n8_ n9_ n10_ n11_ n12_
  clear hb hbox hg
  refine hK.out _ _ ⟨(b4 BK274.out 0).trans rfl, (b4 BK274.out 1).trans rfl, (b4 BK274.out 2).trans rfl, (b4 BK275.out 0).trans rfl, (b4 BK275.out 1).trans rfl, (b4 BK275.out 2).trans rfl, ((HB.out.cell (bl w _ hw277_0)).trans hw277_0), ((HB.out.cell (bl w _ hw277_1)).trans hw277_1), ((HB.out.cell (bl w _ hw277_2)).trans hw277_2), ((HB.out.cell (bl w _ hw277_3)).trans hw277_3), ((HB.out.cell (bl w _ hw277_4)).trans hw277_4), ((HB.out.cell (bl w _ hw277_5)).trans hw277_5), ((HB.out.cell (bl w _ hw277_6)).trans hw277_6), ((HB.out.cell (bl w _ hw277_7)).trans hw277_7), ((HB.out.cell (bl w _ hw277_8)).trans hw277_8), ((HB.out.cell (bl w _ hw278_0)).trans hw278_0), ((HB.out.cell (bl w _ hw278_1)).trans hw278_1), ((HB.out.cell (bl w _ hw278_2)).trans hw278_2), ((HB.out.cell (bl w _ hw278_3)).trans hw278_3), ((HB.out.cell (bl w _ hw278_4)).trans hw278_4), ((HB.out.cell (bl w _ hw278_5)).trans hw278_5), ((HB.out.cell (bl w _ hw278_6)).trans hw278_6), ((HB.out.cell (bl w _ hw278_7)).trans hw278_7), ((HB.out.cell (bl w _ hw278_8)).trans hw278_8)⟩ (fun hHeld => ?_)
  clear hK K
  refine norm_ (a' := ?_) ?_ ?_
  rotate_left
  ·
   show Act.put _ (some 7) _ = _
   simp only [Act.put, List.setIfInBounds_toArray, List.set_cons_zero, List.set_cons_succ, i64_w, i32_w]
   rfl
  exact norm_ (by simp only [putAll, Act.put, List.setIfInBounds_toArray, List.set_cons_zero, List.set_cons_succ]) (hCont (gb279, gb280) _ ⟨hHeld, (by (with_reducible repeat (first | refine b1 ?_ _ | refine b2 ?_ | refine b3 ?_ _)); exact BK274.out), (by (with_reducible repeat (first | refine b1 ?_ _ | refine b2 ?_ | refine b3 ?_ _)); exact BK275.out), (by (with_reducible repeat (first | refine b1 ?_ _ | refine b2 ?_ | refine b3 ?_ _)); exact BK279.out), (by (with_reducible repeat (first | refine b1 ?_ _ | refine b2 ?_ | refine b3 ?_ _)); exact BK280.out), GW279.out, GE279.out, NB274_279.out, NB279_274.out, NB275_279.out, NB279_275.out, NB280_279.out, NB279_280.out, GW280.out, GE280.out, NB274_280.out, NB280_274.out, NB275_280.out, NB280_275.out, (by repeat (first | (with_reducible first | exact HB.out | apply c1 | apply c2 | apply c3 | refine c4 ?_ GE274.out | refine c4 ?_ GE275.out | refine c4 ?_ GE279.out | refine c4 ?_ GE280.out) | exact HB.out))⟩)
 ·
  skip
  refine box_step ?hg (N := 7) ?hd (cs := #[.int .i64 0, .slice none 0 0, .slice none 0 0, .slice none 0 0, .slice none 0 0, .int .i64 0, .int .i64 0, .int .i64 0, .int .i64 0]) (t := 44) ?hr ?_; (case hd => rfl); (case hg => rfl); (case hr => first | (go_simp; done) | (go_simp; rfl))
  intro gb280 hg w26 hbox hb
  have n0_ := am (b5 (g := gb274) (o := .cells #[.slice (some ad277) l0_0.length c0_0, .slice A0_1 l0_1.length c0_1, .int .i64 a0_2] 25 (0, 0)) (by (with_reducible repeat (first | refine b1 ?_ _ | refine b2 ?_ | refine b3 ?_ _)); exact BK274.out) hb)
  have n1_ := am (b5 (g := gb275) (o := .cells #[.slice (some ad278) l1_0.length c1_0, .slice A1_1 l1_1.length c1_1, .int .i64 a1_2] 25 (0, 0)) (by (with_reducible repeat (first | refine b1 ?_ _ | refine b2 ?_ | refine b3 ?_ _)); exact BK275.out) hb)
  have n2_ := am (below_step (by repeat (first | (with_reducible first | exact HB.out | apply c1 | apply c2 | apply c3 | refine c4 ?_ GE274.out | refine c4 ?_ GE275.out) | exact HB.out)) hb)
  have n3_ := am (hbox)
  have n4_ := am ((by rw [hg]; exact (below_size (by repeat (first | (with_reducible first | exact HB.out | apply c1 | apply c2 | apply c3 | refine c4 ?_ GE274.out | refine c4 ?_ GE275.out) | exact HB.out))) : w.heap.size ≤ gb280))
  have n5_ := am ((by rw [hg]; exact (below_size (by repeat (first | (with_reducible first | exact HB.out | apply c1 | apply c2 | apply c3 | refine c4 ?_ GE274.out | refine c4 ?_ GE275.out) | exact HB.out))) : w.heap.size ≤ gb280))
  have n6_ := am ((by rw [hg]; exact Nat.ne_of_lt (blk_lt (g := gb274) (o := .cells #[.slice (some ad277) l0_0.length c0_0, .slice A0_1 l0_1.length c0_1, .int .i64 a0_2] 25 (0, 0)) (by (with_reducible repeat (first | refine b1 ?_ _ | refine b2 ?_ | refine b3 ?_ _)); exact BK274.out)) : gb274 ≠ gb280))
  have n7_ := am ((by rw [hg]; exact Nat.ne_of_gt (blk_lt (g := gb274) (o := .cells #[.slice (some ad277) l0_0.length c0_0, .slice A0_1 l0_1.length c0_1, .int .i64 a0_2] 25 (0, 0)) (by (with_reducible repeat (first | refine b1 ?_ _ | refine b2 ?_ | refine b3 ?_ _)); exact BK274.out)) : gb280 ≠ gb274))
  have n8_ := am ((by rw [hg]; exact Nat.ne_of_lt (blk_lt (g := gb275) (o := .cells #[.slice (some ad278) l1_0.length c1_0, .slice A1_1 l1_1.length c1_1, .int .i64 a1_2] 25 (0, 0)) (by (with_reducible repeat (first | refine b1 ?_ _ | refine b2 ?_ | refine b3 ?_ _)); exact BK275.out)) : gb275 ≠ gb280))
  have n9_ := am ((by rw [hg]; exact Nat.ne_of_gt (blk_lt (g := gb275) (o := .cells #[.slice (some ad278) l1_0.length c1_0, .slice A1_1 l1_1.length c1_1, .int .i64 a1_2] 25 (0, 0)) (by (with_reducible repeat (first | refine b1 ?_ _ | refine b2 ?_ | refine b3 ?_ _)); exact BK275.out)) : gb280 ≠ gb275))
  clear BK274
  clear BK275
  clear HB
  have BK274 := n0_
  have BK275 := n1_
  have HB := n2_
  have BK280 := n3_
  have GW280 := n4_
  have GE280 := n5_
  have NB274_280 := n6_
  have NB280_274 := n7_
  have NB275_280 := n8_
  have NB280_275 := n9_
  clear n0_ n1_ n2_ n3_ n4_ n5_ n6_ n7_ n8_ n9_
  clear hb hbox hg
  refine hK.out _ _ ⟨(b4 BK274.out 0).trans rfl, (b4 BK274.out 1).trans rfl, (b4 BK274.out 2).trans rfl, (b4 BK275.out 0).trans rfl, (b4 BK275.out 1).trans rfl, (b4 BK275.out 2).trans rfl, ((HB.out.cell (bl w _ hw277_0)).trans hw277_0), ((HB.out.cell (bl w _ hw277_1)).trans hw277_1), ((HB.out.cell (bl w _ hw277_2)).trans hw277_2), ((HB.out.cell (bl w _ hw277_3)).trans hw277_3), ((HB.out.cell (bl w _ hw277_4)).trans hw277_4), ((HB.out.cell (bl w _ hw277_5)).trans hw277_5), ((HB.out.cell (bl w _ hw277_6)).trans hw277_6), ((HB.out.cell (bl w _ hw277_7)).trans hw277_7), ((HB.out.cell (bl w _ hw277_8)).trans hw277_8), ((HB.out.cell (bl w _ hw278_0)).trans hw278_0), ((HB.out.cell (bl w _ hw278_1)).trans hw278_1), ((HB.out.cell (bl w _ hw278_2)).trans hw278_2), ((HB.out.cell (bl w _ hw278_3)).trans hw278_3), ((HB.out.cell (bl w _ hw278_4)).trans hw278_4), ((HB.out.cell (bl w _ hw278_5)).trans hw278_5), ((HB.out.cell (bl w _ hw278_6)).trans hw278_6), ((HB.out.cell (bl w _ hw278_7)).trans hw278_7), ((HB.out.cell (bl w _ hw278_8)).trans hw278_8)⟩ (fun hHeld => ?_)
  clear hK K
  refine norm_ (a' := ?_) ?_ ?_
  rotate_left
  ·
   show Act.put _ (some 7) _ = _
   simp only [Act.put, List.setIfInBounds_toArray, List.set_cons_zero, List.set_cons_succ, i64_w, i32_w]
   rfl
  refine one_ (i := 10) (N := some 6) #[true, true, true, true, true, true, true, true, true, true, true, true, false, false] rfl rfl (one_of HT_.out (by kernel_rfl)) (by decide) (fun K hK => ?_)
  refine box_step ?hg (N := 6) ?hd (cs := #[.int .i64 0, .slice none 0 0, .slice none 0 0, .slice none 0 0, .slice none 0 0, .int .i64 0, .int .i64 0, .int .i64 0, .int .i64 0]) (t := 44) ?hr ?_; (case hd => rfl); (case hg => rfl); (case hr => first | (go_simp; done) | (go_simp; rfl))
  intro gb279 hg w27 hbox hb
  have n0_ := am (b5 (g := gb274) (o := .cells #[.slice (some ad277) l0_0.length c0_0, .slice A0_1 l0_1.length c0_1, .int .i64 a0_2] 25 (0, 0)) (by (with_reducible repeat (first | refine b1 ?_ _ | refine b2 ?_ | refine b3 ?_ _)); exact BK274.out) hb)
  have n1_ := am (b5 (g := gb275) (o := .cells #[.slice (some ad278) l1_0.length c1_0, .slice A1_1 l1_1.length c1_1, .int .i64 a1_2] 25 (0, 0)) (by (with_reducible repeat (first | refine b1 ?_ _ | refine b2 ?_ | refine b3 ?_ _)); exact BK275.out) hb)
  have n2_ := am (b5 (g := gb280) (o := .cells #[.int .i64 0, .slice none 0 0, .slice none 0 0, .slice none 0 0, .slice none 0 0, .int .i64 0, .int .i64 0, .int .i64 0, .int .i64 0] 44 (0, 0)) (by (with_reducible repeat (first | refine b1 ?_ _ | refine b2 ?_ | refine b3 ?_ _)); exact BK280.out) hb)
  have n3_ := am (below_step (by repeat (first | (with_reducible first | exact HB.out | apply c1 | apply c2 | apply c3 | refine c4 ?_ GE274.out | refine c4 ?_ GE275.out | refine c4 ?_ GE280.out) | exact HB.out)) hb)
  have n4_ := am (hbox)
  have n5_ := am ((by rw [hg]; exact (below_size (by repeat (first | (with_reducible first | exact HB.out | apply c1 | apply c2 | apply c3 | refine c4 ?_ GE274.out | refine c4 ?_ GE275.out | refine c4 ?_ GE280.out) | exact HB.out))) : w.heap.size ≤ gb279))
  have n6_ := am ((by rw [hg]; exact (below_size (by repeat (first | (with_reducible first | exact HB.out | apply c1 | apply c2 | apply c3 | refine c4 ?_ GE274.out | refine c4 ?_ GE275.out | refine c4 ?_ GE280.out) | exact HB.out))) : w.heap.size ≤ gb279))
  have n7_ := am ((by rw [hg]; exact Nat.ne_of_lt (blk_lt (g := gb274) (o := .cells #[.slice (some ad277) l0_0.length c0_0, .slice A0_1 l0_1.length c0_1, .int .i64 a0_2] 25 (0, 0)) (by (with_reducible repeat (first | refine b1 ?_ _ | refine b2 ?_ | refine b3 ?_ _)); exact BK274.out)) : gb274 ≠ gb279))
  have n8_ := am ((by rw [hg]; exact Nat.ne_of_gt (blk_lt (g := gb274) (o := .cells #[.slice (some ad277) l0_0.length c0_0, .slice A0_1 l0_1.length c0_1, .int .i64 a0_2] 25 (0, 0)) (by (with_reducible repeat (first | refine b1 ?_ _ | refine b2 ?_ | refine b3 ?_ _)); exact BK274.out)) : gb279 ≠ gb274))
  have n9_ := am ((by rw [hg]; exact Nat.ne_of_lt (blk_lt (g := gb275) (o := .cells #[.slice (some ad278) l1_0.length c1_0, .slice A1_1 l1_1.length c1_1, .int .i64 a1_2] 25 (0, 0)) (by (with_reducible repeat (first | refine b1 ?_ _ | refine b2 ?_ | refine b3 ?_ _)); exact BK275.out)) : gb275 ≠ gb279))
  have n10_ := am ((by rw [hg]; exact Nat.ne_of_gt (blk_lt (g := gb275) (o := .cells #[.slice (some ad278) l1_0.length c1_0, .slice A1_1 l1_1.length c1_1, .int .i64 a1_2] 25 (0, 0)) (by (with_reducible repeat (first | refine b1 ?_ _ | refine b2 ?_ | refine b3 ?_ _)); exact BK275.out)) : gb279 ≠ gb275))
  have n11_ := am ((by rw [hg]; exact Nat.ne_of_lt (blk_lt (g := gb280) (o := .cells #[.int .i64 0, .slice none 0 0, .slice none 0 0, .slice none 0 0, .slice none 0 0, .int .i64 0, .int .i64 0, .int .i64 0, .int .i64 0] 44 (0, 0)) (by (with_reducible repeat (first | refine b1 ?_ _ | refine b2 ?_ | refine b3 ?_ _)); exact BK280.out)) : gb280 ≠ gb279))
  have n12_ := am ((by rw [hg]; exact Nat.ne_of_gt (blk_lt (g := gb280) (o := .cells #[.int .i64 0, .slice none 0 0, .slice none 0 0, .slice none 0 0, .slice none 0 0, .int .i64 0, .int .i64 0, .int .i64 0, .int .i64 0] 44 (0, 0)) (by (with_reducible repeat (first | refine b1 ?_ _ | refine b2 ?_ | refine b3 ?_ _)); exact BK280.out)) : gb279 ≠ gb280))
  clear BK274
  clear BK275
  clear BK280
  clear HB
  have BK274 := n0_
  have BK275 := n1_
  have BK280 := n2_
  have HB := n3_
  have BK279 := n4_
  have GW279 := n5_
  have GE279 := n6_
  have NB274_279 := n7_
  have NB279_274 := n8_
  have NB275_279 := n9_
  have NB279_275 := n10_
  have NB280_279 := n11_
  have NB279_280 := n12_
  clear n0_ n1_ n2_ n3_ n4_ n5_ n6_ n7_ n8_ n9_ n10_ n11_ n12_
  clear hb hbox hg
  refine hK.out _ _ ⟨(b4 BK274.out 0).trans rfl, (b4 BK274.out 1).trans rfl, (b4 BK274.out 2).trans rfl, (b4 BK275.out 0).trans rfl, (b4 BK275.out 1).trans rfl, (b4 BK275.out 2).trans rfl, ((HB.out.cell (bl w _ hw277_0)).trans hw277_0), ((HB.out.cell (bl w _ hw277_1)).trans hw277_1), ((HB.out.cell (bl w _ hw277_2)).trans hw277_2), ((HB.out.cell (bl w _ hw277_3)).trans hw277_3), ((HB.out.cell (bl w _ hw277_4)).trans hw277_4), ((HB.out.cell (bl w _ hw277_5)).trans hw277_5), ((HB.out.cell (bl w _ hw277_6)).trans hw277_6), ((HB.out.cell (bl w _ hw277_7)).trans hw277_7), ((HB.out.cell (bl w _ hw277_8)).trans hw277_8), ((HB.out.cell (bl w _ hw278_0)).trans hw278_0), ((HB.out.cell (bl w _ hw278_1)).trans hw278_1), ((HB.out.cell (bl w _ hw278_2)).trans hw278_2), ((HB.out.cell (bl w _ hw278_3)).trans hw278_3), ((HB.out.cell (bl w _ hw278_4)).trans hw278_4), ((HB.out.cell (bl w _ hw278_5)).trans hw278_5), ((HB.out.cell (bl w _ hw278_6)).trans hw278_6), ((HB.out.cell (bl w _ hw278_7)).trans hw278_7), ((HB.out.cell (bl w _ hw278_8)).trans hw278_8)⟩ (fun hHeld => ?_)
  clear hK K
  refine norm_ (a' := ?_) ?_ ?_
  rotate_left
  ·
   show Act.put _ (some 6) _ = _
   simp only [Act.put, List.setIfInBounds_toArray, List.set_cons_zero, List.set_cons_succ, i64_w, i32_w]
   rfl
  exact norm_ (by simp only [putAll, Act.put, List.setIfInBounds_toArray, List.set_cons_zero, List.set_cons_succ]) (hCont (gb279, gb280) _ ⟨hHeld, (by (with_reducible repeat (first | refine b1 ?_ _ | refine b2 ?_ | refine b3 ?_ _)); exact BK274.out), (by (with_reducible repeat (first | refine b1 ?_ _ | refine b2 ?_ | refine b3 ?_ _)); exact BK275.out), (by (with_reducible repeat (first | refine b1 ?_ _ | refine b2 ?_ | refine b3 ?_ _)); exact BK279.out), (by (with_reducible repeat (first | refine b1 ?_ _ | refine b2 ?_ | refine b3 ?_ _)); exact BK280.out), GW279.out, GE279.out, NB274_279.out, NB279_274.out, NB275_279.out, NB279_275.out, NB280_279.out, NB279_280.out, GW280.out, GE280.out, NB274_280.out, NB280_274.out, NB275_280.out, NB280_275.out, (by repeat (first | (with_reducible first | exact HB.out | apply c1 | apply c2 | apply c3 | refine c4 ?_ GE274.out | refine c4 ?_ GE275.out | refine c4 ?_ GE280.out | refine c4 ?_ GE279.out) | exact HB.out))⟩)
end Go.Proofs.Ytbdpnecnnokkkaa.PSheetSame
