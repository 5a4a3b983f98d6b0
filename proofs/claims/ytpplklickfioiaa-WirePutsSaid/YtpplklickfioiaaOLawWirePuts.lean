/- WirePuts: for whatever arguments the law returns true, and its arguments read as they did. -/
import Derived.Test.YtpplklickfioiaaRows
import Derived.Test.YtpplklickfioiaaQWirePuts
import Derived.Test.YtpplklickfioiaaPureWirePuts
import Derived.WalkKit
import Derived.ProofKit
import Derived.OpenShut
import Derived.ShutString
import Derived.ChangeOld
import Derived.Below
import Derived.SizedLaws
namespace Go.Proofs.Ytpplklickfioiaa.wirePuts
open Go.ChangeShapes Go.WideShapes Go.ChangeAt Go.RowKit Go.Proofs.Ytpplklickfioiaa.Opens Go.Proofs.YtpplklickfioiaaW.PrintWords
set_option linter.unusedVariables false
set_option linter.unusedSimpArgs false
theorem own : ownKnob Try.prog.godebug = none := by kernel_rfl
theorem laidOut : laidOutB Try.prog = true := by kernel_rfl
set_option maxRecDepth 100000 in
theorem lifted (os : Os) (started : os.Started) (H : Type) (enc : TypeId × Value → H) :
    ReturnsInHanded {} Try.checked os 5 .any (Rows.wirePutsSpec.pre6 enc Try.prog Try.f5 Rows.wirePutsRow.domain false) (Rows.wirePutsSpec.post enc Try.prog Try.f5 false true false false) := by
  refine returnsInHanded_of_change_sized (C := Try.checked) own started (by kernel_rfl) Try.func5
    (ChangeSpec.witness6 (enc := enc) (C := Try.checked) false ⟨#[], #[.slice none 0 0, .agg #[.int .i64 0, .int .i64 0, .slice none 0 0, .int .i64 0, .int .i64 0, .int .i64 0, .slice none 0 0, .int .i64 0, .slice none 0 0]], []⟩ 8 (by kernel_rfl) (by kernel_rfl) (by kernel_rfl) (by kernel_rfl)) ?_
  intro W base args ds gs before hval0 hW hcnd hsz0 _
  have hval : ∀ (j : Nat) t v, Try.f5.params[j]? = some t → args[j]? = some v → Value.okWide Try.prog W .any base t v := hval0
  have hW' := hW
  obtain ⟨p, q, hA0, hV, rfl, hfz, hnd⟩ := hW
  have hA : DataW.TrodAll enc Try.prog W 0 (fun _ => true) true Try.f5.params.toList args.toList ds p := hA0
  rw [Try.params5] at hA hval
  obtain ⟨v0, vs0, d0, ds0, p0, q0, hargs, rfl, rfl, h0, r0⟩ := trodAll_cons hA
  obtain ⟨v1, vs1, d1, ds1, p1, q1, rfl, rfl, rfl, h1, r1⟩ := trodAll_cons r0
  obtain ⟨rfl, rfl, rfl⟩ := trodAll_nil r1
  obtain rfl : args = #[v0, v1] := by cases args; simp_all
  obtain ⟨rfl, rfl⟩ := trodVars_none hV
  have k0 := h0
  have lt0 : ∀ x ∈ p0, x.block < W.heap.size := by obtain ⟨m, hm⟩ := k0; exact DataW.trod_lt m _ _ _ hm
  obtain ⟨A0, n0, c0, rfl⟩ := okWide_slice Try.underlying22 (hval 0 22 v0 rfl rfl)
  obtain ⟨l0, rfl, hr0, hc0, hm0, hw0⟩ := slice_arg (wf := fun x => (Lit.int .u8 x).wf = true) (op_slice Try.underlying22 (by kernel_rfl) (op_int Try.underlying5)) h0
  have k1 := h1
  have lt1 : ∀ x ∈ p1, x.block < W.heap.size := by obtain ⟨m, hm⟩ := k1; exact DataW.trod_lt m _ _ _ hm
  obtain ⟨cs1, rfl, _⟩ := okWide_struct Try.underlying40 (hval 1 40 v1 rfl rfl)
  obtain ⟨x1, hK1, hw1⟩ := any_arg PWirePuts.op_40 h1
  obtain ⟨A1_2, c1_2, A1_6, c1_6, A1_8, c1_8, e1, l1_2, g1_2, l1_6, g1_6, l1_8, g1_8⟩ := PWirePuts.k40_open hK1
  obtain rfl : cs1 = #[.int .i64 x1.f0, .int .i64 x1.f1, .slice A1_2 x1.f2.f0.length c1_2, .int .i64 x1.f2.f1.f0, .int .i64 x1.f2.f1.f1, .int .i64 x1.f2.f2, .slice A1_6 x1.f3.length c1_6, .int .i64 x1.f4, .slice A1_8 x1.f5.length c1_8] := by cases cs1; simpa [Value.cells] using e1
  obtain ⟨k, hP⟩ := Pure.WirePuts l0 x1 hm0 hw0 hw1
  clear hA0 hval0 hsz0
  refine (PWirePuts.runnellaw26_WirePuts.calls k _ _ l0 x1.f0 x1.f1 (fun k => k < W.heap.size) _ _ x1.f2.f0 x1.f2.f1.f0 x1.f2.f1.f1 x1.f2.f2 (fun k => k < W.heap.size) _ _ x1.f3 x1.f4 (fun k => k < W.heap.size) _ _ x1.f5 true W hr0 hc0 (PWirePuts.V_of_C (PWirePuts.kh103) g1_2 l1_2) (PWirePuts.V_of_C (PWirePuts.kh36) g1_6 l1_6) (PWirePuts.V_of_C ((Kd.heap_int .u8)) g1_8 l1_8) rfl hP).mono fun e W' ⟨he, bel0⟩ => ?_
  have bel : Below W.heap.size W W' := bel0
  subst he
  exact ⟨_, rfl, _, _, _, [], _, [], hW', trodAll_mk1 (shut_bool Try.underlying4 _), (trodAll_cons_mk (Below.trod laidOut (by kernel_rfl) (of_decide_eq_true (by kernel_rfl)) k0 bel lt0) (trodAll_cons_mk (Below.trod laidOut (by kernel_rfl) (of_decide_eq_true (by kernel_rfl)) k1 bel lt1) trodAll_mk0)), rfl, bel.frame _, fun h => by cases h⟩
theorem over : Rows.wirePutsRow.holds Try.pinned (OpenSpec.ofChange Rows.wirePutsSpec) :=
  OpenClaim.holds_of_wide 5 Try.f5 rfl rfl rfl rfl rfl rfl rfl ⟨rfl, rfl, rfl, rfl, rfl⟩ rfl rfl rfl rfl rfl (by kernel_rfl) Try.func5 (by kernel_rfl)
    (of_decide_eq_true (by kernel_rfl)) (by unfold Func.isWrapper; first | (rw [if_pos (by decide +kernel)]; kernel_rfl) | (rw [if_neg (by decide +kernel)]; exact ⟨rfl, rfl⟩))
    (fun os started H enc _ => lifted os started H enc)
theorem proved : Rows.WirePutsSaid := over
#print axioms proved
end Go.Proofs.Ytpplklickfioiaa.wirePuts
namespace Go.Proofs.Ytpplklickfioiaa
/-- The row, under a short name, for the claim. -/
theorem wirePuts_holds : Rows.WirePutsSaid := wirePuts.proved
end Go.Proofs.Ytpplklickfioiaa
