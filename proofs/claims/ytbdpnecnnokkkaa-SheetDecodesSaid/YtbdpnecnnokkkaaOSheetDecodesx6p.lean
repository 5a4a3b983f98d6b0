/- One piece of the machine's side of the law, written by a program over the translation; Lean checks it. -/
import Derived.Test.YtbdpnecnnokkkaaOSheetDecodesx0
import Derived.Test.YtbdpnecnnokkkaaOSheetDecodesx1
import Derived.Test.YtbdpnecnnokkkaaOSheetDecodesx5
import Derived.Test.YtbdpnecnnokkkaaShort
namespace Go.Proofs.Ytbdpnecnnokkkaa.PSheetDecodes
open Go.RowKit Go.Proofs.YtbdpnecnnokkkaaW.PrintWords Go.Proofs.YtbdpnecnnokkkaaW.PrintLast Go.Proofs.YtbdpnecnnokkkaaW.PrintMore
attribute [local go_sem] max2_int min2_int max_two min_two max_three min_three max_four min_four   -- for this text's walks alone
set_option linter.unusedVariables false
set_option linter.unusedSimpArgs false

attribute [local go_sem high] eqA52
/-! ### runnelref17_Same: function 9 -/
mutual
def runnelref17_Same.j0 : Nat → Bool → List (S44) → List Int → Int → List (S44) → List Int → Int → Option (Bool)
 | 0, _, _, _, _, _, _, _ => none
 | k + 1, x31, x246000, x246001, x246002, x247000, x247001, x247002 => if x31 = true then (some false) else (runnelref17_Same.l0 k 0 x246000 x246001 x246002 x247000 x247001 x247002)
def runnelref17_Same.l0 : Nat → Int → List (S44) → List Int → Int → List (S44) → List Int → Int → Option (Bool)
 | 0, _, _, _, _, _, _, _ => none
 | k + 1, x5, x246000, x246001, x246002, x247000, x247001, x247002 => if x5 < (x246000.length : Int) then (if 0 ≤ x5 then (if x5 < (x247000.length : Int) then (if ((rd_T44 x246000 x5).f0) = ((rd_T44 x247000 x5).f0) then (if ((rd_T44 x246000 x5).f5) = ((rd_T44 x247000 x5).f5) then (if ((rd_T44 x246000 x5).f6) = ((rd_T44 x247000 x5).f6) then (if ((rd_T44 x246000 x5).f7) = ((rd_T44 x247000 x5).f7) then (if ((rd_T44 x246000 x5).f8) = ((rd_T44 x247000 x5).f8) then ((runnelref16_Same.f k ((rd_T44 x246000 x5).f1) ((rd_T44 x247000 x5).f1)).bind fun t252 => (if t252 = true then ((runnelref16_Same.f k ((rd_T44 x246000 x5).f2) ((rd_T44 x247000 x5).f2)).bind fun t253 => (if t253 = true then ((runnelref16_Same.f k ((rd_T44 x246000 x5).f4) ((rd_T44 x247000 x5).f4)).bind fun t254 => (if t254 = true then (runnelref17_Same.j2 k x5 ((((rd_T44 x246000 x5).f3).length : Int) != (((rd_T44 x247000 x5).f3).length : Int)) x246000 x246001 x246002 x247000 x247001 x247002 ((rd_T44 x246000 x5).f0) ((rd_T44 x246000 x5).f1) ((rd_T44 x246000 x5).f2) ((rd_T44 x246000 x5).f3) ((rd_T44 x246000 x5).f4) ((rd_T44 x246000 x5).f5) ((rd_T44 x246000 x5).f6) ((rd_T44 x246000 x5).f7) ((rd_T44 x246000 x5).f8) ((rd_T44 x247000 x5).f0) ((rd_T44 x247000 x5).f1) ((rd_T44 x247000 x5).f2) ((rd_T44 x247000 x5).f3) ((rd_T44 x247000 x5).f4) ((rd_T44 x247000 x5).f5) ((rd_T44 x247000 x5).f6) ((rd_T44 x247000 x5).f7) ((rd_T44 x247000 x5).f8)) else (runnelref17_Same.j2 k x5 true x246000 x246001 x246002 x247000 x247001 x247002 ((rd_T44 x246000 x5).f0) ((rd_T44 x246000 x5).f1) ((rd_T44 x246000 x5).f2) ((rd_T44 x246000 x5).f3) ((rd_T44 x246000 x5).f4) ((rd_T44 x246000 x5).f5) ((rd_T44 x246000 x5).f6) ((rd_T44 x246000 x5).f7) ((rd_T44 x246000 x5).f8) ((rd_T44 x247000 x5).f0) ((rd_T44 x247000 x5).f1) ((rd_T44 x247000 x5).f2) ((rd_T44 x247000 x5).f3) ((rd_T44 x247000 x5).f4) ((rd_T44 x247000 x5).f5) ((rd_T44 x247000 x5).f6) ((rd_T44 x247000 x5).f7) ((rd_T44 x247000 x5).f8)))) else (runnelref17_Same.j2 k x5 true x246000 x246001 x246002 x247000 x247001 x247002 ((rd_T44 x246000 x5).f0) ((rd_T44 x246000 x5).f1) ((rd_T44 x246000 x5).f2) ((rd_T44 x246000 x5).f3) ((rd_T44 x246000 x5).f4) ((rd_T44 x246000 x5).f5) ((rd_T44 x246000 x5).f6) ((rd_T44 x246000 x5).f7) ((rd_T44 x246000 x5).f8) ((rd_T44 x247000 x5).f0) ((rd_T44 x247000 x5).f1) ((rd_T44 x247000 x5).f2) ((rd_T44 x247000 x5).f3) ((rd_T44 x247000 x5).f4) ((rd_T44 x247000 x5).f5) ((rd_T44 x247000 x5).f6) ((rd_T44 x247000 x5).f7) ((rd_T44 x247000 x5).f8)))) else (runnelref17_Same.j2 k x5 true x246000 x246001 x246002 x247000 x247001 x247002 ((rd_T44 x246000 x5).f0) ((rd_T44 x246000 x5).f1) ((rd_T44 x246000 x5).f2) ((rd_T44 x246000 x5).f3) ((rd_T44 x246000 x5).f4) ((rd_T44 x246000 x5).f5) ((rd_T44 x246000 x5).f6) ((rd_T44 x246000 x5).f7) ((rd_T44 x246000 x5).f8) ((rd_T44 x247000 x5).f0) ((rd_T44 x247000 x5).f1) ((rd_T44 x247000 x5).f2) ((rd_T44 x247000 x5).f3) ((rd_T44 x247000 x5).f4) ((rd_T44 x247000 x5).f5) ((rd_T44 x247000 x5).f6) ((rd_T44 x247000 x5).f7) ((rd_T44 x247000 x5).f8)))) else (runnelref17_Same.j2 k x5 true x246000 x246001 x246002 x247000 x247001 x247002 ((rd_T44 x246000 x5).f0) ((rd_T44 x246000 x5).f1) ((rd_T44 x246000 x5).f2) ((rd_T44 x246000 x5).f3) ((rd_T44 x246000 x5).f4) ((rd_T44 x246000 x5).f5) ((rd_T44 x246000 x5).f6) ((rd_T44 x246000 x5).f7) ((rd_T44 x246000 x5).f8) ((rd_T44 x247000 x5).f0) ((rd_T44 x247000 x5).f1) ((rd_T44 x247000 x5).f2) ((rd_T44 x247000 x5).f3) ((rd_T44 x247000 x5).f4) ((rd_T44 x247000 x5).f5) ((rd_T44 x247000 x5).f6) ((rd_T44 x247000 x5).f7) ((rd_T44 x247000 x5).f8))) else (runnelref17_Same.j2 k x5 true x246000 x246001 x246002 x247000 x247001 x247002 ((rd_T44 x246000 x5).f0) ((rd_T44 x246000 x5).f1) ((rd_T44 x246000 x5).f2) ((rd_T44 x246000 x5).f3) ((rd_T44 x246000 x5).f4) ((rd_T44 x246000 x5).f5) ((rd_T44 x246000 x5).f6) ((rd_T44 x246000 x5).f7) ((rd_T44 x246000 x5).f8) ((rd_T44 x247000 x5).f0) ((rd_T44 x247000 x5).f1) ((rd_T44 x247000 x5).f2) ((rd_T44 x247000 x5).f3) ((rd_T44 x247000 x5).f4) ((rd_T44 x247000 x5).f5) ((rd_T44 x247000 x5).f6) ((rd_T44 x247000 x5).f7) ((rd_T44 x247000 x5).f8))) else (runnelref17_Same.j2 k x5 true x246000 x246001 x246002 x247000 x247001 x247002 ((rd_T44 x246000 x5).f0) ((rd_T44 x246000 x5).f1) ((rd_T44 x246000 x5).f2) ((rd_T44 x246000 x5).f3) ((rd_T44 x246000 x5).f4) ((rd_T44 x246000 x5).f5) ((rd_T44 x246000 x5).f6) ((rd_T44 x246000 x5).f7) ((rd_T44 x246000 x5).f8) ((rd_T44 x247000 x5).f0) ((rd_T44 x247000 x5).f1) ((rd_T44 x247000 x5).f2) ((rd_T44 x247000 x5).f3) ((rd_T44 x247000 x5).f4) ((rd_T44 x247000 x5).f5) ((rd_T44 x247000 x5).f6) ((rd_T44 x247000 x5).f7) ((rd_T44 x247000 x5).f8))) else (runnelref17_Same.j2 k x5 true x246000 x246001 x246002 x247000 x247001 x247002 ((rd_T44 x246000 x5).f0) ((rd_T44 x246000 x5).f1) ((rd_T44 x246000 x5).f2) ((rd_T44 x246000 x5).f3) ((rd_T44 x246000 x5).f4) ((rd_T44 x246000 x5).f5) ((rd_T44 x246000 x5).f6) ((rd_T44 x246000 x5).f7) ((rd_T44 x246000 x5).f8) ((rd_T44 x247000 x5).f0) ((rd_T44 x247000 x5).f1) ((rd_T44 x247000 x5).f2) ((rd_T44 x247000 x5).f3) ((rd_T44 x247000 x5).f4) ((rd_T44 x247000 x5).f5) ((rd_T44 x247000 x5).f6) ((rd_T44 x247000 x5).f7) ((rd_T44 x247000 x5).f8))) else (runnelref17_Same.j2 k x5 true x246000 x246001 x246002 x247000 x247001 x247002 ((rd_T44 x246000 x5).f0) ((rd_T44 x246000 x5).f1) ((rd_T44 x246000 x5).f2) ((rd_T44 x246000 x5).f3) ((rd_T44 x246000 x5).f4) ((rd_T44 x246000 x5).f5) ((rd_T44 x246000 x5).f6) ((rd_T44 x246000 x5).f7) ((rd_T44 x246000 x5).f8) ((rd_T44 x247000 x5).f0) ((rd_T44 x247000 x5).f1) ((rd_T44 x247000 x5).f2) ((rd_T44 x247000 x5).f3) ((rd_T44 x247000 x5).f4) ((rd_T44 x247000 x5).f5) ((rd_T44 x247000 x5).f6) ((rd_T44 x247000 x5).f7) ((rd_T44 x247000 x5).f8))) else (none)) else (none)) else (some true)
def runnelref17_Same.j2 : Nat → Int → Bool → List (S44) → List Int → Int → List (S44) → List Int → Int → Int → List Int → List Int → List (List (S52)) → List Int → Int → Int → Int → Int → Int → List Int → List Int → List (List (S52)) → List Int → Int → Int → Int → Int → Option (Bool)
 | 0, _, _, _, _, _, _, _, _, _, _, _, _, _, _, _, _, _, _, _, _, _, _, _, _, _, _ => none
 | k + 1, x5, x114, x246000, x246001, x246002, x247000, x247001, x247002, x251000, x251001, x251002, x251003, x251004, x251005, x251006, x251007, x251008, x252000, x252001, x252002, x252003, x252004, x252005, x252006, x252007, x252008 => if x114 = true then (some false) else (runnelref17_Same.l1 k x5 0 x246000 x246001 x246002 x247000 x247001 x247002 x251000 x251001 x251002 x251003 x251004 x251005 x251006 x251007 x251008 x252000 x252001 x252002 x252003 x252004 x252005 x252006 x252007 x252008)
def runnelref17_Same.l1 : Nat → Int → Int → List (S44) → List Int → Int → List (S44) → List Int → Int → Int → List Int → List Int → List (List (S52)) → List Int → Int → Int → Int → Int → Int → List Int → List Int → List (List (S52)) → List Int → Int → Int → Int → Int → Option (Bool)
 | 0, _, _, _, _, _, _, _, _, _, _, _, _, _, _, _, _, _, _, _, _, _, _, _, _, _, _ => none
 | k + 1, x5, x8, x246000, x246001, x246002, x247000, x247001, x247002, x251000, x251001, x251002, x251003, x251004, x251005, x251006, x251007, x251008, x252000, x252001, x252002, x252003, x252004, x252005, x252006, x252007, x252008 => if x8 < (x251003.length : Int) then (if 0 ≤ x8 then (if x8 < (x252003.length : Int) then (if ((rd_L3 x251003 x8).length : Int) = ((rd_L3 x252003 x8).length : Int) then (runnelref17_Same.l2 k x5 x8 0 x246000 x246001 x246002 x247000 x247001 x247002 x251000 x251001 x251002 x251003 x251004 x251005 x251006 x251007 x251008 x252000 x252001 x252002 x252003 x252004 x252005 x252006 x252007 x252008) else (some false)) else (none)) else (none)) else (runnelref17_Same.l0 k (wrap64 (x5 + 1)) x246000 x246001 x246002 x247000 x247001 x247002)
def runnelref17_Same.l2 : Nat → Int → Int → Int → List (S44) → List Int → Int → List (S44) → List Int → Int → Int → List Int → List Int → List (List (S52)) → List Int → Int → Int → Int → Int → Int → List Int → List Int → List (List (S52)) → List Int → Int → Int → Int → Int → Option (Bool)
 | 0, _, _, _, _, _, _, _, _, _, _, _, _, _, _, _, _, _, _, _, _, _, _, _, _, _, _, _ => none
 | k + 1, x5, x8, x9, x246000, x246001, x246002, x247000, x247001, x247002, x251000, x251001, x251002, x251003, x251004, x251005, x251006, x251007, x251008, x252000, x252001, x252002, x252003, x252004, x252005, x252006, x252007, x252008 => if 0 ≤ x8 then (if x8 < (x251003.length : Int) then (if x9 < ((rd_L3 x251003 x8).length : Int) then (if 0 ≤ x9 then (if x8 < (x252003.length : Int) then (if x9 < ((rd_L3 x252003 x8).length : Int) then (if (!(((rd_T52 (rd_L3 x251003 x8) x9).f0) == ((rd_T52 (rd_L3 x252003 x8) x9).f0)) || (!(((rd_T52 (rd_L3 x251003 x8) x9).f1) == ((rd_T52 (rd_L3 x252003 x8) x9).f1)) || (!((((rd_T52 (rd_L3 x251003 x8) x9).f2).toList) == (((rd_T52 (rd_L3 x252003 x8) x9).f2).toList))))) = true then (some false) else (runnelref17_Same.l2 k x5 x8 (wrap64 (x9 + 1)) x246000 x246001 x246002 x247000 x247001 x247002 x251000 x251001 x251002 x251003 x251004 x251005 x251006 x251007 x251008 x252000 x252001 x252002 x252003 x252004 x252005 x252006 x252007 x252008)) else (none)) else (none)) else (none)) else (runnelref17_Same.l1 k x5 (wrap64 (x8 + 1)) x246000 x246001 x246002 x247000 x247001 x247002 x251000 x251001 x251002 x251003 x251004 x251005 x251006 x251007 x251008 x252000 x252001 x252002 x252003 x252004 x252005 x252006 x252007 x252008)) else (none)) else (none)
end
def runnelref17_Same.f (k : Nat) (l0_0 : List (S44)) (l0_1 : List Int) (a0_2 : Int) (l1_0 : List (S44)) (l1_1 : List Int) (a1_2 : Int) : Option (Bool) := if a0_2 = a1_2 then ((runnelref16_Same.f k l0_1 l1_1).bind fun t247 => (if t247 = true then (runnelref17_Same.j0 k ((l0_0.length : Int) != (l1_0.length : Int)) l0_0 l0_1 a0_2 l1_0 l1_1 a1_2) else (runnelref17_Same.j0 k true l0_0 l0_1 a0_2 l1_0 l1_1 a1_2))) else (runnelref17_Same.j0 k true l0_0 l0_1 a0_2 l1_0 l1_1 a1_2)
def runnelref17_Same.T6 : Bool × List (List Nat × List Nat) := (true, [([], []), ([0], [0]), ([], []), ([1, 2], [1, 2]), ([3], [3]), ([], []), ([5], [5]), ([], []), ([6, 7], [6, 7]), ([8], [8]), ([], []), ([], []), ([10, 4, 0, 1, 2, 3, 4, 10, 11], [4, 10]), ([11, 9, 12, 0, 1, 2, 3, 4, 5, 6, 7, 8, 9, 10, 11, 12], [9, 11])])
def runnelref17_Same.B6 : List Nat := [0, 1, 0, 7, 15, 0, 32, 0, 224, 480, 0, 0, 3103, 8191]
theorem runnelref17_Same.tab6 : rtab .any (opsOf Try.f9 6) = runnelref17_Same.T6 := by kernel_rfl
theorem runnelref17_Same.bits6 : waitsOk runnelref17_Same.T6.2 runnelref17_Same.B6 = true := by kernel_rfl
def runnelref17_Same.T12 : Bool × List (List Nat × List Nat) := (true, [([], []), ([0], [0]), ([], []), ([1, 2], [1, 2]), ([3], [3]), ([4], [4]), ([], []), ([6], [6]), ([], []), ([7, 8], [7, 8]), ([9], [9]), ([10], [10]), ([5, 11], [5, 11])])
def runnelref17_Same.B12 : List Nat := [0, 1, 0, 7, 15, 31, 0, 64, 0, 448, 960, 1984, 4095]
theorem runnelref17_Same.tab12 : rtab .any (opsOf Try.f9 12) = runnelref17_Same.T12 := by kernel_rfl
theorem runnelref17_Same.bits12 : waitsOk runnelref17_Same.T12.2 runnelref17_Same.B12 = true := by kernel_rfl
def runnelref17_Same.T17 : Bool × List (List Nat × List Nat) := (true, [([], []), ([0], [0]), ([], []), ([1, 2], [1, 2]), ([3], [3]), ([], []), ([4, 5], [4, 5]), ([6], [6]), ([], []), ([8], [8]), ([], []), ([9, 10], [9, 10]), ([11], [11]), ([], []), ([12, 13], [12, 13]), ([14], [14]), ([7, 15], [7, 15])])
def runnelref17_Same.B17 : List Nat := [0, 1, 0, 7, 15, 0, 63, 127, 0, 256, 0, 1792, 3840, 0, 16128, 32512, 65535]
theorem runnelref17_Same.tab17 : rtab .any (opsOf Try.f9 17) = runnelref17_Same.T17 := by kernel_rfl
theorem runnelref17_Same.bits17 : waitsOk runnelref17_Same.T17.2 runnelref17_Same.B17 = true := by kernel_rfl
/-- A statement that hides another. -/
structure runnelref17_Same.calls.Hid (P : Prop) : Prop where
 out : P
set_option maxHeartbeats 8000000 in
set_option maxRecDepth 100000 in
noncomputable def runnelref17_Same.calls.pre : (P0 : Prop) ×' (P1 : Prop) ×' (runnelref17_Same.calls.Hid P0 → runnelref17_Same.calls.Hid P1 → ∀ (k : Nat) (A0_0 : Option Addr) (c0_0 : Nat) (l0_0 : List (S44)) (A0_1 : Option Addr) (c0_1 : Nat) (l0_1 : List Int) (a0_2 : Int) (A1_0 : Option Addr) (c1_0 : Nat) (l1_0 : List (S44)) (A1_1 : Option Addr) (c1_1 : Nat) (l1_1 : List Int) (a1_2 : Int) (r : Bool) (w : World) (hr0_0 : Kd.C k44 w A0_0 l0_0.length l0_0) (hc0_0 : l0_0.length ≤ c0_0) (hr0_1 : Kd.C (Kd.int .i64) w A0_1 l0_1.length l0_1) (hc0_1 : l0_1.length ≤ c0_1) (hr1_0 : Kd.C k44 w A1_0 l1_0.length l1_0) (hc1_0 : l1_0.length ≤ c1_0) (hr1_1 : Kd.C (Kd.int .i64) w A1_1 l1_1.length l1_1) (hc1_1 : l1_1.length ≤ c1_1) (h : runnelref17_Same.f k l0_0 l0_1 a0_2 l1_0 l1_1 a1_2 = some r), Calls Try.prog 9 #[.agg #[.slice A0_0 l0_0.length c0_0, .slice A0_1 l0_1.length c0_1, .int .i64 a0_2], .agg #[.slice A1_0 l1_0.length c1_0, .slice A1_1 l1_1.length c1_1, .int .i64 a1_2]] w fun e w' => e = .returned (.bool r) ∧ Below w.heap.size w w') := by
 apply PSigma.mk
 apply PSigma.mk
 · intro hl_0 hl_1 k A0_0 c0_0 l0_0 A0_1 c0_1 l0_1 a0_2 A1_0 c1_0 l1_0 A1_1 c1_1 l1_1 a1_2 r w hr0_0 hc0_0 hr0_1 hc0_1 hr1_0 hc1_0 hr1_1 hc1_1 h
   have hu25 := Try.underlying25
   have hu44 := Try.underlying44
   have hu52 := Try.underlying52
   have HR0_0 := Aside0.mk hr0_0
   have HC0_0 := Aside0.mk hc0_0
   clear hr0_0 hc0_0
   have HR0_1 := Aside0.mk hr0_1
   have HC0_1 := Aside0.mk hc0_1
   clear hr0_1 hc0_1
   have HR1_0 := Aside0.mk hr1_0
   have HC1_0 := Aside0.mk hc1_0
   clear hr1_0 hc1_0
   have HR1_1 := Aside0.mk hr1_1
   have HC1_1 := Aside0.mk hc1_1
   clear hr1_1 hc1_1
   have HB := Aside0.mk (Below.refl w.heap.size w)
   have H : (if a0_2 = a1_2 then ((runnelref16_Same.f k l0_1 l1_1).bind fun t247 => (if t247 = true then (runnelref17_Same.j0 k ((l0_0.length : Int) != (l1_0.length : Int)) l0_0 l0_1 a0_2 l1_0 l1_1 a1_2) else (runnelref17_Same.j0 k true l0_0 l0_1 a0_2 l1_0 l1_1 a1_2))) else (runnelref17_Same.j0 k true l0_0 l0_1 a0_2 l1_0 l1_1 a1_2)) = some r := h
   clear h
   have HC3 := Aside0.mk H
   clear H
   go_enter Try.func9, Try.ntmps9
   go_upto_region 1 with (first | ((with_reducible refine gate_dst (N := 2) rfl ?_); (try (refine gate_guard (by rfl) ?_; dsimp only)); refine box_event ?hg (N := 2) ?hd (cs := #[.slice A0_0 l0_0.length c0_0, .slice A0_1 l0_1.length c0_1, .int .i64 a0_2]) (t := 25) ?hr ?_; (case hd => rfl); (case hg => rfl); (case hr => first | (go_simp; done) | (go_simp; rfl)); intro gb245 hg w4 hbox hb; have n0_ := Aside0.mk (below_step bl hb); have n1_ := Aside0.mk (hbox); have n2_ := Aside0.mk ((by rw [hg]; exact (below_size bl) : w.heap.size ≤ gb245)); have n3_ := Aside0.mk ((by rw [hg]; exact (below_size bl) : w.heap.size ≤ gb245)); clear HB; have HB := n0_; have BK245 := n1_; have GW245 := n2_; have GE245 := n3_; clear n0_ n1_ n2_ n3_; clear hb hbox hg) | ((with_reducible refine gate_dst (N := 3) rfl ?_); (try (refine gate_guard (by rfl) ?_; dsimp only)); refine box_event ?hg (N := 3) ?hd (cs := #[.slice A1_0 l1_0.length c1_0, .slice A1_1 l1_1.length c1_1, .int .i64 a1_2]) (t := 25) ?hr ?_; (case hd => rfl); (case hg => rfl); (case hr => first | (go_simp; done) | (go_simp; rfl)); intro gb246 hg w5 hbox hb; have n0_ := Aside0.mk (blk_below (g := gb245) (o := .cells #[.slice A0_0 l0_0.length c0_0, .slice A0_1 l0_1.length c0_1, .int .i64 a0_2] 25 (0, 0)) bk hb); have n1_ := Aside0.mk (below_step bl hb); have n2_ := Aside0.mk (hbox); have n3_ := Aside0.mk ((by rw [hg]; exact (below_size bl) : w.heap.size ≤ gb246)); have n4_ := Aside0.mk ((by rw [hg]; exact (below_size bl) : w.heap.size ≤ gb246)); have n5_ := Aside0.mk ((by rw [hg]; exact Nat.ne_of_lt blt : gb245 ≠ gb246)); have n6_ := Aside0.mk ((by rw [hg]; exact Nat.ne_of_gt blt : gb246 ≠ gb245)); clear BK245; clear HB; have BK245 := n0_; have HB := n1_; have BK246 := n2_; have GW246 := n3_; have GE246 := n4_; have NB245_246 := n5_; have NB246_245 := n6_; clear n0_ n1_ n2_ n3_ n4_ n5_ n6_; clear hb hbox hg))
   (try simp only [Act.put, List.setIfInBounds_toArray, List.set_cons_zero, List.set_cons_succ])
   go_cut [31] (fun v31 wc => ∃ (kq : Nat) (x31_2 : Bool), v31 = .bool x31_2 ∧ Aside0 (runnelref17_Same.j0 kq x31_2 l0_0 l0_1 a0_2 l1_0 l1_1 a1_2 = some r) ∧ Aside0 (kq ≤ k) ∧ Aside0 (wc.heap[gb245]? = some (.cells #[(.slice A0_0 l0_0.length c0_0), (.slice A0_1 l0_1.length c0_1), .int .i64 a0_2] 25 (0, 0))) ∧ Aside0 (wc.heap[gb246]? = some (.cells #[(.slice A1_0 l1_0.length c1_0), (.slice A1_1 l1_1.length c1_1), .int .i64 a1_2] 25 (0, 0))) ∧ Aside0 (Below w.heap.size w wc))
   case first =>
    have H := HC3.out
    clear HC3
    by_cases c6 : a0_2 = a1_2
    ·
     rw [if_pos c6] at H
     have c6b0 : (a0_2 == a1_2) = true := beq_iff_eq.mpr c6
     have c6b1 : (a0_2 != a1_2) = false := bne_eq_false_iff_eq.mpr c6
     clear c6
     (first | rw [c6b0] | (simp only [i64_w, i32_w]; rw [c6b0]) | skip)
     replace H := Option.bind_eq_some_iff.mp H
     obtain ⟨t247, A70, H⟩ := H
     replace H : (if t247 = true then (runnelref17_Same.j0 k ((l0_0.length : Int) != (l1_0.length : Int)) l0_0 l0_1 a0_2 l1_0 l1_1 a1_2) else (runnelref17_Same.j0 k true l0_0 l0_1 a0_2 l1_0 l1_1 a1_2)) = some r := H
     have A7 := Aside0.mk A70
     clear A70
     by_cases c8 : t247 = true
     ·
      subst c8
      have H1 : (runnelref17_Same.j0 k ((l0_0.length : Int) != (l1_0.length : Int)) l0_0 l0_1 a0_2 l1_0 l1_1 a1_2) = some r := by rw [if_pos rfl] at H; exact H
      clear H
      have H := H1
      clear H1
      have H' := Aside0.mk H
      clear H
      have hnb9 := NB245_246.out
      have hnc9 := NB246_245.out
      obtain ⟨hcz10_0, hcz10_1, hcz10_2⟩ := cells3 BK245.out
      obtain ⟨hfz10_0, hfz10_1, hfz10_2⟩ := frz3 BK245.out
      obtain ⟨hcz11_0, hcz11_1, hcz11_2⟩ := cells3 BK246.out
      obtain ⟨hfz11_0, hfz11_1, hfz11_2⟩ := frz3 BK246.out
      go_wp2_with (first | (go_at_call 24; (with_reducible refine (runnelref16_Same.calls k _ _ l0_1 _ _ l1_1 true _ ?side1 ?side2 ?side3 ?side4 A7.out).mono ?_); (case side1 => repeat (first | exact (Kd.C_below HR0_1.out HB.out) | (with_reducible refine Kd.C_alloc ?_ _) | (with_reducible refine Kd.C_drewN ?_ _) | (with_reducible refine Kd.C_drew ?_))); (case side2 => exact HC0_1.out); (case side3 => repeat (first | exact (Kd.C_below HR1_1.out HB.out) | (with_reducible refine Kd.C_alloc ?_ _) | (with_reducible refine Kd.C_drewN ?_ _) | (with_reducible refine Kd.C_drew ?_))); (case side4 => exact HC1_1.out); rintro e w' ⟨rfl, ⟨nd, rfl⟩⟩))
      go_meet
      case rel => exact ⟨_, (((l0_0.length : Int) != (l1_0.length : Int))), (by first | rfl | (simp; done) | (simp [*]; done)), H', ⟨by first | omega | exact Nat.le_refl _⟩, ⟨by (with_reducible repeat (first | refine blk_drewN ?_ _ | refine blk_drew ?_ | refine blk_alloc ?_ _)); exact BK245.out⟩, ⟨by (with_reducible repeat (first | refine blk_drewN ?_ _ | refine blk_drew ?_ | refine blk_alloc ?_ _)); exact BK246.out⟩, ⟨bl⟩⟩
     ·
      replace c8 := Bool.eq_false_iff.mpr c8
      subst c8
      have H1 : (runnelref17_Same.j0 k true l0_0 l0_1 a0_2 l1_0 l1_1 a1_2) = some r := by rw [if_neg (show ¬ (false = true) by decide)] at H; exact H
      clear H
      have H := H1
      clear H1
      have H' := Aside0.mk H
      clear H
      have hnb12 := NB245_246.out
      have hnc12 := NB246_245.out
      obtain ⟨hcz13_0, hcz13_1, hcz13_2⟩ := cells3 BK245.out
      obtain ⟨hfz13_0, hfz13_1, hfz13_2⟩ := frz3 BK245.out
      obtain ⟨hcz14_0, hcz14_1, hcz14_2⟩ := cells3 BK246.out
      obtain ⟨hfz14_0, hfz14_1, hfz14_2⟩ := frz3 BK246.out
      go_wp2_with (first | (go_at_call 24; (with_reducible refine (runnelref16_Same.calls k _ _ l0_1 _ _ l1_1 false _ ?side1 ?side2 ?side3 ?side4 A7.out).mono ?_); (case side1 => repeat (first | exact (Kd.C_below HR0_1.out HB.out) | (with_reducible refine Kd.C_alloc ?_ _) | (with_reducible refine Kd.C_drewN ?_ _) | (with_reducible refine Kd.C_drew ?_))); (case side2 => exact HC0_1.out); (case side3 => repeat (first | exact (Kd.C_below HR1_1.out HB.out) | (with_reducible refine Kd.C_alloc ?_ _) | (with_reducible refine Kd.C_drewN ?_ _) | (with_reducible refine Kd.C_drew ?_))); (case side4 => exact HC1_1.out); rintro e w' ⟨rfl, ⟨nd, rfl⟩⟩))
      go_meet
      case rel => exact ⟨_, (true), (by first | rfl | (simp; done) | (simp [*]; done)), H', ⟨by first | omega | exact Nat.le_refl _⟩, ⟨by (with_reducible repeat (first | refine blk_drewN ?_ _ | refine blk_drew ?_ | refine blk_alloc ?_ _)); exact BK245.out⟩, ⟨by (with_reducible repeat (first | refine blk_drewN ?_ _ | refine blk_drew ?_ | refine blk_alloc ?_ _)); exact BK246.out⟩, ⟨bl⟩⟩
    ·
     rw [if_neg c6] at H
     have c6b0 : (a0_2 == a1_2) = false := beq_eq_false_iff_ne.mpr c6
     have c6b1 : (a0_2 != a1_2) = true := bne_iff_ne.mpr c6
     (first | rw [c6b0] | (simp only [i64_w, i32_w]; rw [c6b0]) | skip)
     have H' := Aside0.mk H
     clear H
     have hnb15 := NB245_246.out
     have hnc15 := NB246_245.out
     obtain ⟨hcz16_0, hcz16_1, hcz16_2⟩ := cells3 BK245.out
     obtain ⟨hfz16_0, hfz16_1, hfz16_2⟩ := frz3 BK245.out
     obtain ⟨hcz17_0, hcz17_1, hcz17_2⟩ := cells3 BK246.out
     obtain ⟨hfz17_0, hfz17_1, hfz17_2⟩ := frz3 BK246.out
     go_wp2
     go_meet
     case rel => exact ⟨_, (true), (by first | rfl | (simp; done) | (simp [*]; done)), H', ⟨by first | omega | exact Nat.le_refl _⟩, ⟨by (with_reducible repeat (first | refine blk_drewN ?_ _ | refine blk_drew ?_ | refine blk_alloc ?_ _)); exact BK245.out⟩, ⟨by (with_reducible repeat (first | refine blk_drewN ?_ _ | refine blk_drew ?_ | refine blk_alloc ?_ _)); exact BK246.out⟩, ⟨bl⟩⟩
   case rest =>
    clear HC3
    obtain ⟨kq, x31_2, rfl, HA, HJ2, BK245, BK246, HB⟩ := hcut
    cases kq with
    | zero => exact absurd HA.out (by simp [runnelref17_Same.j0])
    | succ kj2 =>
     have H := HA.out
     clear HA
     simp only [runnelref17_Same.j0] at H
     by_cases c18 : x31_2 = true
     ·
      subst c18
      have H1 : (some false) = some r := by rw [if_pos rfl] at H; exact H
      clear H
      have H := H1
      clear H1
      obtain rfl := Option.some.inj H
      go_wp2
      go_ret
      exact ⟨erq, by repeat (first | (with_reducible first | exact HB.out | apply below_alloc | apply pw_below_drewN | apply below_drew1 | refine below_set ?_ GE245.out | refine below_set ?_ GE246.out) | exact HB.out)⟩
     ·
      replace c18 := Bool.eq_false_iff.mpr c18
      subst c18
      have H1 : (runnelref17_Same.l0 kj2 0 l0_0 l0_1 a0_2 l1_0 l1_1 a1_2) = some r := by rw [if_neg (show ¬ (false = true) by decide)] at H; exact H
      clear H
      have H := H1
      clear H1
      have H' := Aside0.mk H
      clear H
      go_wp2
      go_loopg [5] kj2 (fun kq v5 w' => ∃ (x5_2 : Int), v5 = .int .i64 x5_2 ∧ Aside0 (runnelref17_Same.l0 kq x5_2 l0_0 l0_1 a0_2 l1_0 l1_1 a1_2 = some r) ∧ Aside0 (kq ≤ kj2) ∧ Aside0 (w'.heap[gb245]? = some (.cells #[(.slice A0_0 l0_0.length c0_0), (.slice A0_1 l0_1.length c0_1), .int .i64 a0_2] 25 (0, 0))) ∧ Aside0 (w'.heap[gb246]? = some (.cells #[(.slice A1_0 l1_0.length c1_0), (.slice A1_1 l1_1.length c1_1), .int .i64 a1_2] 25 (0, 0))) ∧ Aside0 (Below w.heap.size w w'))
      case atStart => exact ⟨(0), (by first | rfl | (simp; done) | (simp [*]; done)), H', ⟨Nat.le_refl _⟩, ⟨by (with_reducible repeat (first | refine blk_drewN ?_ _ | refine blk_drew ?_ | refine blk_alloc ?_ _)); exact BK245.out⟩, ⟨by (with_reducible repeat (first | refine blk_drewN ?_ _ | refine blk_drew ?_ | refine blk_alloc ?_ _)); exact BK246.out⟩, ⟨bl⟩⟩
      case round =>
       clear H'
       try clear c18
       obtain ⟨x5_2, rfl, HA, HK2, BK245, BK246, HB⟩ := hrel
       cases gk with
       | zero => exact absurd HA.out (by simp [runnelref17_Same.l0])
       | succ k2 =>
        have H := HA.out
        clear HA
        simp only [runnelref17_Same.l0] at H
        by_cases c19 : x5_2 < (l0_0.length : Int)
        ·
         rw [if_pos c19] at H
         have c19b0 : decide (x5_2 < (l0_0.length : Int)) = true := decide_eq_true c19
         clear c19
         by_cases c20 : 0 ≤ x5_2
         ·
          rw [if_pos c20] at H
          have c20b0 : decide (0 ≤ x5_2) = true := decide_eq_true c20
          clear c20
          by_cases c21 : x5_2 < (l1_0.length : Int)
          ·
           rw [if_pos c21] at H
           have c21b0 : decide (x5_2 < (l1_0.length : Int)) = true := decide_eq_true c21
           clear c21
           have HC22 := Aside0.mk H
           clear H
           have hnb23 := NB245_246.out
           have hnc23 := NB246_245.out
           obtain ⟨hcz24_0, hcz24_1, hcz24_2⟩ := cells3 BK245.out
           obtain ⟨hfz24_0, hfz24_1, hfz24_2⟩ := frz3 BK245.out
           try go_wp2
           have n0_ := Aside0.mk (blk_drew BK245.out)
           have n1_ := Aside0.mk (blk_drew BK246.out)
           have n2_ := Aside0.mk (below_drew1 HB.out)
           clear BK245
           clear BK246
           clear HB
           have BK245 := n0_
           have BK246 := n1_
           have HB := n2_
           clear n0_ n1_ n2_
           have p248 : 0 ≤ (x5_2 : Int) := of_decide_eq_true (by first | (with_reducible assumption) | assumption)
           have q248 : x5_2 < (l0_0.length : Int) := of_decide_eq_true (by first | (with_reducible assumption) | assumption)
           obtain ⟨ad248, A248_1, c248_1, A248_2, c248_2, A248_3, c248_3, A248_4, c248_4, e248, hx248_0, hx248_1, hx248_2, hx248_3, hx248_4, hx248_5, hx248_6, hx248_7, hx248_8, hl248_1, hi248_1, hl248_2, hi248_2, hl248_3, hi248_3, hl248_4, hi248_4⟩ := at_T44 HR0_0.out x5_2 p248 q248
           have hw248_8 := hx248_8
           have hw248_7 := hx248_7
           have hw248_6 := hx248_6
           have hw248_5 := hx248_5
           have hw248_4 := hx248_4
           have hw248_3 := hx248_3
           have hw248_2 := hx248_2
           have hw248_1 := hx248_1
           have hw248_0 := hx248_0
           cases e248
           replace hx248_0 := bc HB.out hx248_0
           replace hx248_1 := bc HB.out hx248_1
           replace hx248_2 := bc HB.out hx248_2
           replace hx248_3 := bc HB.out hx248_3
           replace hx248_4 := bc HB.out hx248_4
           replace hx248_5 := bc HB.out hx248_5
           replace hx248_6 := bc HB.out hx248_6
           replace hx248_7 := bc HB.out hx248_7
           replace hx248_8 := bc HB.out hx248_8
           have HR248_1 := Aside0.mk hi248_1
           have HC248_1 := Aside0.mk hl248_1
           clear hi248_1 hl248_1
           have HR248_2 := Aside0.mk hi248_2
           have HC248_2 := Aside0.mk hl248_2
           clear hi248_2 hl248_2
           have HR248_3 := Aside0.mk hi248_3
           have HC248_3 := Aside0.mk hl248_3
           clear hi248_3 hl248_3
           have HR248_4 := Aside0.mk hi248_4
           have HC248_4 := Aside0.mk hl248_4
           clear hi248_4 hl248_4
           replace p248 := eq_true p248
           replace q248 := eq_true q248
           have p249 : 0 ≤ (x5_2 : Int) := of_decide_eq_true (by first | (with_reducible assumption) | assumption)
           have q249 : x5_2 < (l1_0.length : Int) := of_decide_eq_true (by first | (with_reducible assumption) | assumption)
           obtain ⟨ad249, A249_1, c249_1, A249_2, c249_2, A249_3, c249_3, A249_4, c249_4, e249, hx249_0, hx249_1, hx249_2, hx249_3, hx249_4, hx249_5, hx249_6, hx249_7, hx249_8, hl249_1, hi249_1, hl249_2, hi249_2, hl249_3, hi249_3, hl249_4, hi249_4⟩ := at_T44 HR1_0.out x5_2 p249 q249
           have hw249_8 := hx249_8
           have hw249_7 := hx249_7
           have hw249_6 := hx249_6
           have hw249_5 := hx249_5
           have hw249_4 := hx249_4
           have hw249_3 := hx249_3
           have hw249_2 := hx249_2
           have hw249_1 := hx249_1
           have hw249_0 := hx249_0
           cases e249
           replace hx249_0 := bc HB.out hx249_0
           replace hx249_1 := bc HB.out hx249_1
           replace hx249_2 := bc HB.out hx249_2
           replace hx249_3 := bc HB.out hx249_3
           replace hx249_4 := bc HB.out hx249_4
           replace hx249_5 := bc HB.out hx249_5
           replace hx249_6 := bc HB.out hx249_6
           replace hx249_7 := bc HB.out hx249_7
           replace hx249_8 := bc HB.out hx249_8
           have HR249_1 := Aside0.mk hi249_1
           have HC249_1 := Aside0.mk hl249_1
           clear hi249_1 hl249_1
           have HR249_2 := Aside0.mk hi249_2
           have HC249_2 := Aside0.mk hl249_2
           clear hi249_2 hl249_2
           have HR249_3 := Aside0.mk hi249_3
           have HC249_3 := Aside0.mk hl249_3
           clear hi249_3 hl249_3
           have HR249_4 := Aside0.mk hi249_4
           have HC249_4 := Aside0.mk hl249_4
           clear hi249_4 hl249_4
           replace p249 := eq_true p249
           replace q249 := eq_true q249
           refine start_ (n := 14) (S := fun w' => w'.cell? ⟨gb245, 0, none⟩ = some (.slice (some ad248) l0_0.length c0_0) ∧ w'.cell? ⟨gb245, 1, none⟩ = some (.slice A0_1 l0_1.length c0_1) ∧ w'.cell? ⟨gb245, 2, none⟩ = some (.int .i64 a0_2) ∧ w'.cell? ⟨gb246, 0, none⟩ = some (.slice (some ad249) l1_0.length c1_0) ∧ w'.cell? ⟨gb246, 1, none⟩ = some (.slice A1_1 l1_1.length c1_1) ∧ w'.cell? ⟨gb246, 2, none⟩ = some (.int .i64 a1_2) ∧ w'.cell? (ad248.add ((x5_2).toNat * 9)) = some (.int .i64 ((rd_T44 l0_0 x5_2).f0)) ∧ w'.cell? ⟨(ad248.add ((x5_2).toNat * 9)).block, (ad248.add ((x5_2).toNat * 9)).off + 1, none⟩ = some (.slice A248_1 ((rd_T44 l0_0 x5_2).f1).length c248_1) ∧ w'.cell? ⟨(ad248.add ((x5_2).toNat * 9)).block, (ad248.add ((x5_2).toNat * 9)).off + 2, none⟩ = some (.slice A248_2 ((rd_T44 l0_0 x5_2).f2).length c248_2) ∧ w'.cell? ⟨(ad248.add ((x5_2).toNat * 9)).block, (ad248.add ((x5_2).toNat * 9)).off + 3, none⟩ = some (.slice A248_3 ((rd_T44 l0_0 x5_2).f3).length c248_3) ∧ w'.cell? ⟨(ad248.add ((x5_2).toNat * 9)).block, (ad248.add ((x5_2).toNat * 9)).off + 4, none⟩ = some (.slice A248_4 ((rd_T44 l0_0 x5_2).f4).length c248_4) ∧ w'.cell? ⟨(ad248.add ((x5_2).toNat * 9)).block, (ad248.add ((x5_2).toNat * 9)).off + 5, none⟩ = some (.int .i64 ((rd_T44 l0_0 x5_2).f5)) ∧ w'.cell? ⟨(ad248.add ((x5_2).toNat * 9)).block, (ad248.add ((x5_2).toNat * 9)).off + 6, none⟩ = some (.int .i64 ((rd_T44 l0_0 x5_2).f6)) ∧ w'.cell? ⟨(ad248.add ((x5_2).toNat * 9)).block, (ad248.add ((x5_2).toNat * 9)).off + 7, none⟩ = some (.int .i64 ((rd_T44 l0_0 x5_2).f7)) ∧ w'.cell? ⟨(ad248.add ((x5_2).toNat * 9)).block, (ad248.add ((x5_2).toNat * 9)).off + 8, none⟩ = some (.int .i64 ((rd_T44 l0_0 x5_2).f8)) ∧ w'.cell? (ad249.add ((x5_2).toNat * 9)) = some (.int .i64 ((rd_T44 l1_0 x5_2).f0)) ∧ w'.cell? ⟨(ad249.add ((x5_2).toNat * 9)).block, (ad249.add ((x5_2).toNat * 9)).off + 1, none⟩ = some (.slice A249_1 ((rd_T44 l1_0 x5_2).f1).length c249_1) ∧ w'.cell? ⟨(ad249.add ((x5_2).toNat * 9)).block, (ad249.add ((x5_2).toNat * 9)).off + 2, none⟩ = some (.slice A249_2 ((rd_T44 l1_0 x5_2).f2).length c249_2) ∧ w'.cell? ⟨(ad249.add ((x5_2).toNat * 9)).block, (ad249.add ((x5_2).toNat * 9)).off + 3, none⟩ = some (.slice A249_3 ((rd_T44 l1_0 x5_2).f3).length c249_3) ∧ w'.cell? ⟨(ad249.add ((x5_2).toNat * 9)).block, (ad249.add ((x5_2).toNat * 9)).off + 4, none⟩ = some (.slice A249_4 ((rd_T44 l1_0 x5_2).f4).length c249_4) ∧ w'.cell? ⟨(ad249.add ((x5_2).toNat * 9)).block, (ad249.add ((x5_2).toNat * 9)).off + 5, none⟩ = some (.int .i64 ((rd_T44 l1_0 x5_2).f5)) ∧ w'.cell? ⟨(ad249.add ((x5_2).toNat * 9)).block, (ad249.add ((x5_2).toNat * 9)).off + 6, none⟩ = some (.int .i64 ((rd_T44 l1_0 x5_2).f6)) ∧ w'.cell? ⟨(ad249.add ((x5_2).toNat * 9)).block, (ad249.add ((x5_2).toNat * 9)).off + 7, none⟩ = some (.int .i64 ((rd_T44 l1_0 x5_2).f7)) ∧ w'.cell? ⟨(ad249.add ((x5_2).toNat * 9)).block, (ad249.add ((x5_2).toNat * 9)).off + 8, none⟩ = some (.int .i64 ((rd_T44 l1_0 x5_2).f8))) (ds := []) #[false, false, false, false, false, false, false, false, false, false, false, false, false, false] (by kernel_rfl) rfl rfl ⟨(blk_cell BK245.out 0).trans rfl, (blk_cell BK245.out 1).trans rfl, (blk_cell BK245.out 2).trans rfl, (blk_cell BK246.out 0).trans rfl, (blk_cell BK246.out 1).trans rfl, (blk_cell BK246.out 2).trans rfl, (bc HB.out hw248_0), (bc HB.out hw248_1), (bc HB.out hw248_2), (bc HB.out hw248_3), (bc HB.out hw248_4), (bc HB.out hw248_5), (bc HB.out hw248_6), (bc HB.out hw248_7), (bc HB.out hw248_8), (bc HB.out hw249_0), (bc HB.out hw249_1), (bc HB.out hw249_2), (bc HB.out hw249_3), (bc HB.out hw249_4), (bc HB.out hw249_5), (bc HB.out hw249_6), (bc HB.out hw249_7), (bc HB.out hw249_8)⟩ (fun hHeld => ?_); refine with_tabW runnelref17_Same.tab6 runnelref17_Same.bits6 (fun HT_ HW_ => ?_)
           generalize wr.drew = w25 at BK245 BK246 HB HR248_1 HR248_2 HR248_3 HR248_4 HR249_1 HR249_2 HR249_3 HR249_4 hx248_0 hx248_1 hx248_2 hx248_3 hx248_4 hx248_5 hx248_6 hx248_7 hx248_8 hx249_0 hx249_1 hx249_2 hx249_3 hx249_4 hx249_5 hx249_6 hx249_7 hx249_8 hHeld ⊢
           refine pure_ (i := 0) (N := some 39) (v := ?_) (a' := ?_) #[true, false, false, false, false, false, false, false, false, false, false, false, false, false] rfl rfl (any_of HT_.out (by kernel_rfl)) (fun _ _ _ h => h) (Or.inl ⟨by rfl, ?_⟩) ?_ ?_
           rotate_left
           ·
            intro w'
            go_simp
            with_reducible rfl
           rotate_left
           ·
            simp only [Act.put, List.setIfInBounds_toArray, List.set_cons_zero, List.set_cons_succ, i64_w, i32_w]
            rfl
           refine pure_ (i := 2) (N := some 41) (v := ?_) (a' := ?_) #[true, false, true, false, false, false, false, false, false, false, false, false, false, false] rfl rfl (any_of HT_.out (by kernel_rfl)) (fun _ _ _ h => h) (Or.inl ⟨by rfl, ?_⟩) ?_ ?_
           rotate_left
           ·
            intro w'
            go_simp
            with_reducible rfl
           rotate_left
           ·
            simp only [Act.put, List.setIfInBounds_toArray, List.set_cons_zero, List.set_cons_succ, i64_w, i32_w]
            rfl
           refine pure_ (i := 5) (N := some 44) (v := ?_) (a' := ?_) #[true, false, true, false, false, true, false, false, false, false, false, false, false, false] rfl rfl (any_of HT_.out (by kernel_rfl)) (fun _ _ _ h => h) (Or.inl ⟨by rfl, ?_⟩) ?_ ?_
           rotate_left
           ·
            intro w'
            go_simp
            with_reducible rfl
           rotate_left
           ·
            simp only [Act.put, List.setIfInBounds_toArray, List.set_cons_zero, List.set_cons_succ, i64_w, i32_w]
            rfl
           refine pure_ (i := 7) (N := some 46) (v := ?_) (a' := ?_) #[true, false, true, false, false, true, false, true, false, false, false, false, false, false] rfl rfl (any_of HT_.out (by kernel_rfl)) (fun _ _ _ h => h) (Or.inl ⟨by rfl, ?_⟩) ?_ ?_
           rotate_left
           ·
            intro w'
            go_simp
            with_reducible rfl
           rotate_left
           ·
            simp only [Act.put, List.setIfInBounds_toArray, List.set_cons_zero, List.set_cons_succ, i64_w, i32_w]
            rfl
           refine take_ (i := 1) (N := some 40) (v := ?_) (a' := ?_) #[true, true, true, false, false, true, false, true, false, false, false, false, false, false] rfl rfl (take_ofW HT_.out HW_.out (by kernel_rfl)) (fun _ _ _ h => h) (Or.inl ⟨by rfl, ?_⟩) hHeld ?_ ?_
           rotate_left
           ·
            rintro w' ⟨s0, s1, s2, s3, s4, s5, s6, s7, s8, s9, s10, s11, s12, s13, s14, s15, s16, s17, s18, s19, s20, s21, s22, s23⟩
            go_simp
            with_reducible rfl
           rotate_left
           ·
            simp only [Act.put, List.setIfInBounds_toArray, List.set_cons_zero, List.set_cons_succ, i64_w, i32_w]
            rfl
           refine pure_ (i := 3) (N := some 42) (v := ?_) (a' := ?_) #[true, true, true, true, false, true, false, true, false, false, false, false, false, false] rfl rfl (any_of HT_.out (by kernel_rfl)) (fun _ _ _ h => h) (Or.inl ⟨by rfl, ?_⟩) ?_ ?_
           rotate_left
           ·
            intro w'
            go_simp
            with_reducible rfl
           rotate_left
           ·
            simp only [Act.put, List.setIfInBounds_toArray, List.set_cons_zero, List.set_cons_succ, i64_w, i32_w]
            rfl
           refine take_ (i := 4) (N := some 43) (v := ?_) (a' := ?_) #[true, true, true, true, true, true, false, true, false, false, false, false, false, false] rfl rfl (take_ofW HT_.out HW_.out (by kernel_rfl)) (fun _ _ _ h => h) (Or.inl ⟨by rfl, ?_⟩) hHeld ?_ ?_
           rotate_left
           ·
            rintro w' ⟨s0, s1, s2, s3, s4, s5, s6, s7, s8, s9, s10, s11, s12, s13, s14, s15, s16, s17, s18, s19, s20, s21, s22, s23⟩
            go_simp
            with_reducible rfl
           rotate_left
           ·
            simp only [Act.put, List.setIfInBounds_toArray, List.set_cons_zero, List.set_cons_succ, i64_w, i32_w]
            rfl
           refine take_ (i := 6) (N := some 45) (v := ?_) (a' := ?_) #[true, true, true, true, true, true, true, true, false, false, false, false, false, false] rfl rfl (take_ofW HT_.out HW_.out (by kernel_rfl)) (fun _ _ _ h => h) (Or.inl ⟨by rfl, ?_⟩) hHeld ?_ ?_
           rotate_left
           ·
            rintro w' ⟨s0, s1, s2, s3, s4, s5, s6, s7, s8, s9, s10, s11, s12, s13, s14, s15, s16, s17, s18, s19, s20, s21, s22, s23⟩
            go_simp
            with_reducible rfl
           rotate_left
           ·
            simp only [Act.put, List.setIfInBounds_toArray, List.set_cons_zero, List.set_cons_succ, i64_w, i32_w]
            rfl
           refine pure_ (i := 8) (N := some 47) (v := ?_) (a' := ?_) #[true, true, true, true, true, true, true, true, true, false, false, false, false, false] rfl rfl (any_of HT_.out (by kernel_rfl)) (fun _ _ _ h => h) (Or.inl ⟨by rfl, ?_⟩) ?_ ?_
           rotate_left
           ·
            intro w'
            go_simp
            with_reducible rfl
           rotate_left
           ·
            simp only [Act.put, List.setIfInBounds_toArray, List.set_cons_zero, List.set_cons_succ, i64_w, i32_w]
            rfl
           refine take_ (i := 9) (N := some 48) (v := ?_) (a' := ?_) #[true, true, true, true, true, true, true, true, true, true, false, false, false, false] rfl rfl (take_ofW HT_.out HW_.out (by kernel_rfl)) (fun _ _ _ h => h) (Or.inl ⟨by rfl, ?_⟩) hHeld ?_ ?_
           rotate_left
           ·
            rintro w' ⟨s0, s1, s2, s3, s4, s5, s6, s7, s8, s9, s10, s11, s12, s13, s14, s15, s16, s17, s18, s19, s20, s21, s22, s23⟩
            go_simp
            with_reducible rfl
           rotate_left
           ·
            simp only [Act.put, List.setIfInBounds_toArray, List.set_cons_zero, List.set_cons_succ, i64_w, i32_w]
            rfl
           refine join_ (σ := Nat × Nat) 2 #[true, true, true, true, true, true, true, true, true, true, true, true, false, false] (fun s_ => [(6, .pointer (some ⟨s_.1, 0, none⟩)), (7, .pointer (some ⟨s_.2, 0, none⟩))]) (fun s_ w' => (w'.cell? ⟨gb245, 0, none⟩ = some (.slice (some ad248) l0_0.length c0_0) ∧ w'.cell? ⟨gb245, 1, none⟩ = some (.slice A0_1 l0_1.length c0_1) ∧ w'.cell? ⟨gb245, 2, none⟩ = some (.int .i64 a0_2) ∧ w'.cell? ⟨gb246, 0, none⟩ = some (.slice (some ad249) l1_0.length c1_0) ∧ w'.cell? ⟨gb246, 1, none⟩ = some (.slice A1_1 l1_1.length c1_1) ∧ w'.cell? ⟨gb246, 2, none⟩ = some (.int .i64 a1_2) ∧ w'.cell? (ad248.add ((x5_2).toNat * 9)) = some (.int .i64 ((rd_T44 l0_0 x5_2).f0)) ∧ w'.cell? ⟨(ad248.add ((x5_2).toNat * 9)).block, (ad248.add ((x5_2).toNat * 9)).off + 1, none⟩ = some (.slice A248_1 ((rd_T44 l0_0 x5_2).f1).length c248_1) ∧ w'.cell? ⟨(ad248.add ((x5_2).toNat * 9)).block, (ad248.add ((x5_2).toNat * 9)).off + 2, none⟩ = some (.slice A248_2 ((rd_T44 l0_0 x5_2).f2).length c248_2) ∧ w'.cell? ⟨(ad248.add ((x5_2).toNat * 9)).block, (ad248.add ((x5_2).toNat * 9)).off + 3, none⟩ = some (.slice A248_3 ((rd_T44 l0_0 x5_2).f3).length c248_3) ∧ w'.cell? ⟨(ad248.add ((x5_2).toNat * 9)).block, (ad248.add ((x5_2).toNat * 9)).off + 4, none⟩ = some (.slice A248_4 ((rd_T44 l0_0 x5_2).f4).length c248_4) ∧ w'.cell? ⟨(ad248.add ((x5_2).toNat * 9)).block, (ad248.add ((x5_2).toNat * 9)).off + 5, none⟩ = some (.int .i64 ((rd_T44 l0_0 x5_2).f5)) ∧ w'.cell? ⟨(ad248.add ((x5_2).toNat * 9)).block, (ad248.add ((x5_2).toNat * 9)).off + 6, none⟩ = some (.int .i64 ((rd_T44 l0_0 x5_2).f6)) ∧ w'.cell? ⟨(ad248.add ((x5_2).toNat * 9)).block, (ad248.add ((x5_2).toNat * 9)).off + 7, none⟩ = some (.int .i64 ((rd_T44 l0_0 x5_2).f7)) ∧ w'.cell? ⟨(ad248.add ((x5_2).toNat * 9)).block, (ad248.add ((x5_2).toNat * 9)).off + 8, none⟩ = some (.int .i64 ((rd_T44 l0_0 x5_2).f8)) ∧ w'.cell? (ad249.add ((x5_2).toNat * 9)) = some (.int .i64 ((rd_T44 l1_0 x5_2).f0)) ∧ w'.cell? ⟨(ad249.add ((x5_2).toNat * 9)).block, (ad249.add ((x5_2).toNat * 9)).off + 1, none⟩ = some (.slice A249_1 ((rd_T44 l1_0 x5_2).f1).length c249_1) ∧ w'.cell? ⟨(ad249.add ((x5_2).toNat * 9)).block, (ad249.add ((x5_2).toNat * 9)).off + 2, none⟩ = some (.slice A249_2 ((rd_T44 l1_0 x5_2).f2).length c249_2) ∧ w'.cell? ⟨(ad249.add ((x5_2).toNat * 9)).block, (ad249.add ((x5_2).toNat * 9)).off + 3, none⟩ = some (.slice A249_3 ((rd_T44 l1_0 x5_2).f3).length c249_3) ∧ w'.cell? ⟨(ad249.add ((x5_2).toNat * 9)).block, (ad249.add ((x5_2).toNat * 9)).off + 4, none⟩ = some (.slice A249_4 ((rd_T44 l1_0 x5_2).f4).length c249_4) ∧ w'.cell? ⟨(ad249.add ((x5_2).toNat * 9)).block, (ad249.add ((x5_2).toNat * 9)).off + 5, none⟩ = some (.int .i64 ((rd_T44 l1_0 x5_2).f5)) ∧ w'.cell? ⟨(ad249.add ((x5_2).toNat * 9)).block, (ad249.add ((x5_2).toNat * 9)).off + 6, none⟩ = some (.int .i64 ((rd_T44 l1_0 x5_2).f6)) ∧ w'.cell? ⟨(ad249.add ((x5_2).toNat * 9)).block, (ad249.add ((x5_2).toNat * 9)).off + 7, none⟩ = some (.int .i64 ((rd_T44 l1_0 x5_2).f7)) ∧ w'.cell? ⟨(ad249.add ((x5_2).toNat * 9)).block, (ad249.add ((x5_2).toNat * 9)).off + 8, none⟩ = some (.int .i64 ((rd_T44 l1_0 x5_2).f8))) ∧ (w'.heap[gb245]? = some (.cells #[.slice (some ad248) l0_0.length c0_0, .slice A0_1 l0_1.length c0_1, .int .i64 a0_2] 25 (0, 0))) ∧ (w'.heap[gb246]? = some (.cells #[.slice (some ad249) l1_0.length c1_0, .slice A1_1 l1_1.length c1_1, .int .i64 a1_2] 25 (0, 0))) ∧ (w'.heap[s_.1]? = some (.cells #[.int .i64 0, .slice none 0 0, .slice none 0 0, .slice none 0 0, .slice none 0 0, .int .i64 0, .int .i64 0, .int .i64 0, .int .i64 0] 44 (0, 0))) ∧ (w'.heap[s_.2]? = some (.cells #[.int .i64 0, .slice none 0 0, .slice none 0 0, .slice none 0 0, .slice none 0 0, .int .i64 0, .int .i64 0, .int .i64 0, .int .i64 0] 44 (0, 0))) ∧ (w.heap.size ≤ s_.1) ∧ (w.heap.size ≤ s_.1) ∧ (gb245 ≠ s_.1) ∧ (s_.1 ≠ gb245) ∧ (gb246 ≠ s_.1) ∧ (s_.1 ≠ gb246) ∧ (s_.2 ≠ s_.1) ∧ (s_.1 ≠ s_.2) ∧ (w.heap.size ≤ s_.2) ∧ (w.heap.size ≤ s_.2) ∧ (gb245 ≠ s_.2) ∧ (s_.2 ≠ gb245) ∧ (gb246 ≠ s_.2) ∧ (s_.2 ≠ gb246) ∧ (Below w.heap.size w w')) ?_ ?_
           rotate_left
           ·
            intro hCont
            refine two_ (i := 10) (j := 11) (Ni := some 6) (Nj := some 7) #[true, true, true, true, true, true, true, true, true, true, true, false, false, false] #[true, true, true, true, true, true, true, true, true, true, false, true, false, false] rfl rfl rfl rfl (two_of HT_.out (by kernel_rfl)) (by decide) (by decide) (fun K hK => ?_) (fun K hK => ?_)
            ·
             skip
             refine box_step ?hg (N := 6) ?hd (cs := #[.int .i64 0, .slice none 0 0, .slice none 0 0, .slice none 0 0, .slice none 0 0, .int .i64 0, .int .i64 0, .int .i64 0, .int .i64 0]) (t := 44) ?hr ?_; (case hd => rfl); (case hg => rfl); (case hr => first | (go_simp; done) | (go_simp; rfl))
             intro gb250 hg w26 hbox hb
             have n0_ := Aside0.mk (blk_below (g := gb245) (o := .cells #[.slice (some ad248) l0_0.length c0_0, .slice A0_1 l0_1.length c0_1, .int .i64 a0_2] 25 (0, 0)) bk hb)
             have n1_ := Aside0.mk (blk_below (g := gb246) (o := .cells #[.slice (some ad249) l1_0.length c1_0, .slice A1_1 l1_1.length c1_1, .int .i64 a1_2] 25 (0, 0)) bk hb)
             have n2_ := Aside0.mk (below_step bl hb)
             have n3_ := Aside0.mk (hbox)
             have n4_ := Aside0.mk ((by rw [hg]; exact (below_size bl) : w.heap.size ≤ gb250))
             have n5_ := Aside0.mk ((by rw [hg]; exact (below_size bl) : w.heap.size ≤ gb250))
             have n6_ := Aside0.mk ((by rw [hg]; exact Nat.ne_of_lt blt : gb245 ≠ gb250))
             have n7_ := Aside0.mk ((by rw [hg]; exact Nat.ne_of_gt blt : gb250 ≠ gb245))
             have n8_ := Aside0.mk ((by rw [hg]; exact Nat.ne_of_lt blt : gb246 ≠ gb250))
             have n9_ := Aside0.mk ((by rw [hg]; exact Nat.ne_of_gt blt : gb250 ≠ gb246))
             clear BK245
             clear BK246
             clear HB
             have BK245 := n0_
             have BK246 := n1_
             have HB := n2_
             have BK250 := n3_
             have GW250 := n4_
             have GE250 := n5_
             have NB245_250 := n6_
             have NB250_245 := n7_
             have NB246_250 := n8_
             have NB250_246 := n9_
             clear n0_ n1_ n2_ n3_ n4_ n5_ n6_ n7_ n8_ n9_
             clear hb hbox hg
             refine hK.out _ _ ⟨(blk_cell BK245.out 0).trans rfl, (blk_cell BK245.out 1).trans rfl, (blk_cell BK245.out 2).trans rfl, (blk_cell BK246.out 0).trans rfl, (blk_cell BK246.out 1).trans rfl, (blk_cell BK246.out 2).trans rfl, (bc HB.out hw248_0), (bc HB.out hw248_1), (bc HB.out hw248_2), (bc HB.out hw248_3), (bc HB.out hw248_4), (bc HB.out hw248_5), (bc HB.out hw248_6), (bc HB.out hw248_7), (bc HB.out hw248_8), (bc HB.out hw249_0), (bc HB.out hw249_1), (bc HB.out hw249_2), (bc HB.out hw249_3), (bc HB.out hw249_4), (bc HB.out hw249_5), (bc HB.out hw249_6), (bc HB.out hw249_7), (bc HB.out hw249_8)⟩ (fun hHeld => ?_)
             clear hK K
             refine norm_ (a' := ?_) ?_ ?_
             rotate_left
             ·
              show Act.put _ (some 6) _ = _
              simp only [Act.put, List.setIfInBounds_toArray, List.set_cons_zero, List.set_cons_succ, i64_w, i32_w]
              rfl
             refine one_ (i := 11) (N := some 7) #[true, true, true, true, true, true, true, true, true, true, true, true, false, false] rfl rfl (one_of HT_.out (by kernel_rfl)) (by decide) (fun K hK => ?_)
             refine box_step ?hg (N := 7) ?hd (cs := #[.int .i64 0, .slice none 0 0, .slice none 0 0, .slice none 0 0, .slice none 0 0, .int .i64 0, .int .i64 0, .int .i64 0, .int .i64 0]) (t := 44) ?hr ?_; (case hd => rfl); (case hg => rfl); (case hr => first | (go_simp; done) | (go_simp; rfl))
             intro gb251 hg w27 hbox hb
             have n0_ := Aside0.mk (blk_below (g := gb245) (o := .cells #[.slice (some ad248) l0_0.length c0_0, .slice A0_1 l0_1.length c0_1, .int .i64 a0_2] 25 (0, 0)) bk hb)
             have n1_ := Aside0.mk (blk_below (g := gb246) (o := .cells #[.slice (some ad249) l1_0.length c1_0, .slice A1_1 l1_1.length c1_1, .int .i64 a1_2] 25 (0, 0)) bk hb)
             have n2_ := Aside0.mk (blk_below (g := gb250) (o := .cells #[.int .i64 0, .slice none 0 0, .slice none 0 0, .slice none 0 0, .slice none 0 0, .int .i64 0, .int .i64 0, .int .i64 0, .int .i64 0] 44 (0, 0)) bk hb)
             have n3_ := Aside0.mk (below_step bl hb)
             have n4_ := Aside0.mk (hbox)
             have n5_ := Aside0.mk ((by rw [hg]; exact (below_size bl) : w.heap.size ≤ gb251))
             have n6_ := Aside0.mk ((by rw [hg]; exact (below_size bl) : w.heap.size ≤ gb251))
             have n7_ := Aside0.mk ((by rw [hg]; exact Nat.ne_of_lt blt : gb245 ≠ gb251))
             have n8_ := Aside0.mk ((by rw [hg]; exact Nat.ne_of_gt blt : gb251 ≠ gb245))
             have n9_ := Aside0.mk ((by rw [hg]; exact Nat.ne_of_lt blt : gb246 ≠ gb251))
             have n10_ := Aside0.mk ((by rw [hg]; exact Nat.ne_of_gt blt : gb251 ≠ gb246))
             have n11_ := Aside0.mk ((by rw [hg]; exact Nat.ne_of_lt blt : gb250 ≠ gb251))
             have n12_ := Aside0.mk ((by rw [hg]; exact Nat.ne_of_gt blt : gb251 ≠ gb250))
             clear BK245
             clear BK246
             clear BK250
             clear HB
             have BK245 := n0_
             have BK246 := n1_
             have BK250 := n2_
             have HB := n3_
             have BK251 := n4_
             have GW251 := n5_
             have GE251 := n6_
             have NB245_251 := n7_
             have NB251_245 := n8_
             have NB246_251 := n9_
             have NB251_246 := n10_
             have NB250_251 := n11_
             have NB251_250 := n12_
             clear n0_ n1_ n2_ n3_ n4_ n5_ n6_ n7_ n8_ n9_ n10_ n11_ n12_
             clear hb hbox hg
             refine hK.out _ _ ⟨(blk_cell BK245.out 0).trans rfl, (blk_cell BK245.out 1).trans rfl, (blk_cell BK245.out 2).trans rfl, (blk_cell BK246.out 0).trans rfl, (blk_cell BK246.out 1).trans rfl, (blk_cell BK246.out 2).trans rfl, (bc HB.out hw248_0), (bc HB.out hw248_1), (bc HB.out hw248_2), (bc HB.out hw248_3), (bc HB.out hw248_4), (bc HB.out hw248_5), (bc HB.out hw248_6), (bc HB.out hw248_7), (bc HB.out hw248_8), (bc HB.out hw249_0), (bc HB.out hw249_1), (bc HB.out hw249_2), (bc HB.out hw249_3), (bc HB.out hw249_4), (bc HB.out hw249_5), (bc HB.out hw249_6), (bc HB.out hw249_7), (bc HB.out hw249_8)⟩ (fun hHeld => ?_)
             clear hK K
             refine norm_ (a' := ?_) ?_ ?_
             rotate_left
             ·
              show Act.put _ (some 7) _ = _
              simp only [Act.put, List.setIfInBounds_toArray, List.set_cons_zero, List.set_cons_succ, i64_w, i32_w]
              rfl
             exact norm_ (by simp only [putAll, Act.put, List.setIfInBounds_toArray, List.set_cons_zero, List.set_cons_succ]) (hCont (gb250, gb251) _ ⟨hHeld, bk, bk, bk, bk, GW250.out, GE250.out, NB245_250.out, NB250_245.out, NB246_250.out, NB250_246.out, NB251_250.out, NB250_251.out, GW251.out, GE251.out, NB245_251.out, NB251_245.out, NB246_251.out, NB251_246.out, bl⟩)
            ·
             skip
             refine box_step ?hg (N := 7) ?hd (cs := #[.int .i64 0, .slice none 0 0, .slice none 0 0, .slice none 0 0, .slice none 0 0, .int .i64 0, .int .i64 0, .int .i64 0, .int .i64 0]) (t := 44) ?hr ?_; (case hd => rfl); (case hg => rfl); (case hr => first | (go_simp; done) | (go_simp; rfl))
             intro gb251 hg w26 hbox hb
             have n0_ := Aside0.mk (blk_below (g := gb245) (o := .cells #[.slice (some ad248) l0_0.length c0_0, .slice A0_1 l0_1.length c0_1, .int .i64 a0_2] 25 (0, 0)) bk hb)
             have n1_ := Aside0.mk (blk_below (g := gb246) (o := .cells #[.slice (some ad249) l1_0.length c1_0, .slice A1_1 l1_1.length c1_1, .int .i64 a1_2] 25 (0, 0)) bk hb)
             have n2_ := Aside0.mk (below_step bl hb)
             have n3_ := Aside0.mk (hbox)
             have n4_ := Aside0.mk ((by rw [hg]; exact (below_size bl) : w.heap.size ≤ gb251))
             have n5_ := Aside0.mk ((by rw [hg]; exact (below_size bl) : w.heap.size ≤ gb251))
             have n6_ := Aside0.mk ((by rw [hg]; exact Nat.ne_of_lt blt : gb245 ≠ gb251))
             have n7_ := Aside0.mk ((by rw [hg]; exact Nat.ne_of_gt blt : gb251 ≠ gb245))
             have n8_ := Aside0.mk ((by rw [hg]; exact Nat.ne_of_lt blt : gb246 ≠ gb251))
             have n9_ := Aside0.mk ((by rw [hg]; exact Nat.ne_of_gt blt : gb251 ≠ gb246))
             clear BK245
             clear BK246
             clear HB
             have BK245 := n0_
             have BK246 := n1_
             have HB := n2_
             have BK251 := n3_
             have GW251 := n4_
             have GE251 := n5_
             have NB245_251 := n6_
             have NB251_245 := n7_
             have NB246_251 := n8_
             have NB251_246 := n9_
             clear n0_ n1_ n2_ n3_ n4_ n5_ n6_ n7_ n8_ n9_
             clear hb hbox hg
             refine hK.out _ _ ⟨(blk_cell BK245.out 0).trans rfl, (blk_cell BK245.out 1).trans rfl, (blk_cell BK245.out 2).trans rfl, (blk_cell BK246.out 0).trans rfl, (blk_cell BK246.out 1).trans rfl, (blk_cell BK246.out 2).trans rfl, (bc HB.out hw248_0), (bc HB.out hw248_1), (bc HB.out hw248_2), (bc HB.out hw248_3), (bc HB.out hw248_4), (bc HB.out hw248_5), (bc HB.out hw248_6), (bc HB.out hw248_7), (bc HB.out hw248_8), (bc HB.out hw249_0), (bc HB.out hw249_1), (bc HB.out hw249_2), (bc HB.out hw249_3), (bc HB.out hw249_4), (bc HB.out hw249_5), (bc HB.out hw249_6), (bc HB.out hw249_7), (bc HB.out hw249_8)⟩ (fun hHeld => ?_)
             clear hK K
             refine norm_ (a' := ?_) ?_ ?_
             rotate_left
             ·
              show Act.put _ (some 7) _ = _
              simp only [Act.put, List.setIfInBounds_toArray, List.set_cons_zero, List.set_cons_succ, i64_w, i32_w]
              rfl
             refine one_ (i := 10) (N := some 6) #[true, true, true, true, true, true, true, true, true, true, true, true, false, false] rfl rfl (one_of HT_.out (by kernel_rfl)) (by decide) (fun K hK => ?_)
             refine box_step ?hg (N := 6) ?hd (cs := #[.int .i64 0, .slice none 0 0, .slice none 0 0, .slice none 0 0, .slice none 0 0, .int .i64 0, .int .i64 0, .int .i64 0, .int .i64 0]) (t := 44) ?hr ?_; (case hd => rfl); (case hg => rfl); (case hr => first | (go_simp; done) | (go_simp; rfl))
             intro gb250 hg w27 hbox hb
             have n0_ := Aside0.mk (blk_below (g := gb245) (o := .cells #[.slice (some ad248) l0_0.length c0_0, .slice A0_1 l0_1.length c0_1, .int .i64 a0_2] 25 (0, 0)) bk hb)
             have n1_ := Aside0.mk (blk_below (g := gb246) (o := .cells #[.slice (some ad249) l1_0.length c1_0, .slice A1_1 l1_1.length c1_1, .int .i64 a1_2] 25 (0, 0)) bk hb)
             have n2_ := Aside0.mk (blk_below (g := gb251) (o := .cells #[.int .i64 0, .slice none 0 0, .slice none 0 0, .slice none 0 0, .slice none 0 0, .int .i64 0, .int .i64 0, .int .i64 0, .int .i64 0] 44 (0, 0)) bk hb)
             have n3_ := Aside0.mk (below_step bl hb)
             have n4_ := Aside0.mk (hbox)
             have n5_ := Aside0.mk ((by rw [hg]; exact (below_size bl) : w.heap.size ≤ gb250))
             have n6_ := Aside0.mk ((by rw [hg]; exact (below_size bl) : w.heap.size ≤ gb250))
             have n7_ := Aside0.mk ((by rw [hg]; exact Nat.ne_of_lt blt : gb245 ≠ gb250))
             have n8_ := Aside0.mk ((by rw [hg]; exact Nat.ne_of_gt blt : gb250 ≠ gb245))
             have n9_ := Aside0.mk ((by rw [hg]; exact Nat.ne_of_lt blt : gb246 ≠ gb250))
             have n10_ := Aside0.mk ((by rw [hg]; exact Nat.ne_of_gt blt : gb250 ≠ gb246))
             have n11_ := Aside0.mk ((by rw [hg]; exact Nat.ne_of_lt blt : gb251 ≠ gb250))
             have n12_ := Aside0.mk ((by rw [hg]; exact Nat.ne_of_gt blt : gb250 ≠ gb251))
             clear BK245
             clear BK246
             clear BK251
             clear HB
             have BK245 := n0_
             have BK246 := n1_
             have BK251 := n2_
             have HB := n3_
             have BK250 := n4_
             have GW250 := n5_
             have GE250 := n6_
             have NB245_250 := n7_
             have NB250_245 := n8_
             have NB246_250 := n9_
             have NB250_246 := n10_
             have NB251_250 := n11_
             have NB250_251 := n12_
             clear n0_ n1_ n2_ n3_ n4_ n5_ n6_ n7_ n8_ n9_ n10_ n11_ n12_
             clear hb hbox hg
             refine hK.out _ _ ⟨(blk_cell BK245.out 0).trans rfl, (blk_cell BK245.out 1).trans rfl, (blk_cell BK245.out 2).trans rfl, (blk_cell BK246.out 0).trans rfl, (blk_cell BK246.out 1).trans rfl, (blk_cell BK246.out 2).trans rfl, (bc HB.out hw248_0), (bc HB.out hw248_1), (bc HB.out hw248_2), (bc HB.out hw248_3), (bc HB.out hw248_4), (bc HB.out hw248_5), (bc HB.out hw248_6), (bc HB.out hw248_7), (bc HB.out hw248_8), (bc HB.out hw249_0), (bc HB.out hw249_1), (bc HB.out hw249_2), (bc HB.out hw249_3), (bc HB.out hw249_4), (bc HB.out hw249_5), (bc HB.out hw249_6), (bc HB.out hw249_7), (bc HB.out hw249_8)⟩ (fun hHeld => ?_)
             clear hK K
             refine norm_ (a' := ?_) ?_ ?_
             rotate_left
             ·
              show Act.put _ (some 6) _ = _
              simp only [Act.put, List.setIfInBounds_toArray, List.set_cons_zero, List.set_cons_succ, i64_w, i32_w]
              rfl
             exact norm_ (by simp only [putAll, Act.put, List.setIfInBounds_toArray, List.set_cons_zero, List.set_cons_succ]) (hCont (gb250, gb251) _ ⟨hHeld, bk, bk, bk, bk, GW250.out, GE250.out, NB245_250.out, NB250_245.out, NB246_250.out, NB250_246.out, NB251_250.out, NB250_251.out, GW251.out, GE251.out, NB245_251.out, NB251_245.out, NB246_251.out, NB251_246.out, bl⟩)
           rintro ⟨gb250, gb251⟩ w28 ⟨hS_, h0_, h1_, h2_, h3_, h4_, h5_, h6_, h7_, h8_, h9_, h10_, h11_, h12_, h13_, h14_, h15_, h16_, h17_, h18_⟩
           have n0_ : Aside0 (w28.heap[gb245]? = some (.cells #[.slice (some ad248) l0_0.length c0_0, .slice A0_1 l0_1.length c0_1, .int .i64 a0_2] 25 (0, 0))) := ⟨h0_⟩
           have n1_ : Aside0 (w28.heap[gb246]? = some (.cells #[.slice (some ad249) l1_0.length c1_0, .slice A1_1 l1_1.length c1_1, .int .i64 a1_2] 25 (0, 0))) := ⟨h1_⟩
           have n2_ : Aside0 (w28.heap[gb250]? = some (.cells #[.int .i64 0, .slice none 0 0, .slice none 0 0, .slice none 0 0, .slice none 0 0, .int .i64 0, .int .i64 0, .int .i64 0, .int .i64 0] 44 (0, 0))) := ⟨h2_⟩
           have n3_ : Aside0 (w28.heap[gb251]? = some (.cells #[.int .i64 0, .slice none 0 0, .slice none 0 0, .slice none 0 0, .slice none 0 0, .int .i64 0, .int .i64 0, .int .i64 0, .int .i64 0] 44 (0, 0))) := ⟨h3_⟩
           have n4_ : Aside0 (w.heap.size ≤ gb250) := ⟨h4_⟩
           have n5_ : Aside0 (w.heap.size ≤ gb250) := ⟨h5_⟩
           have n6_ : Aside0 (gb245 ≠ gb250) := ⟨h6_⟩
           have n7_ : Aside0 (gb250 ≠ gb245) := ⟨h7_⟩
           have n8_ : Aside0 (gb246 ≠ gb250) := ⟨h8_⟩
           have n9_ : Aside0 (gb250 ≠ gb246) := ⟨h9_⟩
           have n10_ : Aside0 (gb251 ≠ gb250) := ⟨h10_⟩
           have n11_ : Aside0 (gb250 ≠ gb251) := ⟨h11_⟩
           have n12_ : Aside0 (w.heap.size ≤ gb251) := ⟨h12_⟩
           have n13_ : Aside0 (w.heap.size ≤ gb251) := ⟨h13_⟩
           have n14_ : Aside0 (gb245 ≠ gb251) := ⟨h14_⟩
           have n15_ : Aside0 (gb251 ≠ gb245) := ⟨h15_⟩
           have n16_ : Aside0 (gb246 ≠ gb251) := ⟨h16_⟩
           have n17_ : Aside0 (gb251 ≠ gb246) := ⟨h17_⟩
           have n18_ : Aside0 (Below w.heap.size w w28) := ⟨h18_⟩
           clear BK245
           clear BK246
           clear HB
           clear h0_ h1_ h2_ h3_ h4_ h5_ h6_ h7_ h8_ h9_ h10_ h11_ h12_ h13_ h14_ h15_ h16_ h17_ h18_
           have BK245 := n0_
           have BK246 := n1_
           have BK250 := n2_
           have BK251 := n3_
           have GW250 := n4_
           have GE250 := n5_
           have NB245_250 := n6_
           have NB250_245 := n7_
           have NB246_250 := n8_
           have NB250_246 := n9_
           have NB251_250 := n10_
           have NB250_251 := n11_
           have GW251 := n12_
           have GE251 := n13_
           have NB245_251 := n14_
           have NB251_245 := n15_
           have NB246_251 := n16_
           have NB251_246 := n17_
           have HB := n18_
           clear n0_ n1_ n2_ n3_ n4_ n5_ n6_ n7_ n8_ n9_ n10_ n11_ n12_ n13_ n14_ n15_ n16_ n17_ n18_
           have hHeld : w28.cell? ⟨gb245, 0, none⟩ = some (.slice (some ad248) l0_0.length c0_0) ∧ w28.cell? ⟨gb245, 1, none⟩ = some (.slice A0_1 l0_1.length c0_1) ∧ w28.cell? ⟨gb245, 2, none⟩ = some (.int .i64 a0_2) ∧ w28.cell? ⟨gb246, 0, none⟩ = some (.slice (some ad249) l1_0.length c1_0) ∧ w28.cell? ⟨gb246, 1, none⟩ = some (.slice A1_1 l1_1.length c1_1) ∧ w28.cell? ⟨gb246, 2, none⟩ = some (.int .i64 a1_2) ∧ w28.cell? (ad248.add ((x5_2).toNat * 9)) = some (.int .i64 ((rd_T44 l0_0 x5_2).f0)) ∧ w28.cell? ⟨(ad248.add ((x5_2).toNat * 9)).block, (ad248.add ((x5_2).toNat * 9)).off + 1, none⟩ = some (.slice A248_1 ((rd_T44 l0_0 x5_2).f1).length c248_1) ∧ w28.cell? ⟨(ad248.add ((x5_2).toNat * 9)).block, (ad248.add ((x5_2).toNat * 9)).off + 2, none⟩ = some (.slice A248_2 ((rd_T44 l0_0 x5_2).f2).length c248_2) ∧ w28.cell? ⟨(ad248.add ((x5_2).toNat * 9)).block, (ad248.add ((x5_2).toNat * 9)).off + 3, none⟩ = some (.slice A248_3 ((rd_T44 l0_0 x5_2).f3).length c248_3) ∧ w28.cell? ⟨(ad248.add ((x5_2).toNat * 9)).block, (ad248.add ((x5_2).toNat * 9)).off + 4, none⟩ = some (.slice A248_4 ((rd_T44 l0_0 x5_2).f4).length c248_4) ∧ w28.cell? ⟨(ad248.add ((x5_2).toNat * 9)).block, (ad248.add ((x5_2).toNat * 9)).off + 5, none⟩ = some (.int .i64 ((rd_T44 l0_0 x5_2).f5)) ∧ w28.cell? ⟨(ad248.add ((x5_2).toNat * 9)).block, (ad248.add ((x5_2).toNat * 9)).off + 6, none⟩ = some (.int .i64 ((rd_T44 l0_0 x5_2).f6)) ∧ w28.cell? ⟨(ad248.add ((x5_2).toNat * 9)).block, (ad248.add ((x5_2).toNat * 9)).off + 7, none⟩ = some (.int .i64 ((rd_T44 l0_0 x5_2).f7)) ∧ w28.cell? ⟨(ad248.add ((x5_2).toNat * 9)).block, (ad248.add ((x5_2).toNat * 9)).off + 8, none⟩ = some (.int .i64 ((rd_T44 l0_0 x5_2).f8)) ∧ w28.cell? (ad249.add ((x5_2).toNat * 9)) = some (.int .i64 ((rd_T44 l1_0 x5_2).f0)) ∧ w28.cell? ⟨(ad249.add ((x5_2).toNat * 9)).block, (ad249.add ((x5_2).toNat * 9)).off + 1, none⟩ = some (.slice A249_1 ((rd_T44 l1_0 x5_2).f1).length c249_1) ∧ w28.cell? ⟨(ad249.add ((x5_2).toNat * 9)).block, (ad249.add ((x5_2).toNat * 9)).off + 2, none⟩ = some (.slice A249_2 ((rd_T44 l1_0 x5_2).f2).length c249_2) ∧ w28.cell? ⟨(ad249.add ((x5_2).toNat * 9)).block, (ad249.add ((x5_2).toNat * 9)).off + 3, none⟩ = some (.slice A249_3 ((rd_T44 l1_0 x5_2).f3).length c249_3) ∧ w28.cell? ⟨(ad249.add ((x5_2).toNat * 9)).block, (ad249.add ((x5_2).toNat * 9)).off + 4, none⟩ = some (.slice A249_4 ((rd_T44 l1_0 x5_2).f4).length c249_4) ∧ w28.cell? ⟨(ad249.add ((x5_2).toNat * 9)).block, (ad249.add ((x5_2).toNat * 9)).off + 5, none⟩ = some (.int .i64 ((rd_T44 l1_0 x5_2).f5)) ∧ w28.cell? ⟨(ad249.add ((x5_2).toNat * 9)).block, (ad249.add ((x5_2).toNat * 9)).off + 6, none⟩ = some (.int .i64 ((rd_T44 l1_0 x5_2).f6)) ∧ w28.cell? ⟨(ad249.add ((x5_2).toNat * 9)).block, (ad249.add ((x5_2).toNat * 9)).off + 7, none⟩ = some (.int .i64 ((rd_T44 l1_0 x5_2).f7)) ∧ w28.cell? ⟨(ad249.add ((x5_2).toNat * 9)).block, (ad249.add ((x5_2).toNat * 9)).off + 8, none⟩ = some (.int .i64 ((rd_T44 l1_0 x5_2).f8)) := hS_
           refine norm_ (a' := ?_) ?_ ?_
           rotate_left
           ·
            simp only [putAll, Act.put, List.setIfInBounds_toArray, List.set_cons_zero, List.set_cons_succ]
            rfl
           refine one_ (i := 12) (N := none) #[true, true, true, true, true, true, true, true, true, true, true, true, true, false] rfl rfl (one_of HT_.out (by kernel_rfl)) (by decide) (fun K hK => ?_)
           have hs29 : w28.cell? ⟨gb250, 0, none⟩ = some (.int .i64 0) := (blk_cell BK250.out 0).trans rfl
           have hfs29 := blk_frozen BK250.out 0
           have hns29_0 := NB245_250.out
           have hns29_1 := NB246_250.out
           have hns29_3 := NB251_250.out
           have hms29_0 := NB250_245.out
           have hms29_1 := NB250_246.out
           have hms29_3 := NB250_251.out
           have hs30 : w28.cell? ⟨gb250, 1, none⟩ = some (.slice none 0 0) := (blk_cell BK250.out 1).trans rfl
           have hfs30 := blk_frozen BK250.out 1
           have hns30_0 := NB245_250.out
           have hns30_1 := NB246_250.out
           have hns30_3 := NB251_250.out
           have hms30_0 := NB250_245.out
           have hms30_1 := NB250_246.out
           have hms30_3 := NB250_251.out
           have hs31 : w28.cell? ⟨gb250, 2, none⟩ = some (.slice none 0 0) := (blk_cell BK250.out 2).trans rfl
           have hfs31 := blk_frozen BK250.out 2
           have hns31_0 := NB245_250.out
           have hns31_1 := NB246_250.out
           have hns31_3 := NB251_250.out
           have hms31_0 := NB250_245.out
           have hms31_1 := NB250_246.out
           have hms31_3 := NB250_251.out
           have hs32 : w28.cell? ⟨gb250, 3, none⟩ = some (.slice none 0 0) := (blk_cell BK250.out 3).trans rfl
           have hfs32 := blk_frozen BK250.out 3
           have hns32_0 := NB245_250.out
           have hns32_1 := NB246_250.out
           have hns32_3 := NB251_250.out
           have hms32_0 := NB250_245.out
           have hms32_1 := NB250_246.out
           have hms32_3 := NB250_251.out
           have hs33 : w28.cell? ⟨gb250, 4, none⟩ = some (.slice none 0 0) := (blk_cell BK250.out 4).trans rfl
           have hfs33 := blk_frozen BK250.out 4
           have hns33_0 := NB245_250.out
           have hns33_1 := NB246_250.out
           have hns33_3 := NB251_250.out
           have hms33_0 := NB250_245.out
           have hms33_1 := NB250_246.out
           have hms33_3 := NB250_251.out
           have hs34 : w28.cell? ⟨gb250, 5, none⟩ = some (.int .i64 0) := (blk_cell BK250.out 5).trans rfl
           have hfs34 := blk_frozen BK250.out 5
           have hns34_0 := NB245_250.out
           have hns34_1 := NB246_250.out
           have hns34_3 := NB251_250.out
           have hms34_0 := NB250_245.out
           have hms34_1 := NB250_246.out
           have hms34_3 := NB250_251.out
           have hs35 : w28.cell? ⟨gb250, 6, none⟩ = some (.int .i64 0) := (blk_cell BK250.out 6).trans rfl
           have hfs35 := blk_frozen BK250.out 6
           have hns35_0 := NB245_250.out
           have hns35_1 := NB246_250.out
           have hns35_3 := NB251_250.out
           have hms35_0 := NB250_245.out
           have hms35_1 := NB250_246.out
           have hms35_3 := NB250_251.out
           have hs36 : w28.cell? ⟨gb250, 7, none⟩ = some (.int .i64 0) := (blk_cell BK250.out 7).trans rfl
           have hfs36 := blk_frozen BK250.out 7
           have hns36_0 := NB245_250.out
           have hns36_1 := NB246_250.out
           have hns36_3 := NB251_250.out
           have hms36_0 := NB250_245.out
           have hms36_1 := NB250_246.out
           have hms36_3 := NB250_251.out
           have hs37 : w28.cell? ⟨gb250, 8, none⟩ = some (.int .i64 0) := (blk_cell BK250.out 8).trans rfl
           have hfs37 := blk_frozen BK250.out 8
           have hns37_0 := NB245_250.out
           have hns37_1 := NB246_250.out
           have hns37_3 := NB251_250.out
           have hms37_0 := NB250_245.out
           have hms37_1 := NB250_246.out
           have hms37_3 := NB250_251.out
           obtain ⟨w28y, hw_⟩ : ∃ x, x = (((((((((w28.setCell ⟨gb250, 0, none⟩ (.int .i64 ((rd_T44 l0_0 x5_2).f0))).setCell ⟨gb250, 1, none⟩ (.slice A248_1 ((rd_T44 l0_0 x5_2).f1).length c248_1)).setCell ⟨gb250, 2, none⟩ (.slice A248_2 ((rd_T44 l0_0 x5_2).f2).length c248_2)).setCell ⟨gb250, 3, none⟩ (.slice A248_3 ((rd_T44 l0_0 x5_2).f3).length c248_3)).setCell ⟨gb250, 4, none⟩ (.slice A248_4 ((rd_T44 l0_0 x5_2).f4).length c248_4)).setCell ⟨gb250, 5, none⟩ (.int .i64 ((rd_T44 l0_0 x5_2).f5))).setCell ⟨gb250, 6, none⟩ (.int .i64 ((rd_T44 l0_0 x5_2).f6))).setCell ⟨gb250, 7, none⟩ (.int .i64 ((rd_T44 l0_0 x5_2).f7))).setCell ⟨gb250, 8, none⟩ (.int .i64 ((rd_T44 l0_0 x5_2).f8))) := ⟨_, rfl⟩
           have keep_ : ∀ (a : Addr) (v : Value), a.block ≠ gb250 → w28.cell? a = some v → w28y.cell? a = some v := by
            intro a v ha h
            rw [hw_]
            iterate 9 refine cf ha ?_
            exact h
           have kb_ : ∀ (b : Nat) (cs : Array Value) (t : TypeId), b ≠ gb250 → w28.heap[b]? = some (.cells cs t (0, 0)) → w28y.heap[b]? = some (.cells cs t (0, 0)) := by
            intro b cs t ha h
            rw [hw_]
            iterate 9 refine blk_far ?_ ha _
            exact h
           have kg_ : w28y.heap[gb250]? = some (.cells #[.int .i64 ((rd_T44 l0_0 x5_2).f0), .slice A248_1 ((rd_T44 l0_0 x5_2).f1).length c248_1, .slice A248_2 ((rd_T44 l0_0 x5_2).f2).length c248_2, .slice A248_3 ((rd_T44 l0_0 x5_2).f3).length c248_3, .slice A248_4 ((rd_T44 l0_0 x5_2).f4).length c248_4, .int .i64 ((rd_T44 l0_0 x5_2).f5), .int .i64 ((rd_T44 l0_0 x5_2).f6), .int .i64 ((rd_T44 l0_0 x5_2).f7), .int .i64 ((rd_T44 l0_0 x5_2).f8)] 44 (0, 0)) := by
            rw [hw_]
            refine E_in ?_
            iterate 9 refine E_set ?_
            exact ⟨_, BK250.out, by (try dsimp only); simp only [List.setIfInBounds_toArray, List.set_cons_zero, List.set_cons_succ]⟩
           have kl_ : Below w.heap.size w w28y := by
            rw [hw_]
            iterate 9 refine below_set ?_ GE250.out
            exact HB.out
           refine skip_ (w1 := w28y) (by rfl) rfl ?_ ?_
           ·
            go_simp
            try (first | rfl | exact hw_.symm | (rw [hw_]) | (simp only [hw_]))
           refine hK.out _ _ ⟨(keep_ _ _ NB245_250.out (hHeld.1)), (keep_ _ _ NB245_250.out (hHeld.2.1)), (keep_ _ _ NB245_250.out (hHeld.2.2.1)), (keep_ _ _ NB246_250.out (hHeld.2.2.2.1)), (keep_ _ _ NB246_250.out (hHeld.2.2.2.2.1)), (keep_ _ _ NB246_250.out (hHeld.2.2.2.2.2.1)), (keep_ _ _ (by first | exact ne_rd hw248_0 GW250.out | exact ne_rd' hw248_0 GW250.out) (hHeld.2.2.2.2.2.2.1)), (keep_ _ _ (by first | exact ne_rd hw248_1 GW250.out | exact ne_rd' hw248_1 GW250.out) (hHeld.2.2.2.2.2.2.2.1)), (keep_ _ _ (by first | exact ne_rd hw248_2 GW250.out | exact ne_rd' hw248_2 GW250.out) (hHeld.2.2.2.2.2.2.2.2.1)), (keep_ _ _ (by first | exact ne_rd hw248_3 GW250.out | exact ne_rd' hw248_3 GW250.out) (hHeld.2.2.2.2.2.2.2.2.2.1)), (keep_ _ _ (by first | exact ne_rd hw248_4 GW250.out | exact ne_rd' hw248_4 GW250.out) (hHeld.2.2.2.2.2.2.2.2.2.2.1)), (keep_ _ _ (by first | exact ne_rd hw248_5 GW250.out | exact ne_rd' hw248_5 GW250.out) (hHeld.2.2.2.2.2.2.2.2.2.2.2.1)), (keep_ _ _ (by first | exact ne_rd hw248_6 GW250.out | exact ne_rd' hw248_6 GW250.out) (hHeld.2.2.2.2.2.2.2.2.2.2.2.2.1)), (keep_ _ _ (by first | exact ne_rd hw248_7 GW250.out | exact ne_rd' hw248_7 GW250.out) (hHeld.2.2.2.2.2.2.2.2.2.2.2.2.2.1)), (keep_ _ _ (by first | exact ne_rd hw248_8 GW250.out | exact ne_rd' hw248_8 GW250.out) (hHeld.2.2.2.2.2.2.2.2.2.2.2.2.2.2.1)), (keep_ _ _ (by first | exact ne_rd hw249_0 GW250.out | exact ne_rd' hw249_0 GW250.out) (hHeld.2.2.2.2.2.2.2.2.2.2.2.2.2.2.2.1)), (keep_ _ _ (by first | exact ne_rd hw249_1 GW250.out | exact ne_rd' hw249_1 GW250.out) (hHeld.2.2.2.2.2.2.2.2.2.2.2.2.2.2.2.2.1)), (keep_ _ _ (by first | exact ne_rd hw249_2 GW250.out | exact ne_rd' hw249_2 GW250.out) (hHeld.2.2.2.2.2.2.2.2.2.2.2.2.2.2.2.2.2.1)), (keep_ _ _ (by first | exact ne_rd hw249_3 GW250.out | exact ne_rd' hw249_3 GW250.out) (hHeld.2.2.2.2.2.2.2.2.2.2.2.2.2.2.2.2.2.2.1)), (keep_ _ _ (by first | exact ne_rd hw249_4 GW250.out | exact ne_rd' hw249_4 GW250.out) (hHeld.2.2.2.2.2.2.2.2.2.2.2.2.2.2.2.2.2.2.2.1)), (keep_ _ _ (by first | exact ne_rd hw249_5 GW250.out | exact ne_rd' hw249_5 GW250.out) (hHeld.2.2.2.2.2.2.2.2.2.2.2.2.2.2.2.2.2.2.2.2.1)), (keep_ _ _ (by first | exact ne_rd hw249_6 GW250.out | exact ne_rd' hw249_6 GW250.out) (hHeld.2.2.2.2.2.2.2.2.2.2.2.2.2.2.2.2.2.2.2.2.2.1)), (keep_ _ _ (by first | exact ne_rd hw249_7 GW250.out | exact ne_rd' hw249_7 GW250.out) (hHeld.2.2.2.2.2.2.2.2.2.2.2.2.2.2.2.2.2.2.2.2.2.2.1)), (keep_ _ _ (by first | exact ne_rd hw249_8 GW250.out | exact ne_rd' hw249_8 GW250.out) (hHeld.2.2.2.2.2.2.2.2.2.2.2.2.2.2.2.2.2.2.2.2.2.2.2))⟩ (fun hHeld => ?_)
           clear hK K
           have n0_ := Aside0.mk (kb_ _ _ _ NB251_250.out BK251.out)
           have n1_ := Aside0.mk (kb_ _ _ _ NB245_250.out BK245.out)
           have n2_ := Aside0.mk (kb_ _ _ _ NB246_250.out BK246.out)
           have n3_ := Aside0.mk kg_
           have n4_ := Aside0.mk kl_
           clear keep_ kb_ kg_ kl_ hw_ BK251 BK245 BK246 BK250 HB
           have BK251 := n0_
           have BK245 := n1_
           have BK246 := n2_
           have BK250 := n3_
           have HB := n4_
           clear n0_ n1_ n2_ n3_ n4_
           refine one_ (i := 13) (N := none) #[true, true, true, true, true, true, true, true, true, true, true, true, true, true] rfl rfl (one_of HT_.out (by kernel_rfl)) (by decide) (fun K hK => ?_)
           have hs38 : w28y.cell? ⟨gb251, 0, none⟩ = some (.int .i64 0) := (blk_cell BK251.out 0).trans rfl
           have hfs38 := blk_frozen BK251.out 0
           have hns38_0 := NB245_251.out
           have hns38_1 := NB246_251.out
           have hns38_2 := NB250_251.out
           have hms38_0 := NB251_245.out
           have hms38_1 := NB251_246.out
           have hms38_2 := NB251_250.out
           have hs39 : w28y.cell? ⟨gb251, 1, none⟩ = some (.slice none 0 0) := (blk_cell BK251.out 1).trans rfl
           have hfs39 := blk_frozen BK251.out 1
           have hns39_0 := NB245_251.out
           have hns39_1 := NB246_251.out
           have hns39_2 := NB250_251.out
           have hms39_0 := NB251_245.out
           have hms39_1 := NB251_246.out
           have hms39_2 := NB251_250.out
           have hs40 : w28y.cell? ⟨gb251, 2, none⟩ = some (.slice none 0 0) := (blk_cell BK251.out 2).trans rfl
           have hfs40 := blk_frozen BK251.out 2
           have hns40_0 := NB245_251.out
           have hns40_1 := NB246_251.out
           have hns40_2 := NB250_251.out
           have hms40_0 := NB251_245.out
           have hms40_1 := NB251_246.out
           have hms40_2 := NB251_250.out
           have hs41 : w28y.cell? ⟨gb251, 3, none⟩ = some (.slice none 0 0) := (blk_cell BK251.out 3).trans rfl
           have hfs41 := blk_frozen BK251.out 3
           have hns41_0 := NB245_251.out
           have hns41_1 := NB246_251.out
           have hns41_2 := NB250_251.out
           have hms41_0 := NB251_245.out
           have hms41_1 := NB251_246.out
           have hms41_2 := NB251_250.out
           have hs42 : w28y.cell? ⟨gb251, 4, none⟩ = some (.slice none 0 0) := (blk_cell BK251.out 4).trans rfl
           have hfs42 := blk_frozen BK251.out 4
           have hns42_0 := NB245_251.out
           have hns42_1 := NB246_251.out
           have hns42_2 := NB250_251.out
           have hms42_0 := NB251_245.out
           have hms42_1 := NB251_246.out
           have hms42_2 := NB251_250.out
           have hs43 : w28y.cell? ⟨gb251, 5, none⟩ = some (.int .i64 0) := (blk_cell BK251.out 5).trans rfl
           have hfs43 := blk_frozen BK251.out 5
           have hns43_0 := NB245_251.out
           have hns43_1 := NB246_251.out
           have hns43_2 := NB250_251.out
           have hms43_0 := NB251_245.out
           have hms43_1 := NB251_246.out
           have hms43_2 := NB251_250.out
           have hs44 : w28y.cell? ⟨gb251, 6, none⟩ = some (.int .i64 0) := (blk_cell BK251.out 6).trans rfl
           have hfs44 := blk_frozen BK251.out 6
           have hns44_0 := NB245_251.out
           have hns44_1 := NB246_251.out
           have hns44_2 := NB250_251.out
           have hms44_0 := NB251_245.out
           have hms44_1 := NB251_246.out
           have hms44_2 := NB251_250.out
           have hs45 : w28y.cell? ⟨gb251, 7, none⟩ = some (.int .i64 0) := (blk_cell BK251.out 7).trans rfl
           have hfs45 := blk_frozen BK251.out 7
           have hns45_0 := NB245_251.out
           have hns45_1 := NB246_251.out
           have hns45_2 := NB250_251.out
           have hms45_0 := NB251_245.out
           have hms45_1 := NB251_246.out
           have hms45_2 := NB251_250.out
           have hs46 : w28y.cell? ⟨gb251, 8, none⟩ = some (.int .i64 0) := (blk_cell BK251.out 8).trans rfl
           have hfs46 := blk_frozen BK251.out 8
           have hns46_0 := NB245_251.out
           have hns46_1 := NB246_251.out
           have hns46_2 := NB250_251.out
           have hms46_0 := NB251_245.out
           have hms46_1 := NB251_246.out
           have hms46_2 := NB251_250.out
           obtain ⟨w28z, hw_⟩ : ∃ x, x = (((((((((w28y.setCell ⟨gb251, 0, none⟩ (.int .i64 ((rd_T44 l1_0 x5_2).f0))).setCell ⟨gb251, 1, none⟩ (.slice A249_1 ((rd_T44 l1_0 x5_2).f1).length c249_1)).setCell ⟨gb251, 2, none⟩ (.slice A249_2 ((rd_T44 l1_0 x5_2).f2).length c249_2)).setCell ⟨gb251, 3, none⟩ (.slice A249_3 ((rd_T44 l1_0 x5_2).f3).length c249_3)).setCell ⟨gb251, 4, none⟩ (.slice A249_4 ((rd_T44 l1_0 x5_2).f4).length c249_4)).setCell ⟨gb251, 5, none⟩ (.int .i64 ((rd_T44 l1_0 x5_2).f5))).setCell ⟨gb251, 6, none⟩ (.int .i64 ((rd_T44 l1_0 x5_2).f6))).setCell ⟨gb251, 7, none⟩ (.int .i64 ((rd_T44 l1_0 x5_2).f7))).setCell ⟨gb251, 8, none⟩ (.int .i64 ((rd_T44 l1_0 x5_2).f8))) := ⟨_, rfl⟩
           have keep_ : ∀ (a : Addr) (v : Value), a.block ≠ gb251 → w28y.cell? a = some v → w28z.cell? a = some v := by
            intro a v ha h
            rw [hw_]
            iterate 9 refine cf ha ?_
            exact h
           have kb_ : ∀ (b : Nat) (cs : Array Value) (t : TypeId), b ≠ gb251 → w28y.heap[b]? = some (.cells cs t (0, 0)) → w28z.heap[b]? = some (.cells cs t (0, 0)) := by
            intro b cs t ha h
            rw [hw_]
            iterate 9 refine blk_far ?_ ha _
            exact h
           have kg_ : w28z.heap[gb251]? = some (.cells #[.int .i64 ((rd_T44 l1_0 x5_2).f0), .slice A249_1 ((rd_T44 l1_0 x5_2).f1).length c249_1, .slice A249_2 ((rd_T44 l1_0 x5_2).f2).length c249_2, .slice A249_3 ((rd_T44 l1_0 x5_2).f3).length c249_3, .slice A249_4 ((rd_T44 l1_0 x5_2).f4).length c249_4, .int .i64 ((rd_T44 l1_0 x5_2).f5), .int .i64 ((rd_T44 l1_0 x5_2).f6), .int .i64 ((rd_T44 l1_0 x5_2).f7), .int .i64 ((rd_T44 l1_0 x5_2).f8)] 44 (0, 0)) := by
            rw [hw_]
            refine E_in ?_
            iterate 9 refine E_set ?_
            exact ⟨_, BK251.out, by (try dsimp only); simp only [List.setIfInBounds_toArray, List.set_cons_zero, List.set_cons_succ]⟩
           have kl_ : Below w.heap.size w w28z := by
            rw [hw_]
            iterate 9 refine below_set ?_ GE251.out
            exact HB.out
           refine skip_ (w1 := w28z) (by rfl) rfl ?_ ?_
           ·
            go_simp
            try (first | rfl | exact hw_.symm | (rw [hw_]) | (simp only [hw_]))
           refine hK.out _ _ ⟨(keep_ _ _ NB245_251.out (hHeld.1)), (keep_ _ _ NB245_251.out (hHeld.2.1)), (keep_ _ _ NB245_251.out (hHeld.2.2.1)), (keep_ _ _ NB246_251.out (hHeld.2.2.2.1)), (keep_ _ _ NB246_251.out (hHeld.2.2.2.2.1)), (keep_ _ _ NB246_251.out (hHeld.2.2.2.2.2.1)), (keep_ _ _ (by first | exact ne_rd hw248_0 GW251.out | exact ne_rd' hw248_0 GW251.out) (hHeld.2.2.2.2.2.2.1)), (keep_ _ _ (by first | exact ne_rd hw248_1 GW251.out | exact ne_rd' hw248_1 GW251.out) (hHeld.2.2.2.2.2.2.2.1)), (keep_ _ _ (by first | exact ne_rd hw248_2 GW251.out | exact ne_rd' hw248_2 GW251.out) (hHeld.2.2.2.2.2.2.2.2.1)), (keep_ _ _ (by first | exact ne_rd hw248_3 GW251.out | exact ne_rd' hw248_3 GW251.out) (hHeld.2.2.2.2.2.2.2.2.2.1)), (keep_ _ _ (by first | exact ne_rd hw248_4 GW251.out | exact ne_rd' hw248_4 GW251.out) (hHeld.2.2.2.2.2.2.2.2.2.2.1)), (keep_ _ _ (by first | exact ne_rd hw248_5 GW251.out | exact ne_rd' hw248_5 GW251.out) (hHeld.2.2.2.2.2.2.2.2.2.2.2.1)), (keep_ _ _ (by first | exact ne_rd hw248_6 GW251.out | exact ne_rd' hw248_6 GW251.out) (hHeld.2.2.2.2.2.2.2.2.2.2.2.2.1)), (keep_ _ _ (by first | exact ne_rd hw248_7 GW251.out | exact ne_rd' hw248_7 GW251.out) (hHeld.2.2.2.2.2.2.2.2.2.2.2.2.2.1)), (keep_ _ _ (by first | exact ne_rd hw248_8 GW251.out | exact ne_rd' hw248_8 GW251.out) (hHeld.2.2.2.2.2.2.2.2.2.2.2.2.2.2.1)), (keep_ _ _ (by first | exact ne_rd hw249_0 GW251.out | exact ne_rd' hw249_0 GW251.out) (hHeld.2.2.2.2.2.2.2.2.2.2.2.2.2.2.2.1)), (keep_ _ _ (by first | exact ne_rd hw249_1 GW251.out | exact ne_rd' hw249_1 GW251.out) (hHeld.2.2.2.2.2.2.2.2.2.2.2.2.2.2.2.2.1)), (keep_ _ _ (by first | exact ne_rd hw249_2 GW251.out | exact ne_rd' hw249_2 GW251.out) (hHeld.2.2.2.2.2.2.2.2.2.2.2.2.2.2.2.2.2.1)), (keep_ _ _ (by first | exact ne_rd hw249_3 GW251.out | exact ne_rd' hw249_3 GW251.out) (hHeld.2.2.2.2.2.2.2.2.2.2.2.2.2.2.2.2.2.2.1)), (keep_ _ _ (by first | exact ne_rd hw249_4 GW251.out | exact ne_rd' hw249_4 GW251.out) (hHeld.2.2.2.2.2.2.2.2.2.2.2.2.2.2.2.2.2.2.2.1)), (keep_ _ _ (by first | exact ne_rd hw249_5 GW251.out | exact ne_rd' hw249_5 GW251.out) (hHeld.2.2.2.2.2.2.2.2.2.2.2.2.2.2.2.2.2.2.2.2.1)), (keep_ _ _ (by first | exact ne_rd hw249_6 GW251.out | exact ne_rd' hw249_6 GW251.out) (hHeld.2.2.2.2.2.2.2.2.2.2.2.2.2.2.2.2.2.2.2.2.2.1)), (keep_ _ _ (by first | exact ne_rd hw249_7 GW251.out | exact ne_rd' hw249_7 GW251.out) (hHeld.2.2.2.2.2.2.2.2.2.2.2.2.2.2.2.2.2.2.2.2.2.2.1)), (keep_ _ _ (by first | exact ne_rd hw249_8 GW251.out | exact ne_rd' hw249_8 GW251.out) (hHeld.2.2.2.2.2.2.2.2.2.2.2.2.2.2.2.2.2.2.2.2.2.2.2))⟩ (fun hHeld => ?_)
           clear hK K
           have n0_ := Aside0.mk (kb_ _ _ _ NB250_251.out BK250.out)
           have n1_ := Aside0.mk (kb_ _ _ _ NB245_251.out BK245.out)
           have n2_ := Aside0.mk (kb_ _ _ _ NB246_251.out BK246.out)
           have n3_ := Aside0.mk kg_
           have n4_ := Aside0.mk kl_
           clear keep_ kb_ kg_ kl_ hw_ BK250 BK245 BK246 BK251 HB
           have BK250 := n0_
           have BK245 := n1_
           have BK246 := n2_
           have BK251 := n3_
           have HB := n4_
           clear n0_ n1_ n2_ n3_ n4_
           refine done_ (done_of HT_.out (by kernel_rfl)) ?_
           go_upto_region 7 with (fail)
           go_cut [114] (fun v114 wc => ∃ (kq : Nat) (x114_21 : Bool), v114 = .bool x114_21 ∧ Aside0 (runnelref17_Same.j2 kq x5_2 x114_21 l0_0 l0_1 a0_2 l1_0 l1_1 a1_2 ((rd_T44 l0_0 x5_2).f0) ((rd_T44 l0_0 x5_2).f1) ((rd_T44 l0_0 x5_2).f2) ((rd_T44 l0_0 x5_2).f3) ((rd_T44 l0_0 x5_2).f4) ((rd_T44 l0_0 x5_2).f5) ((rd_T44 l0_0 x5_2).f6) ((rd_T44 l0_0 x5_2).f7) ((rd_T44 l0_0 x5_2).f8) ((rd_T44 l1_0 x5_2).f0) ((rd_T44 l1_0 x5_2).f1) ((rd_T44 l1_0 x5_2).f2) ((rd_T44 l1_0 x5_2).f3) ((rd_T44 l1_0 x5_2).f4) ((rd_T44 l1_0 x5_2).f5) ((rd_T44 l1_0 x5_2).f6) ((rd_T44 l1_0 x5_2).f7) ((rd_T44 l1_0 x5_2).f8) = some r) ∧ Aside0 (kq ≤ k2) ∧ Aside0 (wc.heap[gb245]? = some (.cells #[(.slice (some ad248) l0_0.length c0_0), (.slice A0_1 l0_1.length c0_1), .int .i64 a0_2] 25 (0, 0))) ∧ Aside0 (wc.heap[gb246]? = some (.cells #[(.slice (some ad249) l1_0.length c1_0), (.slice A1_1 l1_1.length c1_1), .int .i64 a1_2] 25 (0, 0))) ∧ Aside0 (wc.heap[gb250]? = some (.cells #[.int .i64 ((rd_T44 l0_0 x5_2).f0), (.slice A248_1 ((rd_T44 l0_0 x5_2).f1).length c248_1), (.slice A248_2 ((rd_T44 l0_0 x5_2).f2).length c248_2), (.slice A248_3 ((rd_T44 l0_0 x5_2).f3).length c248_3), (.slice A248_4 ((rd_T44 l0_0 x5_2).f4).length c248_4), .int .i64 ((rd_T44 l0_0 x5_2).f5), .int .i64 ((rd_T44 l0_0 x5_2).f6), .int .i64 ((rd_T44 l0_0 x5_2).f7), .int .i64 ((rd_T44 l0_0 x5_2).f8)] 44 (0, 0))) ∧ Aside0 (wc.heap[gb251]? = some (.cells #[.int .i64 ((rd_T44 l1_0 x5_2).f0), (.slice A249_1 ((rd_T44 l1_0 x5_2).f1).length c249_1), (.slice A249_2 ((rd_T44 l1_0 x5_2).f2).length c249_2), (.slice A249_3 ((rd_T44 l1_0 x5_2).f3).length c249_3), (.slice A249_4 ((rd_T44 l1_0 x5_2).f4).length c249_4), .int .i64 ((rd_T44 l1_0 x5_2).f5), .int .i64 ((rd_T44 l1_0 x5_2).f6), .int .i64 ((rd_T44 l1_0 x5_2).f7), .int .i64 ((rd_T44 l1_0 x5_2).f8)] 44 (0, 0))) ∧ Aside0 (Below w.heap.size w wc))
           case first =>
            revert hu25
            revert hu44
            revert hu52
            repeat revert ‹Value›
            repeat revert ‹Exit → Act → World → Prop›
            repeat revert ‹Nat → Act → World → Prop›
            repeat revert ‹Act → World → Prop›
            repeat revert ‹World → Prop›
            repeat revert ‹World›
            repeat revert ‹Nat›
            repeat revert ‹Int›
            repeat revert ‹Bool›
            repeat revert ‹Option Addr›
            repeat revert ‹Addr›
            repeat revert ‹List Int›
            repeat revert ‹List Nat›
            repeat revert ‹String›
            repeat revert ‹List Bool›
            repeat revert ‹List (List Int)›
            repeat revert ‹Exit›
            repeat revert ‹S44›
            repeat revert ‹List (S44)›
            exact hl_0.out
           case rest =>
            revert hu25
            revert hu44
            revert hu52
            repeat revert ‹Value›
            repeat revert ‹Exit → Act → World → Prop›
            repeat revert ‹Nat → Act → World → Prop›
            repeat revert ‹Act → World → Prop›
            repeat revert ‹World → Prop›
            repeat revert ‹World›
            repeat revert ‹Nat›
            repeat revert ‹Int›
            repeat revert ‹Bool›
            repeat revert ‹Option Addr›
            repeat revert ‹Addr›
            repeat revert ‹List Int›
            repeat revert ‹List Nat›
            repeat revert ‹String›
            repeat revert ‹List Bool›
            repeat revert ‹List (List Int)›
            repeat revert ‹Exit›
            repeat revert ‹S44›
            repeat revert ‹List (S44)›
            exact hl_1.out
          ·
           rw [if_neg c21] at H
           exact absurd H (by simp)
         ·
          rw [if_neg c20] at H
          exact absurd H (by simp)
        ·
         rw [if_neg c19] at H
         have c19b0 : decide (x5_2 < (l0_0.length : Int)) = false := decide_eq_false c19
         clear c19
         obtain rfl := Option.some.inj H
         have hnb161 := NB245_246.out
         have hnc161 := NB246_245.out
         obtain ⟨hcz162_0, hcz162_1, hcz162_2⟩ := cells3 BK245.out
         obtain ⟨hfz162_0, hfz162_1, hfz162_2⟩ := frz3 BK245.out
         go_wp2
         go_ret
         exact ⟨erq, by repeat (first | (with_reducible first | exact HB.out | apply below_alloc | apply pw_below_drewN | apply below_drew1 | refine below_set ?_ GE245.out | refine below_set ?_ GE246.out) | exact HB.out)⟩
  
end Go.Proofs.Ytbdpnecnnokkkaa.PSheetDecodes
