/- front.New where there is nothing. -/
import Derived.Test.YtbaboemhjcdpbaaH10
import Derived.Test.YtbaboemhjcdpbaaOQueueNilsx1
namespace Go.Proofs.Ytbaboemhjcdpbaa.Q
open Go.RowKit Go.Proofs.YtbaboemhjcdpbaaW.PrintWords Go.Proofs.YtbaboemhjcdpbaaW.PrintLast
theorem new_nil : NewNil := by
 intro w
 have h : PQueueNils.front_New.f 1 [] = some [] := by
  simp [PQueueNils.front_New.f, PQueueNils.api_Time.f, PQueueNils.srt, PQueueNils.front_New.l0]
 refine (PQueueNils.front_New.calls 1 none 0 [] [] w (Kd.C_nil _ _) (Nat.le_refl _) h).mono ?_
 rintro e w' ⟨v, rfl, hR, hB⟩
 obtain ⟨B, d, rfl⟩ := Kd.R_slice hR
 exact ⟨B, d, rfl, hB⟩
end Go.Proofs.Ytbaboemhjcdpbaa.Q
