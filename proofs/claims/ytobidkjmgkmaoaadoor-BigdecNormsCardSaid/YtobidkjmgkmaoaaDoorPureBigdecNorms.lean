/- BigdecNorms: the program's Norm answers as the document's, whatever the digits and the point; the document's examples are as it says. -/
import Derived.Test.YtobidkjmgkmaoaaDoorPureNorm
import Derived.Test.YtobidkjmgkmaoaaDoorPureLives
import Derived.Test.YtobidkjmgkmaoaaDoorFnPlatenlaw04BigdecNorms
namespace Go.Proofs.YtobidkjmgkmaoaaDoor.Pure
open Go.RowKit Go.Proofs.YtobidkjmgkmaoaaDoorW.PrintWords Go.Proofs.YtobidkjmgkmaoaaDoor.Fn
theorem BigdecNorms : ∀ (a0_0 : ByteArray) (a0_1 : Int), a0_0.size ≤ maxLen → (Lit.int .i64 a0_1).wf = true → ∃ k, platenlaw04_BigdecNorms.f k a0_0 a0_1 = some true := by
  intro s p _ _
  refine (Ev.bind (norm_eq s p) (Ev.bind (rNorm_eq s p) ?_)).rounds
  exact Ev.congr (fun k => by rw [if_pos (by simp), if_pos rfl]) (Ev.bind lives4 (Ev.now _))
end Go.Proofs.YtobidkjmgkmaoaaDoor.Pure
