/- BigdecCmps: the program's Cmp answers as the document's, for any two decimals; the document's examples are as it says. -/
import Derived.Test.YtobidkjmgkmaoaaDoorPureCmp
import Derived.Test.YtobidkjmgkmaoaaDoorPureLives
import Derived.Test.YtobidkjmgkmaoaaDoorFnPlatenlaw04BigdecCmps
namespace Go.Proofs.YtobidkjmgkmaoaaDoor.Pure
open Go.RowKit Go.Proofs.YtobidkjmgkmaoaaDoorW.PrintWords Go.Proofs.YtobidkjmgkmaoaaDoor.Fn
theorem BigdecCmps : ∀ (a0_0 : ByteArray) (a0_1 : Int) (a1_0 : ByteArray) (a1_1 : Int), a0_0.size ≤ maxLen → (Lit.int .i64 a0_1).wf = true → a1_0.size ≤ maxLen → (Lit.int .i64 a1_1).wf = true → ∃ k, platenlaw04_BigdecCmps.f k a0_0 a0_1 a1_0 a1_1 = some true := by
  intro s p t q _ _ _ _
  refine (Ev.bind (cmpS_eq s p t q) (Ev.bind (rcmpS_eq s p t q) ?_)).rounds
  exact Ev.congr (fun k => by rw [if_pos rfl, if_pos rfl]) (Ev.bind lives4 (Ev.now _))
end Go.Proofs.YtobidkjmgkmaoaaDoor.Pure
