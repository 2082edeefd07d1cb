/- BigdecExacts: the program's Exact answers as the document's, for any number and any power of two; the document's examples are as it says. -/
import Derived.Test.YtobidkjmgkmaoaaDoorPureExact
import Derived.Test.YtobidkjmgkmaoaaDoorPureLives
import Derived.Test.YtobidkjmgkmaoaaDoorFnPlatenlaw04BigdecExacts
namespace Go.Proofs.YtobidkjmgkmaoaaDoor.Pure
open Go.RowKit Go.Proofs.YtobidkjmgkmaoaaDoorW.PrintWords Go.Proofs.YtobidkjmgkmaoaaDoor.Fn
theorem BigdecExacts : ∀ (a0 : Int) (a1 : Int), (Lit.int .u64 a0).wf = true → (Lit.int .i64 a1).wf = true → ∃ k, platenlaw04_BigdecExacts.f k a0 a1 = some true := by
  intro m e hm _
  have h0 : 0 ≤ m ∧ m < 18446744073709551616 := by
    simp [Lit.wf, IntKind.min, IntKind.max, IntKind.signed, IntKind.bits] at hm
    omega
  obtain ⟨n, rfl⟩ := Int.eq_ofNat_of_zero_le h0.1
  refine (Ev.bind (exact_eq n e (by omega)) (Ev.bind (rexact_eq n e (by omega)) ?_)).rounds
  exact Ev.congr (fun k => by rw [if_pos (by simp), if_pos rfl]) (Ev.bind lives4 (Ev.now _))
end Go.Proofs.YtobidkjmgkmaoaaDoor.Pure
