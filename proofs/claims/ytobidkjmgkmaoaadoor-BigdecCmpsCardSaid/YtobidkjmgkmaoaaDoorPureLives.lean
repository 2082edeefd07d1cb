/- Plain law: the document's examples of layer 4, by the kernel. -/
import Derived.Test.YtobidkjmgkmaoaaDoorFn0
import Derived.Test.YtobidkjmgkmaoaaDoorFnPlatenlaw04LivesLo
namespace Go.Proofs.YtobidkjmgkmaoaaDoor.Pure
open Go.RowKit Go.Proofs.YtobidkjmgkmaoaaDoorW.PrintWords Go.Proofs.YtobidkjmgkmaoaaDoor.Fn
theorem lives4_at : platenlaw04_lives.f 60 = some true := by decide +kernel
theorem lives4 : Ev (fun k => platenlaw04_lives.f k) true := Ev.of platenlaw04_lives.mono lives4_at
end Go.Proofs.YtobidkjmgkmaoaaDoor.Pure
