/- The document's small example of layer 7 answers true. -/
import Derived.Test.YtghdpoabpodieaaP24
import Derived.Test.YtghdpoabpodieaaQBase
namespace Go.Proofs.Ytghdpoabpodieaa.Q
open Go.RowKit Go.Proofs.YtghdpoabpodieaaW.PrintWords Go.Proofs.YtghdpoabpodieaaW.PrintLast Go.Proofs.YtghdpoabpodieaaW.PrintMore Go.Proofs.Ytghdpoabpodieaa.P
theorem awake07_at : ebbtidelaw07_awake.f 20 = some true := by decide +kernel
theorem awake07_ev : Ev (fun k => ebbtidelaw07_awake.f k) true := Ev.of ebbtidelaw07_awake.mono awake07_at
end Go.Proofs.Ytghdpoabpodieaa.Q
