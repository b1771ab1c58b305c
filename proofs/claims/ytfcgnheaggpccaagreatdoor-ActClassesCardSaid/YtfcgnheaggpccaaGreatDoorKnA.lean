/- Closed calls of known(), run. No condition. -/
import Derived.Test.YtfcgnheaggpccaaGreatDoorKnP
namespace Go.Proofs.YtfcgnheaggpccaaGreatDoor.Kn
open Go Go.SE
theorem e0 : outOf p0.ents.length (run ctx a0 1000000 (p0.go ctx)) = some p0.outs3 := by kernel_rfl
end Go.Proofs.YtfcgnheaggpccaaGreatDoor.Kn

namespace Go.Proofs.YtfcgnheaggpccaaGreatDoor.Kn
open Go Go.SE
theorem e1 : outOf p1.ents.length (run ctx a1 1000000 (p1.go ctx)) = some p1.outs3 := by kernel_rfl
end Go.Proofs.YtfcgnheaggpccaaGreatDoor.Kn

namespace Go.Proofs.YtfcgnheaggpccaaGreatDoor.Kn
open Go Go.SE
theorem e2 : outOf p2.ents.length (run ctx a2 1000000 (p2.go ctx)) = some p2.outs3 := by kernel_rfl
end Go.Proofs.YtfcgnheaggpccaaGreatDoor.Kn

