/- Closed calls of known(), run. No condition. -/
import Derived.Test.YtfcgnheaggpccaaGreatDoorKnP
namespace Go.Proofs.YtfcgnheaggpccaaGreatDoor.Kn
open Go Go.SE
theorem e3 : outOf p3.ents.length (run ctx a3 1000000 (p3.go ctx)) = some p3.outs3 := by kernel_rfl
end Go.Proofs.YtfcgnheaggpccaaGreatDoor.Kn

namespace Go.Proofs.YtfcgnheaggpccaaGreatDoor.Kn
open Go Go.SE
theorem e4 : outOf p4.ents.length (run ctx a4 1000000 (p4.go ctx)) = some p4.outs3 := by kernel_rfl
end Go.Proofs.YtfcgnheaggpccaaGreatDoor.Kn

namespace Go.Proofs.YtfcgnheaggpccaaGreatDoor.Kn
open Go Go.SE
theorem e5 : outOf p5.ents.length (run ctx a5 1000000 (p5.go ctx)) = some p5.outs3 := by kernel_rfl
end Go.Proofs.YtfcgnheaggpccaaGreatDoor.Kn

namespace Go.Proofs.YtfcgnheaggpccaaGreatDoor.Kn
open Go Go.SE
theorem e6 : outOf p6.ents.length (run ctx a6 1000000 (p6.go ctx)) = some p6.outs3 := by kernel_rfl
end Go.Proofs.YtfcgnheaggpccaaGreatDoor.Kn

