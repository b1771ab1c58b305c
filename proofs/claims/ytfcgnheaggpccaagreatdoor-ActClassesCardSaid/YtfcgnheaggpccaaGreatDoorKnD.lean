/- Closed calls of known(), run. No condition. -/
import Derived.Test.YtfcgnheaggpccaaGreatDoorKnP
namespace Go.Proofs.YtfcgnheaggpccaaGreatDoor.Kn
open Go Go.SE
theorem e8 : outOf p8.ents.length (run ctx a8 1000000 (p8.go ctx)) = some p8.outs3 := by kernel_rfl
end Go.Proofs.YtfcgnheaggpccaaGreatDoor.Kn

namespace Go.Proofs.YtfcgnheaggpccaaGreatDoor.Kn
open Go Go.SE
theorem e12 : outOf p12.ents.length (run ctx a12 1000000 (p12.go ctx)) = some p12.outs3 := by kernel_rfl
end Go.Proofs.YtfcgnheaggpccaaGreatDoor.Kn

namespace Go.Proofs.YtfcgnheaggpccaaGreatDoor.Kn
open Go Go.SE
theorem e13 : outOf p13.ents.length (run ctx a13 1000000 (p13.go ctx)) = some p13.outs3 := by kernel_rfl
end Go.Proofs.YtfcgnheaggpccaaGreatDoor.Kn

namespace Go.Proofs.YtfcgnheaggpccaaGreatDoor.Kn
open Go Go.SE
theorem e14 : outOf p14.ents.length (run ctx a14 1000000 (p14.go ctx)) = some p14.outs3 := by kernel_rfl
end Go.Proofs.YtfcgnheaggpccaaGreatDoor.Kn

