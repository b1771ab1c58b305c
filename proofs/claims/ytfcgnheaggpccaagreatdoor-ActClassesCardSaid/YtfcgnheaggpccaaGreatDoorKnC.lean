/- Closed calls of known(), run. No condition. -/
import Derived.Test.YtfcgnheaggpccaaGreatDoorKnP
namespace Go.Proofs.YtfcgnheaggpccaaGreatDoor.Kn
open Go Go.SE
theorem e7 : outOf p7.ents.length (run ctx a7 1000000 (p7.go ctx)) = some p7.outs3 := by kernel_rfl
end Go.Proofs.YtfcgnheaggpccaaGreatDoor.Kn

namespace Go.Proofs.YtfcgnheaggpccaaGreatDoor.Kn
open Go Go.SE
theorem e9 : outOf p9.ents.length (run ctx a9 1000000 (p9.go ctx)) = some p9.outs3 := by kernel_rfl
end Go.Proofs.YtfcgnheaggpccaaGreatDoor.Kn

namespace Go.Proofs.YtfcgnheaggpccaaGreatDoor.Kn
open Go Go.SE
theorem e10 : outOf p10.ents.length (run ctx a10 1000000 (p10.go ctx)) = some p10.outs3 := by kernel_rfl
end Go.Proofs.YtfcgnheaggpccaaGreatDoor.Kn

namespace Go.Proofs.YtfcgnheaggpccaaGreatDoor.Kn
open Go Go.SE
theorem e11 : outOf p11.ents.length (run ctx a11 1000000 (p11.go ctx)) = some p11.outs3 := by kernel_rfl
end Go.Proofs.YtfcgnheaggpccaaGreatDoor.Kn

