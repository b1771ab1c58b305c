/- Closed calls of known(), run. No condition. -/
import Derived.Test.YtfcgnheaggpccaaGreatDoorKnP
namespace Go.Proofs.YtfcgnheaggpccaaGreatDoor.Kn
open Go Go.SE
theorem e15 : outOf p15.ents.length (run ctx a15 1000000 (p15.go ctx)) = some p15.outs3 := by kernel_rfl
end Go.Proofs.YtfcgnheaggpccaaGreatDoor.Kn

namespace Go.Proofs.YtfcgnheaggpccaaGreatDoor.Kn
open Go Go.SE
theorem e16 : outOf p16.ents.length (run ctx a16 1000000 (p16.go ctx)) = some p16.outs3 := by kernel_rfl
end Go.Proofs.YtfcgnheaggpccaaGreatDoor.Kn

namespace Go.Proofs.YtfcgnheaggpccaaGreatDoor.Kn
open Go Go.SE
theorem e17 : outOf p17.ents.length (run ctx a17 1000000 (p17.go ctx)) = some p17.outs3 := by kernel_rfl
end Go.Proofs.YtfcgnheaggpccaaGreatDoor.Kn

namespace Go.Proofs.YtfcgnheaggpccaaGreatDoor.Kn
open Go Go.SE
theorem e18 : outOf p18.ents.length (run ctx a18 1000000 (p18.go ctx)) = some p18.outs3 := by kernel_rfl
end Go.Proofs.YtfcgnheaggpccaaGreatDoor.Kn

namespace Go.Proofs.YtfcgnheaggpccaaGreatDoor.Kn
open Go Go.SE
theorem e19 : outOf p19.ents.length (run ctx a19 1000000 (p19.go ctx)) = some p19.outs3 := by kernel_rfl
end Go.Proofs.YtfcgnheaggpccaaGreatDoor.Kn

namespace Go.Proofs.YtfcgnheaggpccaaGreatDoor.Kn
open Go Go.SE
theorem e20 : outOf p20.ents.length (run ctx a20 1000000 (p20.go ctx)) = some p20.outs3 := by kernel_rfl
end Go.Proofs.YtfcgnheaggpccaaGreatDoor.Kn

