/- The frame of the claim. No condition. -/
import Derived.Test.YtekdpkhnpoimcaaGreatDoorCards
import Derived.ProofKit
import Derived.KernelRfl
set_option linter.unusedVariables false
set_option linter.unusedSimpArgs false
namespace Go.Proofs.YtekdpkhnpoimcaaGreatDoor.libNames
theorem noGo : false = Rows.libNamesRow.goesBy Tryz.pinned.checked.prog := by kernel_rfl
end Go.Proofs.YtekdpkhnpoimcaaGreatDoor.libNames
