/- The frame of the claim. No condition. -/
import Derived.Test.YtphamhlcoeodgaaGreatDoorCards
import Derived.ProofKit
import Derived.KernelRfl
set_option linter.unusedVariables false
set_option linter.unusedSimpArgs false
namespace Go.Proofs.YtphamhlcoeodgaaGreatDoor.libTexts
theorem noGo : false = Rows.libTextsRow.goesBy Tryz.pinned.checked.prog := by kernel_rfl
end Go.Proofs.YtphamhlcoeodgaaGreatDoor.libTexts
