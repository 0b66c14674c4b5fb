/- Closed facts of the card of LoomEnds. No statement of the seat is proved here. -/
import Derived.Test.YtmimnelcopgcpaaGreatDoorTie
import Derived.SevenTiedAt
set_option linter.unusedVariables false
set_option linter.unusedSimpArgs false
section
namespace Go.Proofs.YtmimnelcopgcpaaGreatDoor
open Go
theorem loomEndsWf : Rows.loomEndsRow.wfByText (OpenSpec.ofChange Rows.loomEndsSpec) = true := by kernel_rfl
theorem loomEndsMain : Tryz.pinned.checked.prog.mainIs = some (true, "9f3ba90a39830b65a17b71e828f5cd9e1a91d76ad1d4097e6bbfcde4b1545215".toList) := by kernel_rfl
theorem loomEndsNamed : Tryz.prog.funcNamed "staithe/staithelaw13.LoomEnds" = some 7 := by kernel_rfl
theorem loomEndsAlone : ([44].all fun u => !Tryz.prog.wantsStandIn u) = true := by kernel_rfl
theorem loomEndsLooks : false = Tryz.pinned.checked.prog.looks [] := by kernel_rfl
end Go.Proofs.YtmimnelcopgcpaaGreatDoor
end
