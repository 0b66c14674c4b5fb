/- A closed fact of the card of LoomEnds. No statement of the seat is proved here. -/
import Derived.Test.YtmimnelcopgcpaaGreatDoorTie
import Derived.SevenTiedAt
set_option linter.unusedVariables false
set_option linter.unusedSimpArgs false
section
namespace Go.Proofs.YtmimnelcopgcpaaGreatDoor
open Go
theorem loomEndsGoes : false = Rows.loomEndsRow.goesBy Tryz.pinned.checked.prog := by kernel_rfl
end Go.Proofs.YtmimnelcopgcpaaGreatDoor
end
