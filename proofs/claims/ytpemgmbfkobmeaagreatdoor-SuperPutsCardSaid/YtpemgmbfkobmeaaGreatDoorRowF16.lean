/- 'solderlaw16.SuperPuts': the facts that its row asks of the program, looked at by the kernel. -/
import Derived.Test.YtpemgmbfkobmeaaGreatDoorRows
import Derived.JoinedOf
namespace Go.Proofs.YtpemgmbfkobmeaaGreatDoor
open Go Go.Proofs
theorem superPuts_facts : joinedFacts Tryz.pinned.checked.prog 6 Tryz.f6 Rows.superPutsSpec Rows.superPutsRow = true := by kernel_rfl
end Go.Proofs.YtpemgmbfkobmeaaGreatDoor
