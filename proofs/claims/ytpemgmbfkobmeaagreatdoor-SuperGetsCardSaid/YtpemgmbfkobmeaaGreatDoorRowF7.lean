/- 'solderlaw16.SuperGets': the facts that its row asks of the program, looked at by the kernel. -/
import Derived.Test.YtpemgmbfkobmeaaGreatDoorRows
import Derived.JoinedOf
namespace Go.Proofs.YtpemgmbfkobmeaaGreatDoor
open Go Go.Proofs
theorem superGets_facts : joinedFacts Tryz.pinned.checked.prog 7 Tryz.f7 Rows.superGetsSpec Rows.superGetsRow = true := by kernel_rfl
end Go.Proofs.YtpemgmbfkobmeaaGreatDoor
