/- 'solderlaw20.ExtentNone': the facts that its row asks of the program, looked at by the kernel. -/
import Derived.Test.YtpemgmbfkobmeaaGreatDoorRows
import Derived.JoinedOf
namespace Go.Proofs.YtpemgmbfkobmeaaGreatDoor
open Go Go.Proofs
theorem extentNone_facts : joinedFacts Tryz.pinned.checked.prog 5 Tryz.f5 Rows.extentNoneSpec Rows.extentNoneRow = true := by kernel_rfl
end Go.Proofs.YtpemgmbfkobmeaaGreatDoor
