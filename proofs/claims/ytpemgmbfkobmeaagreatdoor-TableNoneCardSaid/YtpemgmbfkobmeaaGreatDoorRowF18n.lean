/- 'solderlaw18.TableNone': the facts that its row asks of the program, looked at by the kernel. -/
import Derived.Test.YtpemgmbfkobmeaaGreatDoorRows
import Derived.JoinedOf
namespace Go.Proofs.YtpemgmbfkobmeaaGreatDoor
open Go Go.Proofs
theorem tableNone_facts : joinedFacts Tryz.pinned.checked.prog 9 Tryz.f9 Rows.tableNoneSpec Rows.tableNoneRow = true := by kernel_rfl
end Go.Proofs.YtpemgmbfkobmeaaGreatDoor
