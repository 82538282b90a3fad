/-
PoolSingle: the card's fact on goroutines.
-/
import Derived.Test.YtelkghkaalmhoaaGreatDoorRows
import Derived.SevenTiedAt
namespace Go.Proofs.YtelkghkaalmhoaaGreatDoor.Ps
open Go
theorem goes : false = OpenClaim.goesBy Rows.poolSingleRow Tryz.pinned.checked.prog := by kernel_rfl
theorem looks : true = Tryz.pinned.checked.prog.looks [] := by kernel_rfl
end Go.Proofs.YtelkghkaalmhoaaGreatDoor.Ps
