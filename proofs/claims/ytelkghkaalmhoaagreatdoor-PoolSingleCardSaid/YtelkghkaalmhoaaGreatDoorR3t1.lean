/- PoolSingle, runs: 3 shards, good is true, clients 4 to 7: the rest of the body comes to true. -/
import Derived.Test.YtelkghkaalmhoaaGreatDoorPieces
namespace Go.Proofs.YtelkghkaalmhoaaGreatDoor.Ps
open Go Go.TX
set_option maxRecDepth 1000000
theorem r3t4 : lastP EP 20000 136 Tryz.f9.results.toList c6 (mkTm (tmB v3 (.int .i64 3)) [1, 2] [.int .i64 4, .bool true]) (mkS k3 L3) = true := by kernel_rfl
theorem r3t5 : lastP EP 20000 136 Tryz.f9.results.toList c6 (mkTm (tmB v3 (.int .i64 3)) [1, 2] [.int .i64 5, .bool true]) (mkS k3 L3) = true := by kernel_rfl
theorem r3t6 : lastP EP 20000 136 Tryz.f9.results.toList c6 (mkTm (tmB v3 (.int .i64 3)) [1, 2] [.int .i64 6, .bool true]) (mkS k3 L3) = true := by kernel_rfl
theorem r3t7 : lastP EP 20000 136 Tryz.f9.results.toList c6 (mkTm (tmB v3 (.int .i64 3)) [1, 2] [.int .i64 7, .bool true]) (mkS k3 L3) = true := by kernel_rfl
end Go.Proofs.YtelkghkaalmhoaaGreatDoor.Ps
