/- PoolSingle, runs: 2 shards, good is true, clients 4 to 7: the rest of the body comes to true. -/
import Derived.Test.YtelkghkaalmhoaaGreatDoorPieces
namespace Go.Proofs.YtelkghkaalmhoaaGreatDoor.Ps
open Go Go.TX
set_option maxRecDepth 1000000
theorem r2t4 : lastP EP 20000 136 Tryz.f9.results.toList c6 (mkTm (tmB v2 (.int .i64 2)) [1, 2] [.int .i64 4, .bool true]) (mkS k2 L2) = true := by kernel_rfl
theorem r2t5 : lastP EP 20000 136 Tryz.f9.results.toList c6 (mkTm (tmB v2 (.int .i64 2)) [1, 2] [.int .i64 5, .bool true]) (mkS k2 L2) = true := by kernel_rfl
theorem r2t6 : lastP EP 20000 136 Tryz.f9.results.toList c6 (mkTm (tmB v2 (.int .i64 2)) [1, 2] [.int .i64 6, .bool true]) (mkS k2 L2) = true := by kernel_rfl
theorem r2t7 : lastP EP 20000 136 Tryz.f9.results.toList c6 (mkTm (tmB v2 (.int .i64 2)) [1, 2] [.int .i64 7, .bool true]) (mkS k2 L2) = true := by kernel_rfl
end Go.Proofs.YtelkghkaalmhoaaGreatDoor.Ps
