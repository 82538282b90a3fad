/- PoolSingle, runs: 1 shards, good is true, clients 4 to 7: the rest of the body comes to true. -/
import Derived.Test.YtelkghkaalmhoaaGreatDoorPieces
namespace Go.Proofs.YtelkghkaalmhoaaGreatDoor.Ps
open Go Go.TX
set_option maxRecDepth 1000000
theorem r1t4 : lastP EP 20000 136 Tryz.f9.results.toList c6 (mkTm (tmB v1 (.int .i64 1)) [1, 2] [.int .i64 4, .bool true]) (mkS k1 L1) = true := by kernel_rfl
theorem r1t5 : lastP EP 20000 136 Tryz.f9.results.toList c6 (mkTm (tmB v1 (.int .i64 1)) [1, 2] [.int .i64 5, .bool true]) (mkS k1 L1) = true := by kernel_rfl
theorem r1t6 : lastP EP 20000 136 Tryz.f9.results.toList c6 (mkTm (tmB v1 (.int .i64 1)) [1, 2] [.int .i64 6, .bool true]) (mkS k1 L1) = true := by kernel_rfl
theorem r1t7 : lastP EP 20000 136 Tryz.f9.results.toList c6 (mkTm (tmB v1 (.int .i64 1)) [1, 2] [.int .i64 7, .bool true]) (mkS k1 L1) = true := by kernel_rfl
end Go.Proofs.YtelkghkaalmhoaaGreatDoor.Ps
