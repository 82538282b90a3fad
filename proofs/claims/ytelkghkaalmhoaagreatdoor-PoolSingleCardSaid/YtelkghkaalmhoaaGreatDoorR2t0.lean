/- PoolSingle, runs: 2 shards, good is true, clients 0 to 3: the rest of the body comes to true. -/
import Derived.Test.YtelkghkaalmhoaaGreatDoorPieces
namespace Go.Proofs.YtelkghkaalmhoaaGreatDoor.Ps
open Go Go.TX
set_option maxRecDepth 1000000
theorem r2t0 : lastP EP 20000 136 Tryz.f9.results.toList c6 (mkTm (tmB v2 (.int .i64 2)) [1, 2] [.int .i64 0, .bool true]) (mkS k2 L2) = true := by kernel_rfl
theorem r2t1 : lastP EP 20000 136 Tryz.f9.results.toList c6 (mkTm (tmB v2 (.int .i64 2)) [1, 2] [.int .i64 1, .bool true]) (mkS k2 L2) = true := by kernel_rfl
theorem r2t2 : lastP EP 20000 136 Tryz.f9.results.toList c6 (mkTm (tmB v2 (.int .i64 2)) [1, 2] [.int .i64 2, .bool true]) (mkS k2 L2) = true := by kernel_rfl
theorem r2t3 : lastP EP 20000 136 Tryz.f9.results.toList c6 (mkTm (tmB v2 (.int .i64 2)) [1, 2] [.int .i64 3, .bool true]) (mkS k2 L2) = true := by kernel_rfl
end Go.Proofs.YtelkghkaalmhoaaGreatDoor.Ps
