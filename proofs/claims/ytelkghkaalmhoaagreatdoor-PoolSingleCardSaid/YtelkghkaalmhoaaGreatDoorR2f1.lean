/- PoolSingle, runs: 2 shards, good is false, clients 4 to 7: the rest of the body comes to true. -/
import Derived.Test.YtelkghkaalmhoaaGreatDoorPieces
namespace Go.Proofs.YtelkghkaalmhoaaGreatDoor.Ps
open Go Go.TX
set_option maxRecDepth 1000000
theorem r2f4 : lastP EP 20000 136 Tryz.f9.results.toList c6 (mkTm (tmB v2 (.int .i64 2)) [1, 2] [.int .i64 4, .bool false]) (mkS k2 L2) = true := by kernel_rfl
theorem r2f5 : lastP EP 20000 136 Tryz.f9.results.toList c6 (mkTm (tmB v2 (.int .i64 2)) [1, 2] [.int .i64 5, .bool false]) (mkS k2 L2) = true := by kernel_rfl
theorem r2f6 : lastP EP 20000 136 Tryz.f9.results.toList c6 (mkTm (tmB v2 (.int .i64 2)) [1, 2] [.int .i64 6, .bool false]) (mkS k2 L2) = true := by kernel_rfl
theorem r2f7 : lastP EP 20000 136 Tryz.f9.results.toList c6 (mkTm (tmB v2 (.int .i64 2)) [1, 2] [.int .i64 7, .bool false]) (mkS k2 L2) = true := by kernel_rfl
end Go.Proofs.YtelkghkaalmhoaaGreatDoor.Ps
