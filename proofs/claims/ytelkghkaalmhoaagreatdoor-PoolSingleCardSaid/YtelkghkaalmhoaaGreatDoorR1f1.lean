/- PoolSingle, runs: 1 shards, good is false, clients 4 to 7: the rest of the body comes to true. -/
import Derived.Test.YtelkghkaalmhoaaGreatDoorPieces
namespace Go.Proofs.YtelkghkaalmhoaaGreatDoor.Ps
open Go Go.TX
set_option maxRecDepth 1000000
theorem r1f4 : lastP EP 20000 136 Tryz.f9.results.toList c6 (mkTm (tmB v1 (.int .i64 1)) [1, 2] [.int .i64 4, .bool false]) (mkS k1 L1) = true := by kernel_rfl
theorem r1f5 : lastP EP 20000 136 Tryz.f9.results.toList c6 (mkTm (tmB v1 (.int .i64 1)) [1, 2] [.int .i64 5, .bool false]) (mkS k1 L1) = true := by kernel_rfl
theorem r1f6 : lastP EP 20000 136 Tryz.f9.results.toList c6 (mkTm (tmB v1 (.int .i64 1)) [1, 2] [.int .i64 6, .bool false]) (mkS k1 L1) = true := by kernel_rfl
theorem r1f7 : lastP EP 20000 136 Tryz.f9.results.toList c6 (mkTm (tmB v1 (.int .i64 1)) [1, 2] [.int .i64 7, .bool false]) (mkS k1 L1) = true := by kernel_rfl
end Go.Proofs.YtelkghkaalmhoaaGreatDoor.Ps
