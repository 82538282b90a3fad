/- PoolSingle, runs: 3 shards, good is false, clients 0 to 3: the rest of the body comes to true. -/
import Derived.Test.YtelkghkaalmhoaaGreatDoorPieces
namespace Go.Proofs.YtelkghkaalmhoaaGreatDoor.Ps
open Go Go.TX
set_option maxRecDepth 1000000
theorem r3f0 : lastP EP 20000 136 Tryz.f9.results.toList c6 (mkTm (tmB v3 (.int .i64 3)) [1, 2] [.int .i64 0, .bool false]) (mkS k3 L3) = true := by kernel_rfl
theorem r3f1 : lastP EP 20000 136 Tryz.f9.results.toList c6 (mkTm (tmB v3 (.int .i64 3)) [1, 2] [.int .i64 1, .bool false]) (mkS k3 L3) = true := by kernel_rfl
theorem r3f2 : lastP EP 20000 136 Tryz.f9.results.toList c6 (mkTm (tmB v3 (.int .i64 3)) [1, 2] [.int .i64 2, .bool false]) (mkS k3 L3) = true := by kernel_rfl
theorem r3f3 : lastP EP 20000 136 Tryz.f9.results.toList c6 (mkTm (tmB v3 (.int .i64 3)) [1, 2] [.int .i64 3, .bool false]) (mkS k3 L3) = true := by kernel_rfl
end Go.Proofs.YtelkghkaalmhoaaGreatDoor.Ps
