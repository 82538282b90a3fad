/- PoolSingle: all 48 runs at once: what the rest of the body owes. -/
import Derived.Test.YtelkghkaalmhoaaGreatDoorWhole
import Derived.Test.YtelkghkaalmhoaaGreatDoorR1t0
import Derived.Test.YtelkghkaalmhoaaGreatDoorR1t1
import Derived.Test.YtelkghkaalmhoaaGreatDoorR1f0
import Derived.Test.YtelkghkaalmhoaaGreatDoorR1f1
import Derived.Test.YtelkghkaalmhoaaGreatDoorR2t0
import Derived.Test.YtelkghkaalmhoaaGreatDoorR2t1
import Derived.Test.YtelkghkaalmhoaaGreatDoorR2f0
import Derived.Test.YtelkghkaalmhoaaGreatDoorR2f1
import Derived.Test.YtelkghkaalmhoaaGreatDoorR3t0
import Derived.Test.YtelkghkaalmhoaaGreatDoorR3t1
import Derived.Test.YtelkghkaalmhoaaGreatDoorR3f0
import Derived.Test.YtelkghkaalmhoaaGreatDoorR3f1
namespace Go.Proofs.YtelkghkaalmhoaaGreatDoor.Ps
open Go Go.TX
theorem d1 (c : Int) (g : Bool) (h0 : 0 ≤ c) (h8 : c < 8) : Good EP 136 Tryz.f9 c6 (mkTm (tmB v1 (.int .i64 1)) [1, 2] [.int .i64 c, .bool g]) (mkS k1 L1) := by
  have h : c = 0 ∨ c = 1 ∨ c = 2 ∨ c = 3 ∨ c = 4 ∨ c = 5 ∨ c = 6 ∨ c = 7 := by omega
  cases g
  · rcases h with rfl | rfl | rfl | rfl | rfl | rfl | rfl | rfl
    · exact good_end (n := 20000) hyE r1f0
    · exact good_end (n := 20000) hyE r1f1
    · exact good_end (n := 20000) hyE r1f2
    · exact good_end (n := 20000) hyE r1f3
    · exact good_end (n := 20000) hyE r1f4
    · exact good_end (n := 20000) hyE r1f5
    · exact good_end (n := 20000) hyE r1f6
    · exact good_end (n := 20000) hyE r1f7
  · rcases h with rfl | rfl | rfl | rfl | rfl | rfl | rfl | rfl
    · exact good_end (n := 20000) hyE r1t0
    · exact good_end (n := 20000) hyE r1t1
    · exact good_end (n := 20000) hyE r1t2
    · exact good_end (n := 20000) hyE r1t3
    · exact good_end (n := 20000) hyE r1t4
    · exact good_end (n := 20000) hyE r1t5
    · exact good_end (n := 20000) hyE r1t6
    · exact good_end (n := 20000) hyE r1t7
theorem d2 (c : Int) (g : Bool) (h0 : 0 ≤ c) (h8 : c < 8) : Good EP 136 Tryz.f9 c6 (mkTm (tmB v2 (.int .i64 2)) [1, 2] [.int .i64 c, .bool g]) (mkS k2 L2) := by
  have h : c = 0 ∨ c = 1 ∨ c = 2 ∨ c = 3 ∨ c = 4 ∨ c = 5 ∨ c = 6 ∨ c = 7 := by omega
  cases g
  · rcases h with rfl | rfl | rfl | rfl | rfl | rfl | rfl | rfl
    · exact good_end (n := 20000) hyE r2f0
    · exact good_end (n := 20000) hyE r2f1
    · exact good_end (n := 20000) hyE r2f2
    · exact good_end (n := 20000) hyE r2f3
    · exact good_end (n := 20000) hyE r2f4
    · exact good_end (n := 20000) hyE r2f5
    · exact good_end (n := 20000) hyE r2f6
    · exact good_end (n := 20000) hyE r2f7
  · rcases h with rfl | rfl | rfl | rfl | rfl | rfl | rfl | rfl
    · exact good_end (n := 20000) hyE r2t0
    · exact good_end (n := 20000) hyE r2t1
    · exact good_end (n := 20000) hyE r2t2
    · exact good_end (n := 20000) hyE r2t3
    · exact good_end (n := 20000) hyE r2t4
    · exact good_end (n := 20000) hyE r2t5
    · exact good_end (n := 20000) hyE r2t6
    · exact good_end (n := 20000) hyE r2t7
theorem d3 (c : Int) (g : Bool) (h0 : 0 ≤ c) (h8 : c < 8) : Good EP 136 Tryz.f9 c6 (mkTm (tmB v3 (.int .i64 3)) [1, 2] [.int .i64 c, .bool g]) (mkS k3 L3) := by
  have h : c = 0 ∨ c = 1 ∨ c = 2 ∨ c = 3 ∨ c = 4 ∨ c = 5 ∨ c = 6 ∨ c = 7 := by omega
  cases g
  · rcases h with rfl | rfl | rfl | rfl | rfl | rfl | rfl | rfl
    · exact good_end (n := 20000) hyE r3f0
    · exact good_end (n := 20000) hyE r3f1
    · exact good_end (n := 20000) hyE r3f2
    · exact good_end (n := 20000) hyE r3f3
    · exact good_end (n := 20000) hyE r3f4
    · exact good_end (n := 20000) hyE r3f5
    · exact good_end (n := 20000) hyE r3f6
    · exact good_end (n := 20000) hyE r3f7
  · rcases h with rfl | rfl | rfl | rfl | rfl | rfl | rfl | rfl
    · exact good_end (n := 20000) hyE r3t0
    · exact good_end (n := 20000) hyE r3t1
    · exact good_end (n := 20000) hyE r3t2
    · exact good_end (n := 20000) hyE r3t3
    · exact good_end (n := 20000) hyE r3t4
    · exact good_end (n := 20000) hyE r3t5
    · exact good_end (n := 20000) hyE r3t6
    · exact good_end (n := 20000) hyE r3t7
theorem done : Rest := fun c g h0 h8 => ⟨d1 c g h0 h8, d2 c g h0 h8, d3 c g h0 h8⟩
end Go.Proofs.YtelkghkaalmhoaaGreatDoor.Ps
