/-
PoolSingle: its pieces one behind the other.
-/
import Derived.Test.YtelkghkaalmhoaaGreatDoorPieces
namespace Go.Proofs.YtelkghkaalmhoaaGreatDoor.Ps
open Go Go.TX
theorem hyE : Hyp EP := hy17
/-- What the rest of the body owes: of each number of shards, each client, either way. -/
def Rest : Prop := ∀ (c : Int) (g : Bool), 0 ≤ c → c < 8 →
  Good EP 136 Tryz.f9 c6 (mkTm (tmB v1 (.int .i64 1)) [1, 2] [.int .i64 c, .bool g]) (mkS k1 L1) ∧
  Good EP 136 Tryz.f9 c6 (mkTm (tmB v2 (.int .i64 2)) [1, 2] [.int .i64 c, .bool g]) (mkS k2 L2) ∧
  Good EP 136 Tryz.f9 c6 (mkTm (tmB v3 (.int .i64 3)) [1, 2] [.int .i64 c, .bool g]) (mkS k3 L3)

theorem fw_small {k : Int} (h : 0 ≤ k) (h2 : k < 1000) : fwrap .i64 k = k := by
  obtain ⟨m, rfl⟩ := Int.eq_ofNat_of_zero_le h
  have : Nat.ble m (ikMax .i64) = true := by rw [ble_iff]; simp only [ikMax]; omega
  show (match Nat.ble m (ikMax .i64) with | true => Int.ofNat m | false => IntKind.i64.wrap (Int.ofNat m)) = _
  rw [this]; rfl
theorem nOf_three (n : Int) : nOf n = 1 ∨ nOf n = 2 ∨ nOf n = 3 := by
  unfold nOf
  have h1 : -3 < n.tmod 3 := Int.lt_tmod_of_pos n (by omega)
  have h2 : n.tmod 3 < 3 := Int.tmod_lt_of_pos n (by omega)
  rw [fw_small (k := n.tmod 3 + 3) (by omega) (by omega)]
  have e : (n.tmod 3 + 3).tmod 3 = (n.tmod 3 + 3) % 3 := Int.tmod_eq_emod_of_nonneg (by omega)
  rw [e, fw_small (by omega) (by omega)]
  omega
theorem cOf_eight (c : Int) : 0 ≤ cOf c ∧ cOf c < 8 := by
  unfold cOf
  have h1 : -8 < c.tmod 8 := Int.lt_tmod_of_pos c (by omega)
  have h2 : c.tmod 8 < 8 := Int.tmod_lt_of_pos c (by omega)
  rw [fw_small (k := c.tmod 8 + 8) (by omega) (by omega)]
  have e : (c.tmod 8 + 8).tmod 8 = (c.tmod 8 + 8) % 8 := Int.tmod_eq_emod_of_nonneg (by omega)
  rw [e]
  omega

theorem whole (h : Rest) (n c : Int) (g : Bool) : Good EP 136 Tryz.f9 c0 (start (.int .i64 n) (.int .i64 c) (.bool g)) S0 := by
  rw [e0]
  refine good_seg (n := 100) (ps := [0, 1, 2]) (vs := [.int .i64 n, .int .i64 c, .bool g]) hyE rfl (p0 _ _ _) ?_
  rw [e1]
  refine good_seg (n := 100) (ps := [0, 1, 2]) (vs := [.int .i64 n, .int .i64 c, .bool g]) hyE rfl (p1 _ _ _) ?_
  rw [e2]
  refine good_seg (n := 100) (ps := [0, 1, 2]) (vs := [.int .i64 n, .int .i64 c, .bool g]) hyE rfl (p2 _ _ _) ?_
  rw [e3]
  refine good_seg (n := 100) (ps := [0, 1, 2]) (vs := [.int .i64 (nOf n), .int .i64 c, .bool g]) hyE rfl (p3 n _ _) ?_
  rw [e4]
  refine good_seg (n := 100) (ps := [0, 1, 2]) (vs := [.int .i64 (nOf n), .int .i64 (cOf c), .bool g]) hyE rfl (p4 c _ _) ?_
  rw [e5]
  obtain ⟨b1, b2⟩ := cOf_eight c
  obtain ⟨h1, h2, h3⟩ := h (cOf c) g b1 b2
  rcases nOf_three n with e | e | e
  · rw [e]; exact good_seg (n := 20000) (ps := [1, 2]) (vs := [.int .i64 (cOf c), .bool g]) hyE rfl (m1 _ _) h1
  · rw [e]; exact good_seg (n := 20000) (ps := [1, 2]) (vs := [.int .i64 (cOf c), .bool g]) hyE rfl (m2 _ _) h2
  · rw [e]; exact good_seg (n := 20000) (ps := [1, 2]) (vs := [.int .i64 (cOf c), .bool g]) hyE rfl (m3 _ _) h3

theorem calls (h : Rest) (n c : Int) (g : Bool) (w : World) : Calls Tryz.prog 9 #[.int .i64 n, .int .i64 c, .bool g] w fun e w' => e = .returned (.bool true) ∧ Go.RowKit.Below w.heap.size w w' := by
  refine good_calls (E := EP) (fn := Tryz.f9) (body := c0) (args := [.int .i64 n, .int .i64 c, .bool g]) Tryz.func9 (hb (by kernel_rfl)) ?_ ?_ ?_ (whole h n c g) w
  · show rels _ [.int .i64 n, .int .i64 c, .bool g] [.int .i64 n, .int .i64 c, .bool g]
    simp only [rels, TX.rel]
    exact ⟨_, _, rfl, rfl, _, _, rfl, rfl, _, _, rfl, rfl, rfl⟩
  · show 3 ≤ Tryz.f9.ntmps
    rw [show Tryz.f9.ntmps = 136 by kernel_rfl]; omega
  · rw [show Tryz.f9.ntmps = 136 by kernel_rfl]; unfold top; omega
end Go.Proofs.YtelkghkaalmhoaaGreatDoor.Ps
