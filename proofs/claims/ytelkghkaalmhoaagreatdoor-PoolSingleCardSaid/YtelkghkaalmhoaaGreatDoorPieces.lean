/-
PoolSingle, its pieces: from the first one to behind 'made', whatever the client, whatever is good.
-/
import Derived.Test.YtelkghkaalmhoaaGreatDoorBegun
namespace Go.Proofs.YtelkghkaalmhoaaGreatDoor.Ps
open Go Go.TX
set_option maxRecDepth 1000000

noncomputable def EP : Env := EE [12, 53, 158, 239, 238, 313, 311]
def lft : Code → Code
  | .seq a _ => a
  | c => c
def rgt : Code → Code
  | .seq _ b => b
  | c => c
noncomputable def c0 : Code := Tryz.f9.body.getD .skip
noncomputable def c1 : Code := rgt c0
noncomputable def c2 : Code := rgt c1
noncomputable def c3 : Code := rgt c2
noncomputable def c4 : Code := rgt c3
noncomputable def c5 : Code := rgt c4
noncomputable def c6 : Code := rgt c5
theorem e0 : c0 = .seq (lft c0) c1 := by kernel_rfl
theorem e1 : c1 = .seq (lft c1) c2 := by kernel_rfl
theorem e2 : c2 = .seq (lft c2) c3 := by kernel_rfl
theorem e3 : c3 = .seq (lft c3) c4 := by kernel_rfl
theorem e4 : c4 = .seq (lft c4) c5 := by kernel_rfl
theorem e5 : c5 = .seq (lft c5) c6 := by kernel_rfl

def nOf (n : Int) : Int := fwrap .i64 (1 + (fwrap .i64 (n.tmod 3 + 3)).tmod 3)
def cOf (c : Int) : Int := (fwrap .i64 (c.tmod 8 + 8)).tmod 8
noncomputable def S0 : TS := mkS 0 []
def u : List Nat → List (Nat × TV)
  | [] => []
  | t :: l => (t, .un) :: u l

noncomputable def start (x y z : TV) : Tm := layArgs [x, y, z] 0 .leaf
theorem p0 (x y z : TV) : segP EP 100 136 (lft c0) (start x y z) S0 0 [] [(6, .un)] [0, 1, 2] = some [some x, some y, some z] := by kernel_rfl
theorem p1 (x y z : TV) : segP EP 100 136 (lft c1) (mkTm [(6, .un)] [0, 1, 2] [x, y, z]) S0 0 [] [(6, .un), (7, .bool true), (18, .un)] [0, 1, 2] = some [some x, some y, some z] := by kernel_rfl
theorem p2 (x y z : TV) : segP EP 100 136 (lft c2) (mkTm [(6, .un), (7, .bool true), (18, .un)] [0, 1, 2] [x, y, z]) S0 0 [] (u [6, 7, 18, 19, 20]) [0, 1, 2] = some [some x, some y, some z] := by kernel_rfl
theorem p3 (n : Int) (y z : TV) : segP EP 100 136 (lft c3) (mkTm (u [6, 7, 18, 19, 20]) [0, 1, 2] [.int .i64 n, y, z]) S0 0 [] (u [6, 7, 18, 19, 20, 21, 22, 23, 24, 25]) [0, 1, 2] = some [some (.int .i64 (nOf n)), some y, some z] := by kernel_rfl
theorem p4 (c : Int) (x z : TV) : segP EP 100 136 (lft c4) (mkTm (u [6, 7, 18, 19, 20, 21, 22, 23, 24, 25]) [0, 1, 2] [x, .int .i64 c, z]) S0 0 [] (u [6, 7, 18, 19, 20, 21, 22, 23, 24, 25, 26, 27, 28, 29]) [0, 1, 2] = some [some x, some (.int .i64 (cOf c)), some z] := by kernel_rfl

/-- Behind 'made'. -/
noncomputable def tmB (v x : TV) : List (Nat × TV) := (8, v) :: (0, x) :: u [6, 7, 18, 19, 20, 21, 22, 23, 24, 25, 26, 27, 28, 29, 30, 31]
noncomputable def k1 : Nat := 521
noncomputable def v1 : TV := .ptr 1 0
noncomputable def L1 : List (Nat × TObj) := [
  (0, .map 30 [⟨.agg [.int .i64 8, .int .i64 1], .sl 455 0 1 3 none⟩] 1)
  , (1, .cells [.sl 15 0 1 1 none, .sl 491 0 4 0 none, .sl 452 0 2 1 none, .map 0] false)
  , (2, .map 9 [⟨.str ⟨⟨[113, 117, 101]⟩⟩, .ptr 342 0⟩, ⟨.str ⟨⟨[116, 97, 98]⟩⟩, .ptr 335 0⟩, ⟨.str ⟨⟨[116, 111, 112]⟩⟩, .ptr 348 0⟩] 3)
  , (3, .map 338 [] 3)
  , (4, .cells [.map 3] false)
  , (5, .map 30 [] 1)
  , (6, .map 30 [⟨.agg [.int .i64 8, .int .i64 1], .bool true⟩] 1)
  , (7, .cells [.map 6] false)
  , (8, .cells [.map 2, .ptr 4 0, .map 5, .ptr 7 0] false)
  , (9, .map 3 [⟨.int .i64 8, .int .i64 1⟩] 1)
  , (10, .map 30 [] 1)
  , (11, .map 3 [⟨.int .i64 8, .sl 408 0 4 1 none⟩] 1)
  , (12, .cells [.int .i64 1, .map 9, .map 10, .map 11] false)
  , (13, .cells [.int .i64 0, .int .i64 1, .int .i64 0, .ptr 8 0, .ptr 12 0] false)
  , (15, .cells [.ptr 13 0] false)
  , (335, .cells [.int .i64 1, .ptr 337 0, .nilp, .nilp] false)
  , (336, .map 9 [] 0)
  , (337, .cells [.map 336] false)
  , (342, .cells [.int .i64 2, .nilp, .ptr 343 0, .nilp] false)
  , (343, .cells [.int .i64 2, .nils, .nils, .int .i64 1] false)
  , (348, .cells [.int .i64 3, .nilp, .nilp, .ptr 350 0] false)
  , (349, .map 9 [] 0)
  , (350, .cells [.nils, .map 349] false)
  , (403, .cells [.str ⟨⟨[]⟩⟩, .str ⟨⟨[]⟩⟩, .str ⟨⟨[]⟩⟩] false)
  , (408, .cells [.int .i64 8, .int .i64 1, .int .i64 0, .sl 403 0 1 3 (some 3)] false)
  , (452, .cells [.int .i64 8, .int .i64 1] false)
  , (455, .cells [.int .i64 0, .int .i64 0, .int .i64 0] false)
  , (491, .cells [.int .i64 0, .int .i64 0, .nils, .nils] false)
]
noncomputable def k2 : Nat := 547
noncomputable def v2 : TV := .ptr 1 0
noncomputable def L2 : List (Nat × TObj) := [
  (0, .map 30 [⟨.agg [.int .i64 8, .int .i64 1], .sl 469 0 1 3 none⟩] 1)
  , (1, .cells [.sl 29 0 1 2 none, .sl 505 0 4 0 none, .sl 466 0 2 1 none, .map 0] false)
  , (2, .map 9 [⟨.str ⟨⟨[113, 117, 101]⟩⟩, .ptr 356 0⟩, ⟨.str ⟨⟨[116, 97, 98]⟩⟩, .ptr 349 0⟩, ⟨.str ⟨⟨[116, 111, 112]⟩⟩, .ptr 362 0⟩] 3)
  , (3, .map 338 [] 3)
  , (4, .cells [.map 3] false)
  , (5, .map 30 [] 1)
  , (6, .map 30 [⟨.agg [.int .i64 8, .int .i64 1], .bool true⟩] 1)
  , (7, .cells [.map 6] false)
  , (8, .cells [.map 2, .ptr 4 0, .map 5, .ptr 7 0] false)
  , (9, .map 3 [⟨.int .i64 8, .int .i64 1⟩] 1)
  , (10, .map 30 [] 1)
  , (11, .map 3 [⟨.int .i64 8, .sl 422 0 4 1 none⟩] 1)
  , (12, .cells [.int .i64 2, .map 9, .map 10, .map 11] false)
  , (13, .cells [.int .i64 0, .int .i64 2, .int .i64 0, .ptr 8 0, .ptr 12 0] false)
  , (16, .map 9 [] 0)
  , (17, .map 338 [] 0)
  , (18, .cells [.map 17] false)
  , (19, .map 30 [] 0)
  , (20, .map 30 [] 0)
  , (21, .cells [.map 20] false)
  , (22, .cells [.map 16, .ptr 18 0, .map 19, .ptr 21 0] false)
  , (23, .map 3 [] 0)
  , (24, .map 30 [] 0)
  , (25, .map 3 [] 0)
  , (26, .cells [.int .i64 2, .map 23, .map 24, .map 25] false)
  , (27, .cells [.int .i64 1, .int .i64 2, .int .i64 0, .ptr 22 0, .ptr 26 0] false)
  , (29, .cells [.ptr 13 0, .ptr 27 0] false)
  , (349, .cells [.int .i64 1, .ptr 351 0, .nilp, .nilp] false)
  , (350, .map 9 [] 0)
  , (351, .cells [.map 350] false)
  , (356, .cells [.int .i64 2, .nilp, .ptr 357 0, .nilp] false)
  , (357, .cells [.int .i64 2, .nils, .nils, .int .i64 1] false)
  , (362, .cells [.int .i64 3, .nilp, .nilp, .ptr 364 0] false)
  , (363, .map 9 [] 0)
  , (364, .cells [.nils, .map 363] false)
  , (417, .cells [.str ⟨⟨[]⟩⟩, .str ⟨⟨[]⟩⟩, .str ⟨⟨[]⟩⟩] false)
  , (422, .cells [.int .i64 8, .int .i64 1, .int .i64 0, .sl 417 0 1 3 (some 3)] false)
  , (466, .cells [.int .i64 8, .int .i64 1] false)
  , (469, .cells [.int .i64 0, .int .i64 0, .int .i64 0] false)
  , (505, .cells [.int .i64 0, .int .i64 0, .nils, .nils] false)
]
noncomputable def k3 : Nat := 769
noncomputable def v3 : TV := .ptr 1 0
noncomputable def L3 : List (Nat × TObj) := [
  (0, .map 30 [⟨.agg [.int .i64 8, .int .i64 1], .sl 603 0 1 3 none⟩] 1)
  , (1, .cells [.sl 43 0 1 3 none, .sl 713 0 4 0 none, .sl 600 0 2 1 none, .map 0] false)
  , (2, .map 9 [] 0)
  , (3, .map 338 [] 0)
  , (4, .cells [.map 3] false)
  , (5, .map 30 [] 0)
  , (6, .map 30 [] 0)
  , (7, .cells [.map 6] false)
  , (8, .cells [.map 2, .ptr 4 0, .map 5, .ptr 7 0] false)
  , (9, .map 3 [] 0)
  , (10, .map 30 [] 0)
  , (11, .map 3 [] 0)
  , (12, .cells [.int .i64 3, .map 9, .map 10, .map 11] false)
  , (13, .cells [.int .i64 0, .int .i64 3, .int .i64 0, .ptr 8 0, .ptr 12 0] false)
  , (16, .map 9 [⟨.str ⟨⟨[113, 117, 101]⟩⟩, .ptr 372 0⟩, ⟨.str ⟨⟨[116, 97, 98]⟩⟩, .ptr 365 0⟩] 2)
  , (17, .map 338 [] 2)
  , (18, .cells [.map 17] false)
  , (19, .map 30 [] 1)
  , (20, .map 30 [⟨.agg [.int .i64 8, .int .i64 1], .bool true⟩] 1)
  , (21, .cells [.map 20] false)
  , (22, .cells [.map 16, .ptr 18 0, .map 19, .ptr 21 0] false)
  , (23, .map 3 [] 0)
  , (24, .map 30 [] 0)
  , (25, .map 3 [] 0)
  , (26, .cells [.int .i64 3, .map 23, .map 24, .map 25] false)
  , (27, .cells [.int .i64 1, .int .i64 3, .int .i64 0, .ptr 22 0, .ptr 26 0] false)
  , (30, .map 9 [⟨.str ⟨⟨[116, 111, 112]⟩⟩, .ptr 451 0⟩] 1)
  , (31, .map 338 [] 1)
  , (32, .cells [.map 31] false)
  , (33, .map 30 [] 1)
  , (34, .map 30 [⟨.agg [.int .i64 8, .int .i64 1], .bool true⟩] 1)
  , (35, .cells [.map 34] false)
  , (36, .cells [.map 30, .ptr 32 0, .map 33, .ptr 35 0] false)
  , (37, .map 3 [⟨.int .i64 8, .int .i64 1⟩] 1)
  , (38, .map 30 [] 1)
  , (39, .map 3 [⟨.int .i64 8, .sl 542 0 4 1 none⟩] 1)
  , (40, .cells [.int .i64 3, .map 37, .map 38, .map 39] false)
  , (41, .cells [.int .i64 2, .int .i64 3, .int .i64 0, .ptr 36 0, .ptr 40 0] false)
  , (43, .cells [.ptr 13 0, .ptr 27 0, .ptr 41 0] false)
  , (365, .cells [.int .i64 1, .ptr 367 0, .nilp, .nilp] false)
  , (366, .map 9 [] 0)
  , (367, .cells [.map 366] false)
  , (372, .cells [.int .i64 2, .nilp, .ptr 373 0, .nilp] false)
  , (373, .cells [.int .i64 2, .nils, .nils, .int .i64 1] false)
  , (451, .cells [.int .i64 3, .nilp, .nilp, .ptr 453 0] false)
  , (452, .map 9 [] 0)
  , (453, .cells [.nils, .map 452] false)
  , (542, .cells [.int .i64 8, .int .i64 1, .int .i64 0, .sl 544 0 1 3 (some 3)] false)
  , (544, .cells [.str ⟨⟨[]⟩⟩, .str ⟨⟨[]⟩⟩, .str ⟨⟨[]⟩⟩] false)
  , (600, .cells [.int .i64 8, .int .i64 1] false)
  , (603, .cells [.int .i64 0, .int .i64 0, .int .i64 0] false)
  , (713, .cells [.int .i64 0, .int .i64 0, .nils, .nils] false)
]
theorem m1 (y z : TV) : segP EP 20000 136 (lft c5) (mkTm (u [6, 7, 18, 19, 20, 21, 22, 23, 24, 25, 26, 27, 28, 29]) [0, 1, 2] [.int .i64 1, y, z]) S0 k1 L1 (tmB v1 (.int .i64 1)) [1, 2] = some [some y, some z] := by kernel_rfl
theorem m2 (y z : TV) : segP EP 20000 136 (lft c5) (mkTm (u [6, 7, 18, 19, 20, 21, 22, 23, 24, 25, 26, 27, 28, 29]) [0, 1, 2] [.int .i64 2, y, z]) S0 k2 L2 (tmB v2 (.int .i64 2)) [1, 2] = some [some y, some z] := by kernel_rfl
theorem m3 (y z : TV) : segP EP 20000 136 (lft c5) (mkTm (u [6, 7, 18, 19, 20, 21, 22, 23, 24, 25, 26, 27, 28, 29]) [0, 1, 2] [.int .i64 3, y, z]) S0 k3 L3 (tmB v3 (.int .i64 3)) [1, 2] = some [some y, some z] := by kernel_rfl

end Go.Proofs.YtelkghkaalmhoaaGreatDoor.Ps
