/- What each function of the program computes, as equations. No condition. -/
import Derived.Test.YthkmjjdpfcghcaaDoorPST
import Derived.KernelRfl
set_option linter.unusedVariables false
set_option maxRecDepth 100000
set_option maxHeartbeats 0
namespace Go.AM.PS
open Go.Proofs
noncomputable def F5 (a0 : Int) (a1 : Int) : Option (((Bool × Unit) × Unit)) := callI E Fn G 5 (a0, a1, ())
noncomputable def F5_J7 (x0 : Int) (x1 : Int) (x2 : List ((Int × (Int × Bool)))) (x3 : List (Int)) (x4 : List (Int)) : Option (((Bool × Unit) × Unit)) := partJ E Fn G h5 Tryd.f5 (E.sig 5) 7 [1, 1, 1, 1, 1, 1] ⟨[(0, .one (.of (.int .i64) x0)), (1, .one (.of (.int .i64) x1)), (5, .one (.of (.list (.pair (.int .u8) (.pair (.int .i64) .bool))) x2)), (6, .one (.of (.list (.int .u8)) x3)), (8, .one (.of (.list (.int .u8)) x4))], 0, []⟩
noncomputable def F5_J10 (x0 : Int) (x1 : Int) (x2 : List ((Int × (Int × Bool)))) (x3 : List (Int)) (x4 : List (Int)) (x5 : Int) (x6 : Int) : Option (((Bool × Unit) × Unit)) := partJ E Fn G h5 Tryd.f5 (E.sig 5) 10 [1, 1, 1, 1, 1, 1, 1, 1] ⟨[(0, .one (.of (.int .i64) x0)), (1, .one (.of (.int .i64) x1)), (5, .one (.of (.list (.pair (.int .u8) (.pair (.int .i64) .bool))) x2)), (6, .one (.of (.list (.int .u8)) x3)), (8, .one (.of (.list (.int .u8)) x4)), (13, .one (.of (.int .i64) x5)), (14, .one (.of (.int .i64) x6))], 0, []⟩
noncomputable def F5_J12 (x0 : Int) (x1 : Int) (x2 : List ((Int × (Int × Bool)))) (x3 : List (Int)) (x4 : List (Int)) (x5 : Int) (x6 : Int) : Option (((Bool × Unit) × Unit)) := partJ E Fn G h5 Tryd.f5 (E.sig 5) 12 [1, 1, 1, 1, 1, 1, 1, 1, 1] ⟨[(0, .one (.of (.int .i64) x0)), (1, .one (.of (.int .i64) x1)), (5, .one (.of (.list (.pair (.int .u8) (.pair (.int .i64) .bool))) x2)), (6, .one (.of (.list (.int .u8)) x3)), (8, .one (.of (.list (.int .u8)) x4)), (13, .one (.of (.int .i64) x5)), (14, .one (.of (.int .i64) x6))], 0, []⟩
noncomputable def F5_J14 (x0 : List ((Int × (Int × Bool)))) (x1 : List (Int)) : Option (((Bool × Unit) × Unit)) := partJ E Fn G h5 Tryd.f5 (E.sig 5) 14 [1, 1, 1, 1, 1, 1, 1, 1, 1, 1] ⟨[(5, .one (.of (.list (.pair (.int .u8) (.pair (.int .i64) .bool))) x0)), (6, .one (.of (.list (.int .u8)) x1))], 0, []⟩
noncomputable def F17 (a0 : Int) : Option ((((Int × ((Bool × List (Int)) × ((Bool × List (Int)) × (List UInt8 × Int)))) × Unit) × Unit)) := callI E Fn G 17 (a0, ())
noncomputable def F33 (a0 : Int) : Option ((((Bool × List (Int)) × Unit) × Unit)) := callI E Fn G 33 (a0, ())
noncomputable def F33_J4 (x0 : Int) (x1 : Int) (x2 : Bool) : Option ((((Bool × List (Int)) × Unit) × Unit)) := partJ E Fn G h33 Tryd.f33 (E.sig 33) 4 [1, 1, 1] ⟨[(0, .one (.of (.int .i64) x0)), (2, .one (.ptr 0 0)), (3, .one (.of (.int .u64) x1))], 1, [(0, some (.cell [.of .bool x2, .raw (.slice none 0 0)]))]⟩
noncomputable def F33_L5 (x0 : Int) (x1 : Bool) (x2 : List (Int)) : Option ((((Bool × List (Int)) × Unit) × Unit)) := partL E Fn G h33 Tryd.f33 (E.sig 33) 5 [1, 1, 1, 1, 0, 0] ⟨[(0, .one (.of (.int .i64) x0)), (2, .one (.ptr 0 0)), (4, .one (.view 1))], 2, [(0, some (.cell [.of .bool x1, .raw (.slice none 0 0)])), (1, some (.row 87 (.int .u32) x2))]⟩
noncomputable def F33_J6 (x0 : Int) (x1 : Bool) (x2 : List (Int)) : Option ((((Bool × List (Int)) × Unit) × Unit)) := partJ E Fn G h33 Tryd.f33 (E.sig 33) 6 [1, 1, 1, 1, 0, 0, 0, 1] ⟨[(0, .one (.of (.int .i64) x0)), (2, .one (.ptr 0 0)), (4, .one (.view 1))], 2, [(0, some (.cell [.of .bool x1, .raw (.slice none 0 0)])), (1, some (.row 87 (.int .u32) x2))]⟩
noncomputable def F33_J7 (x0 : Int) (x1 : Bool) (x2 : List (Int)) : Option ((((Bool × List (Int)) × Unit) × Unit)) := partJ E Fn G h33 Tryd.f33 (E.sig 33) 7 [1, 1, 1, 1, 1] ⟨[(0, .one (.of (.int .i64) x0)), (2, .one (.ptr 0 0)), (4, .one (.view 1))], 2, [(0, some (.cell [.of .bool x1, .raw (.slice none 0 0)])), (1, some (.row 87 (.int .u32) x2))]⟩
noncomputable def F33_L5_1 (x0 : Int) (x1 : List (Int)) (x2 : Bool) : Option ((((Bool × List (Int)) × Unit) × Unit)) := partL E Fn G h33 Tryd.f33 (E.sig 33) 5 [1, 1, 1, 1, 0, 0] ⟨[(0, .one (.of (.int .i64) x0)), (2, .one (.ptr 0 0)), (4, .one (.of (.list (.int .u32)) x1))], 1, [(0, some (.cell [.of .bool x2, .raw (.slice none 0 0)]))]⟩
noncomputable def F33_J6_1 (x0 : Int) (x1 : List (Int)) (x2 : Bool) : Option ((((Bool × List (Int)) × Unit) × Unit)) := partJ E Fn G h33 Tryd.f33 (E.sig 33) 6 [1, 1, 1, 1, 0, 0, 0, 1] ⟨[(0, .one (.of (.int .i64) x0)), (2, .one (.ptr 0 0)), (4, .one (.of (.list (.int .u32)) x1))], 1, [(0, some (.cell [.of .bool x2, .raw (.slice none 0 0)]))]⟩
noncomputable def F33_J7_1 (x0 : Int) (x1 : List (Int)) (x2 : Bool) : Option ((((Bool × List (Int)) × Unit) × Unit)) := partJ E Fn G h33 Tryd.f33 (E.sig 33) 7 [1, 1, 1, 1, 1] ⟨[(0, .one (.of (.int .i64) x0)), (2, .one (.ptr 0 0)), (4, .one (.of (.list (.int .u32)) x1))], 1, [(0, some (.cell [.of .bool x2, .raw (.slice none 0 0)]))]⟩
noncomputable def F6 (a0 : List ((Int × (Int × Bool)))) (a1 : List ((Int × ((Bool × List (Int)) × ((Bool × List (Int)) × (List UInt8 × Int)))))) : Option (((List (Int) × ((Int × Int) × Unit)) × Unit)) := callI E Fn G 6 (a0, a1, ())
noncomputable def F6_J4 (x0 : List ((Int × (Int × Bool)))) (x1 : List ((Int × ((Bool × List (Int)) × ((Bool × List (Int)) × (List UInt8 × Int)))))) (x2 : Int) (x3 : Int) : Option (((List (Int) × ((Int × Int) × Unit)) × Unit)) := partJ E Fn G h6 Tryd.f6 (E.sig 6) 4 [1, 1] ⟨[(0, .one (.of (.list (.pair (.int .u8) (.pair (.int .i64) .bool))) x0)), (1, .one (.of (.list (.pair (.int .i64) (.pair (.pair .bool (.list (.int .u32))) (.pair (.pair .bool (.list (.int .u32))) (.pair .str (.int .i64)))))) x1)), (5, .one (.ptr 0 0))], 1, [(0, some (.cell [.of (.int .i64) x2, .of (.int .i64) x3]))]⟩
noncomputable def F6_J6 (x0 : List ((Int × (Int × Bool)))) (x1 : List ((Int × ((Bool × List (Int)) × ((Bool × List (Int)) × (List UInt8 × Int)))))) (x2 : Int) (x3 : Int) : Option (((List (Int) × ((Int × Int) × Unit)) × Unit)) := partJ E Fn G h6 Tryd.f6 (E.sig 6) 6 [1, 1, 1] ⟨[(0, .one (.of (.list (.pair (.int .u8) (.pair (.int .i64) .bool))) x0)), (1, .one (.of (.list (.pair (.int .i64) (.pair (.pair .bool (.list (.int .u32))) (.pair (.pair .bool (.list (.int .u32))) (.pair .str (.int .i64)))))) x1)), (5, .one (.ptr 0 0))], 1, [(0, some (.cell [.of (.int .i64) x2, .of (.int .i64) x3]))]⟩
noncomputable def F6_L9 (x0 : List ((Int × ((Bool × List (Int)) × ((Bool × List (Int)) × (List UInt8 × Int)))))) (x1 : Int) (x2 : List ((Int × (Int × Bool)))) (x3 : Int) (x4 : Int) (x5 : Int) (x6 : Int) (x7 : List (Int)) : Option (((List (Int) × ((Int × Int) × Unit)) × Unit)) := partL E Fn G h6 Tryd.f6 (E.sig 6) 9 [1, 1, 1, 1, 1, 0, 1, 0] ⟨[(1, .one (.of (.list (.pair (.int .i64) (.pair (.pair .bool (.list (.int .u32))) (.pair (.pair .bool (.list (.int .u32))) (.pair .str (.int .i64)))))) x0)), (5, .one (.ptr 0 0)), (7, .one (.view 1)), (8, .one (.of (.int .i64) x1)), (25, .one (.of (.list (.pair (.int .u8) (.pair (.int .i64) .bool))) x2)), (26, .one (.of (.int .i64) x3)), (27, .one (.of (.int .i64) x4))], 2, [(0, some (.cell [.of (.int .i64) x5, .of (.int .i64) x6])), (1, some (.row 5 (.int .u8) x7))]⟩
noncomputable def F6_J10 (x0 : List ((Int × ((Bool × List (Int)) × ((Bool × List (Int)) × (List UInt8 × Int)))))) (x1 : Int) (x2 : List ((Int × (Int × Bool)))) (x3 : Int) (x4 : Int) (x5 : Int) (x6 : Int) (x7 : List (Int)) : Option (((List (Int) × ((Int × Int) × Unit)) × Unit)) := partJ E Fn G h6 Tryd.f6 (E.sig 6) 10 [1, 1, 1, 1, 1, 0, 1, 0, 0, 1, 1] ⟨[(1, .one (.of (.list (.pair (.int .i64) (.pair (.pair .bool (.list (.int .u32))) (.pair (.pair .bool (.list (.int .u32))) (.pair .str (.int .i64)))))) x0)), (5, .one (.ptr 0 0)), (7, .one (.view 1)), (8, .one (.of (.int .i64) x1)), (25, .one (.of (.list (.pair (.int .u8) (.pair (.int .i64) .bool))) x2)), (26, .one (.of (.int .i64) x3)), (27, .one (.of (.int .i64) x4))], 2, [(0, some (.cell [.of (.int .i64) x5, .of (.int .i64) x6])), (1, some (.row 5 (.int .u8) x7))]⟩
noncomputable def F6_J21 (x0 : Int) (x1 : Int) (x2 : List (Int)) : Option (((List (Int) × ((Int × Int) × Unit)) × Unit)) := partJ E Fn G h6 Tryd.f6 (E.sig 6) 21 [1, 1, 1, 1, 1, 1] ⟨[(5, .one (.ptr 0 0)), (7, .one (.view 1))], 2, [(0, some (.cell [.of (.int .i64) x0, .of (.int .i64) x1])), (1, some (.row 5 (.int .u8) x2))]⟩
noncomputable def F6_J13 (x0 : List ((Int × ((Bool × List (Int)) × ((Bool × List (Int)) × (List UInt8 × Int)))))) (x1 : Int) (x2 : List ((Int × (Int × Bool)))) (x3 : Int) (x4 : Int) (x5 : Int) (x6 : Int) (x7 : List (Int)) (x8 : Int) (x9 : Int) (x10 : Bool) : Option (((List (Int) × ((Int × Int) × Unit)) × Unit)) := partJ E Fn G h6 Tryd.f6 (E.sig 6) 13 [1, 1, 1, 1, 1, 0, 1, 0, 0, 1, 1, 0, 0, 1, 1] ⟨[(1, .one (.of (.list (.pair (.int .i64) (.pair (.pair .bool (.list (.int .u32))) (.pair (.pair .bool (.list (.int .u32))) (.pair .str (.int .i64)))))) x0)), (5, .one (.ptr 0 0)), (7, .one (.view 1)), (8, .one (.of (.int .i64) x1)), (10, .one (.ptr 2 0)), (25, .one (.of (.list (.pair (.int .u8) (.pair (.int .i64) .bool))) x2)), (26, .one (.of (.int .i64) x3)), (27, .one (.of (.int .i64) x4))], 3, [(0, some (.cell [.of (.int .i64) x5, .of (.int .i64) x6])), (1, some (.row 5 (.int .u8) x7)), (2, some (.cell [.of (.int .u8) x8, .of (.int .i64) x9, .of .bool x10]))]⟩
noncomputable def F6_J15 (x0 : List ((Int × ((Bool × List (Int)) × ((Bool × List (Int)) × (List UInt8 × Int)))))) (x1 : Int) (x2 : List ((Int × (Int × Bool)))) (x3 : Int) (x4 : Int) (x5 : Int) (x6 : Int) (x7 : List (Int)) (x8 : Int) (x9 : Int) (x10 : Bool) : Option (((List (Int) × ((Int × Int) × Unit)) × Unit)) := partJ E Fn G h6 Tryd.f6 (E.sig 6) 15 [1, 1, 1, 1, 1, 0, 1, 0, 0, 1, 1, 0, 0, 1, 1, 1] ⟨[(1, .one (.of (.list (.pair (.int .i64) (.pair (.pair .bool (.list (.int .u32))) (.pair (.pair .bool (.list (.int .u32))) (.pair .str (.int .i64)))))) x0)), (5, .one (.ptr 0 0)), (7, .one (.view 1)), (8, .one (.of (.int .i64) x1)), (10, .one (.ptr 2 0)), (25, .one (.of (.list (.pair (.int .u8) (.pair (.int .i64) .bool))) x2)), (26, .one (.of (.int .i64) x3)), (27, .one (.of (.int .i64) x4))], 3, [(0, some (.cell [.of (.int .i64) x5, .of (.int .i64) x6])), (1, some (.row 5 (.int .u8) x7)), (2, some (.cell [.of (.int .u8) x8, .of (.int .i64) x9, .of .bool x10]))]⟩
noncomputable def F6_J18 (x0 : List ((Int × ((Bool × List (Int)) × ((Bool × List (Int)) × (List UInt8 × Int)))))) (x1 : Int) (x2 : List ((Int × (Int × Bool)))) (x3 : Int) (x4 : Int) (x5 : Int) (x6 : Int) (x7 : List (Int)) : Option (((List (Int) × ((Int × Int) × Unit)) × Unit)) := partJ E Fn G h6 Tryd.f6 (E.sig 6) 18 [1, 1, 1, 1, 1, 0, 1, 0, 0, 1, 1, 0, 0, 1, 1, 1, 1, 1] ⟨[(1, .one (.of (.list (.pair (.int .i64) (.pair (.pair .bool (.list (.int .u32))) (.pair (.pair .bool (.list (.int .u32))) (.pair .str (.int .i64)))))) x0)), (5, .one (.ptr 0 0)), (8, .one (.of (.int .i64) x1)), (11, .one (.view 1)), (25, .one (.of (.list (.pair (.int .u8) (.pair (.int .i64) .bool))) x2)), (26, .one (.of (.int .i64) x3)), (27, .one (.of (.int .i64) x4))], 2, [(0, some (.cell [.of (.int .i64) x5, .of (.int .i64) x6])), (1, some (.row 5 (.int .u8) x7))]⟩
noncomputable def F6_J20 (x0 : List ((Int × ((Bool × List (Int)) × ((Bool × List (Int)) × (List UInt8 × Int)))))) (x1 : Int) (x2 : List ((Int × (Int × Bool)))) (x3 : Int) (x4 : Int) (x5 : Int) (x6 : Int) (x7 : List (Int)) : Option (((List (Int) × ((Int × Int) × Unit)) × Unit)) := partJ E Fn G h6 Tryd.f6 (E.sig 6) 20 [1, 1, 1, 1, 1, 0, 1, 0, 0, 1, 1, 1] ⟨[(1, .one (.of (.list (.pair (.int .i64) (.pair (.pair .bool (.list (.int .u32))) (.pair (.pair .bool (.list (.int .u32))) (.pair .str (.int .i64)))))) x0)), (5, .one (.ptr 0 0)), (7, .one (.view 1)), (8, .one (.of (.int .i64) x1)), (25, .one (.of (.list (.pair (.int .u8) (.pair (.int .i64) .bool))) x2)), (26, .one (.of (.int .i64) x3)), (27, .one (.of (.int .i64) x4))], 2, [(0, some (.cell [.of (.int .i64) x5, .of (.int .i64) x6])), (1, some (.row 5 (.int .u8) x7))]⟩
noncomputable def F15 (a0 : List ((Int × (Int × Bool)))) : Option ((((Int × Int) × Unit) × Unit)) := callI E Fn G 15 (a0, ())
noncomputable def F15_J3 (x0 : List ((Int × (Int × Bool)))) (x1 : Int) (x2 : Int) : Option ((((Int × Int) × Unit) × Unit)) := partJ E Fn G h15 Tryd.f15 (E.sig 15) 3 [1, 1] ⟨[(0, .one (.of (.list (.pair (.int .u8) (.pair (.int .i64) .bool))) x0)), (2, .one (.ptr 0 0))], 1, [(0, some (.cell [.of (.int .i64) x1, .of (.int .i64) x2]))]⟩
noncomputable def F15_L4 (x0 : List ((Int × (Int × Bool)))) (x1 : List ((Int × (Int × Bool)))) (x2 : Int) (x3 : Int) (x4 : Int) (x5 : Int) : Option ((((Int × Int) × Unit) × Unit)) := partL E Fn G h15 Tryd.f15 (E.sig 15) 4 [1, 1, 0, 1, 0] ⟨[(0, .one (.of (.list (.pair (.int .u8) (.pair (.int .i64) .bool))) x0)), (2, .one (.ptr 0 0)), (9, .one (.of (.list (.pair (.int .u8) (.pair (.int .i64) .bool))) x1)), (10, .one (.of (.int .i64) x2)), (11, .one (.of (.int .i64) x3))], 1, [(0, some (.cell [.of (.int .i64) x4, .of (.int .i64) x5]))]⟩
noncomputable def F15_J5 (x0 : List ((Int × (Int × Bool)))) (x1 : List ((Int × (Int × Bool)))) (x2 : Int) (x3 : Int) (x4 : Int) (x5 : Int) : Option ((((Int × Int) × Unit) × Unit)) := partJ E Fn G h15 Tryd.f15 (E.sig 15) 5 [1, 1, 0, 1, 0, 0, 1, 1] ⟨[(0, .one (.of (.list (.pair (.int .u8) (.pair (.int .i64) .bool))) x0)), (2, .one (.ptr 0 0)), (9, .one (.of (.list (.pair (.int .u8) (.pair (.int .i64) .bool))) x1)), (10, .one (.of (.int .i64) x2)), (11, .one (.of (.int .i64) x3))], 1, [(0, some (.cell [.of (.int .i64) x4, .of (.int .i64) x5]))]⟩
noncomputable def F15_J14 (x0 : Int) (x1 : Int) : Option ((((Int × Int) × Unit) × Unit)) := partJ E Fn G h15 Tryd.f15 (E.sig 15) 14 [1, 1, 1] ⟨[(2, .one (.ptr 0 0))], 1, [(0, some (.cell [.of (.int .i64) x0, .of (.int .i64) x1]))]⟩
noncomputable def F15_J13 (x0 : List ((Int × (Int × Bool)))) (x1 : List ((Int × (Int × Bool)))) (x2 : Int) (x3 : Int) (x4 : Int) (x5 : Int) : Option ((((Int × Int) × Unit) × Unit)) := partJ E Fn G h15 Tryd.f15 (E.sig 15) 13 [1, 1, 0, 1, 0, 0, 1, 1, 1] ⟨[(0, .one (.of (.list (.pair (.int .u8) (.pair (.int .i64) .bool))) x0)), (2, .one (.ptr 0 0)), (9, .one (.of (.list (.pair (.int .u8) (.pair (.int .i64) .bool))) x1)), (10, .one (.of (.int .i64) x2)), (11, .one (.of (.int .i64) x3))], 1, [(0, some (.cell [.of (.int .i64) x4, .of (.int .i64) x5]))]⟩
noncomputable def F21 (a0 : Int) (a1 : Int) : Option ((((Int × Int) × Unit) × Unit)) := callI E Fn G 21 (a0, a1, ())
noncomputable def F28 (a0 : Int) : Option (((Bool × Unit) × Unit)) := callI E Fn G 28 (a0, ())
noncomputable def F20 (a0 : List ((Int × (Int × Bool)))) : Option (((Int × Unit) × Unit)) := callI E Fn G 20 (a0, ())
noncomputable def F20_L3 (x0 : Int) (x1 : List ((Int × (Int × Bool)))) (x2 : Int) (x3 : Int) : Option (((Int × Unit) × Unit)) := partL E Fn G h20 Tryd.f20 (E.sig 20) 3 [1, 1, 0, 1, 0] ⟨[(3, .one (.of (.int .i64) x0)), (6, .one (.of (.list (.pair (.int .u8) (.pair (.int .i64) .bool))) x1)), (7, .one (.of (.int .i64) x2)), (8, .one (.of (.int .i64) x3))], 0, []⟩
noncomputable def F20_J4 (x0 : Int) (x1 : List ((Int × (Int × Bool)))) (x2 : Int) (x3 : Int) : Option (((Int × Unit) × Unit)) := partJ E Fn G h20 Tryd.f20 (E.sig 20) 4 [1, 1, 0, 1, 0, 0, 1, 1] ⟨[(3, .one (.of (.int .i64) x0)), (6, .one (.of (.list (.pair (.int .u8) (.pair (.int .i64) .bool))) x1)), (7, .one (.of (.int .i64) x2)), (8, .one (.of (.int .i64) x3))], 0, []⟩
noncomputable def F20_J8 (x0 : Int) : Option (((Int × Unit) × Unit)) := partJ E Fn G h20 Tryd.f20 (E.sig 20) 8 [1, 1, 1] ⟨[(3, .one (.of (.int .i64) x0))], 0, []⟩
noncomputable def F20_J7 (x0 : Int) (x1 : List ((Int × (Int × Bool)))) (x2 : Int) (x3 : Int) : Option (((Int × Unit) × Unit)) := partJ E Fn G h20 Tryd.f20 (E.sig 20) 7 [1, 1, 0, 1, 0, 0, 1, 1, 1] ⟨[(3, .one (.of (.int .i64) x0)), (6, .one (.of (.list (.pair (.int .u8) (.pair (.int .i64) .bool))) x1)), (7, .one (.of (.int .i64) x2)), (8, .one (.of (.int .i64) x3))], 0, []⟩
noncomputable def F22 (a0 : (Int × ((Bool × List (Int)) × ((Bool × List (Int)) × (List UInt8 × Int))))) : Option (((Bool × Unit) × Unit)) := callI E Fn G 22 (a0, ())
noncomputable def F22_J6 : Option (((Bool × Unit) × Unit)) := partJ E Fn G h22 Tryd.f22 (E.sig 22) 6 [1, 1] ⟨[], 0, []⟩
noncomputable def F35 (a0 : (Bool × List (Int))) : Option (((Bool × Unit) × Unit)) := callI E Fn G 35 (a0, ())
noncomputable def F23 (a0 : List (Int)) (a1 : (Int × (Int × Bool))) (a2 : (Int × ((Bool × List (Int)) × ((Bool × List (Int)) × (List UInt8 × Int))))) : Option (((List (Int) × (Int × Unit)) × Unit)) := callI E Fn G 23 (a0, a1, a2, ())
noncomputable def F23_J8 (x0 : Int) (x1 : List (Int)) (x2 : Int) (x3 : Int) (x4 : Bool) (x5 : Int) (x6 : Bool) (x7 : List (Int)) (x8 : Bool) (x9 : List (Int)) (x10 : List UInt8) (x11 : Int) : Option (((List (Int) × (Int × Unit)) × Unit)) := partJ E Fn G h23 Tryd.f23 (E.sig 23) 8 [1, 1, 1] ⟨[(0, .one (.view 0)), (4, .one (.ptr 1 0)), (5, .one (.ptr 2 0)), (8, .one (.of (.int .i64) x0))], 3, [(0, some (.row 5 (.int .u8) x1)), (1, some (.cell [.of (.int .u8) x2, .of (.int .i64) x3, .of .bool x4])), (2, some (.cell [.of (.int .i64) x5, .of .bool x6, .of (.list (.int .u32)) x7, .of .bool x8, .of (.list (.int .u32)) x9, .of .str x10, .of (.int .i64) x11]))]⟩
noncomputable def F23_J10 (x0 : List (Int)) (x1 : Int) (x2 : Int) (x3 : Bool) (x4 : Int) (x5 : Bool) (x6 : List (Int)) (x7 : Bool) (x8 : List (Int)) (x9 : List UInt8) (x10 : Int) : Option (((List (Int) × (Int × Unit)) × Unit)) := partJ E Fn G h23 Tryd.f23 (E.sig 23) 10 [1, 1, 1, 1] ⟨[(0, .one (.view 0)), (4, .one (.ptr 1 0)), (5, .one (.ptr 2 0))], 3, [(0, some (.row 5 (.int .u8) x0)), (1, some (.cell [.of (.int .u8) x1, .of (.int .i64) x2, .of .bool x3])), (2, some (.cell [.of (.int .i64) x4, .of .bool x5, .of (.list (.int .u32)) x6, .of .bool x7, .of (.list (.int .u32)) x8, .of .str x9, .of (.int .i64) x10]))]⟩
noncomputable def F23_J14 (x0 : List (Int)) (x1 : Int) (x2 : Bool) (x3 : List (Int)) (x4 : Bool) (x5 : List (Int)) (x6 : List UInt8) (x7 : Int) : Option (((List (Int) × (Int × Unit)) × Unit)) := partJ E Fn G h23 Tryd.f23 (E.sig 23) 14 [1, 1, 1, 1, 0, 1, 0, 1, 0, 1] ⟨[(0, .one (.view 0)), (5, .one (.ptr 1 0))], 2, [(0, some (.row 5 (.int .u8) x0)), (1, some (.cell [.of (.int .i64) x1, .of .bool x2, .of (.list (.int .u32)) x3, .of .bool x4, .of (.list (.int .u32)) x5, .of .str x6, .of (.int .i64) x7]))]⟩
noncomputable def F23_J18 (x0 : List (Int)) (x1 : Int) (x2 : Bool) (x3 : List (Int)) (x4 : Bool) (x5 : List (Int)) (x6 : List UInt8) (x7 : Int) : Option (((List (Int) × (Int × Unit)) × Unit)) := partJ E Fn G h23 Tryd.f23 (E.sig 23) 18 [1, 1, 1, 1, 0, 1, 0, 1, 1, 1, 0, 1] ⟨[(0, .one (.view 0)), (5, .one (.ptr 1 0))], 2, [(0, some (.row 5 (.int .u8) x0)), (1, some (.cell [.of (.int .i64) x1, .of .bool x2, .of (.list (.int .u32)) x3, .of .bool x4, .of (.list (.int .u32)) x5, .of .str x6, .of (.int .i64) x7]))]⟩
noncomputable def F23_J21 (x0 : List (Int)) (x1 : Int) (x2 : Int) (x3 : Bool) (x4 : Int) (x5 : Bool) (x6 : List (Int)) (x7 : Bool) (x8 : List (Int)) (x9 : List UInt8) (x10 : Int) : Option (((List (Int) × (Int × Unit)) × Unit)) := partJ E Fn G h23 Tryd.f23 (E.sig 23) 21 [1, 1, 1, 1, 1] ⟨[(0, .one (.view 0)), (4, .one (.ptr 1 0)), (5, .one (.ptr 2 0))], 3, [(0, some (.row 5 (.int .u8) x0)), (1, some (.cell [.of (.int .u8) x1, .of (.int .i64) x2, .of .bool x3])), (2, some (.cell [.of (.int .i64) x4, .of .bool x5, .of (.list (.int .u32)) x6, .of .bool x7, .of (.list (.int .u32)) x8, .of .str x9, .of (.int .i64) x10]))]⟩
noncomputable def F23_J24 (x0 : Int) (x1 : Bool) (x2 : List (Int)) (x3 : Int) (x4 : Int) (x5 : Bool) (x6 : Int) (x7 : Bool) (x8 : List (Int)) (x9 : Bool) (x10 : List (Int)) (x11 : List UInt8) (x12 : Int) : Option (((List (Int) × (Int × Unit)) × Unit)) := partJ E Fn G h23 Tryd.f23 (E.sig 23) 24 [1, 1, 1, 1, 1, 1, 1] ⟨[(0, .one (.view 0)), (4, .one (.ptr 1 0)), (5, .one (.ptr 2 0)), (9, .one (.of (.int .i64) x0)), (10, .one (.of .bool x1))], 3, [(0, some (.row 5 (.int .u8) x2)), (1, some (.cell [.of (.int .u8) x3, .of (.int .i64) x4, .of .bool x5])), (2, some (.cell [.of (.int .i64) x6, .of .bool x7, .of (.list (.int .u32)) x8, .of .bool x9, .of (.list (.int .u32)) x10, .of .str x11, .of (.int .i64) x12]))]⟩
noncomputable def F23_J29 (x0 : Int) (x1 : Int) (x2 : List (Int)) (x3 : Int) (x4 : Int) (x5 : Bool) : Option (((List (Int) × (Int × Unit)) × Unit)) := partJ E Fn G h23 Tryd.f23 (E.sig 23) 29 [1, 1, 1, 1, 1, 1, 1, 1, 1] ⟨[(0, .one (.view 0)), (4, .one (.ptr 1 0)), (9, .one (.of (.int .i64) x0)), (11, .one (.of (.int .u64) x1))], 2, [(0, some (.row 5 (.int .u8) x2)), (1, some (.cell [.of (.int .u8) x3, .of (.int .i64) x4, .of .bool x5]))]⟩
noncomputable def F29 (a0 : Int) : Option (((Int × (Bool × Unit)) × Unit)) := callI E Fn G 29 (a0, ())
noncomputable def F29_J14 (x0 : Int) (x1 : Int) : Option (((Int × (Bool × Unit)) × Unit)) := partJ E Fn G h29 Tryd.f29 (E.sig 29) 14 [1, 1] ⟨[(0, .one (.of (.int .u8) x0)), (2, .one (.of (.int .i64) x1))], 0, []⟩
noncomputable def F36 (a0 : (Bool × List (Int))) (a1 : Int) (a2 : Bool) : Option (((Int × (Bool × Unit)) × Unit)) := callI E Fn G 36 (a0, a1, a2, ())
noncomputable def F36_J4 (x0 : Int) (x1 : Bool) (x2 : Int) (x3 : Bool) (x4 : List (Int)) : Option (((Int × (Bool × Unit)) × Unit)) := partJ E Fn G h36 Tryd.f36 (E.sig 36) 4 [1, 1, 1] ⟨[(1, .one (.of (.int .i64) x0)), (2, .one (.of .bool x1)), (3, .one (.ptr 0 0)), (8, .one (.of (.int .u64) x2))], 1, [(0, some (.cell [.of .bool x3, .of (.list (.int .u32)) x4]))]⟩
noncomputable def F36_L5 (x0 : Int) (x1 : Bool) (x2 : Int) (x3 : List (Int)) (x4 : Int) (x5 : Int) (x6 : Bool) (x7 : List (Int)) : Option (((Int × (Bool × Unit)) × Unit)) := partL E Fn G h36 Tryd.f36 (E.sig 36) 5 [1, 1, 1, 0, 1, 0] ⟨[(1, .one (.of (.int .i64) x0)), (2, .one (.of .bool x1)), (3, .one (.ptr 0 0)), (8, .one (.of (.int .u64) x2)), (17, .one (.of (.list (.int .u32)) x3)), (18, .one (.of (.int .i64) x4)), (19, .one (.of (.int .i64) x5))], 1, [(0, some (.cell [.of .bool x6, .of (.list (.int .u32)) x7]))]⟩
noncomputable def F36_J6 (x0 : Int) (x1 : Bool) (x2 : Int) (x3 : List (Int)) (x4 : Int) (x5 : Int) (x6 : Bool) (x7 : List (Int)) : Option (((Int × (Bool × Unit)) × Unit)) := partJ E Fn G h36 Tryd.f36 (E.sig 36) 6 [1, 1, 1, 0, 1, 0, 0, 1, 1] ⟨[(1, .one (.of (.int .i64) x0)), (2, .one (.of .bool x1)), (3, .one (.ptr 0 0)), (8, .one (.of (.int .u64) x2)), (17, .one (.of (.list (.int .u32)) x3)), (18, .one (.of (.int .i64) x4)), (19, .one (.of (.int .i64) x5))], 1, [(0, some (.cell [.of .bool x6, .of (.list (.int .u32)) x7]))]⟩
noncomputable def F36_J9 (x0 : Int) (x1 : Bool) (x2 : Int) (x3 : Bool) (x4 : List (Int)) : Option (((Int × (Bool × Unit)) × Unit)) := partJ E Fn G h36 Tryd.f36 (E.sig 36) 9 [1, 1, 1, 1] ⟨[(1, .one (.of (.int .i64) x0)), (2, .one (.of .bool x1)), (3, .one (.ptr 0 0)), (8, .one (.of (.int .u64) x2))], 1, [(0, some (.cell [.of .bool x3, .of (.list (.int .u32)) x4]))]⟩
noncomputable def F36_J14 (x0 : Int) (x1 : Int) : Option (((Int × (Bool × Unit)) × Unit)) := partJ E Fn G h36 Tryd.f36 (E.sig 36) 14 [1, 1, 1, 1, 1, 1] ⟨[(8, .one (.of (.int .u64) x0)), (11, .one (.of (.int .u64) x1))], 0, []⟩
noncomputable def F37 (a0 : List (Int)) (a1 : Int) : Option (((List (Int) × Unit) × Unit)) := callI E Fn G 37 (a0, a1, ())
noncomputable def F37_L2 (x0 : Int) (x1 : List (Int)) : Option (((List (Int) × Unit) × Unit)) := partL E Fn G h37 Tryd.f37 (E.sig 37) 2 [1, 1, 0, 0] ⟨[(0, .one (.view 0)), (1, .one (.of (.int .u64) x0))], 1, [(0, some (.row 5 (.int .u8) x1))]⟩
noncomputable def F37_J4 (x0 : Int) (x1 : List (Int)) : Option (((List (Int) × Unit) × Unit)) := partJ E Fn G h37 Tryd.f37 (E.sig 37) 4 [1, 1, 0, 0, 0, 1] ⟨[(0, .one (.view 0)), (1, .one (.of (.int .u64) x0))], 1, [(0, some (.row 5 (.int .u8) x1))]⟩
noncomputable def F37_J5 (x0 : Int) (x1 : List (Int)) : Option (((List (Int) × Unit) × Unit)) := partJ E Fn G h37 Tryd.f37 (E.sig 37) 5 [1, 1, 1] ⟨[(0, .one (.view 0)), (1, .one (.of (.int .u64) x0))], 1, [(0, some (.row 5 (.int .u8) x1))]⟩
noncomputable def F38 (a0 : List (Int)) (a1 : Int) (a2 : Int) (a3 : Bool) : Option (((List (Int) × Unit) × Unit)) := callI E Fn G 38 (a0, a1, a2, a3, ())
noncomputable def F38_L2 (x0 : Int) (x1 : Int) (x2 : Bool) (x3 : Int) (x4 : Int) (x5 : List (Int)) : Option (((List (Int) × Unit) × Unit)) := partL E Fn G h38 Tryd.f38 (E.sig 38) 2 [1, 0, 1, 0] ⟨[(0, .one (.view 0)), (1, .one (.of (.int .u64) x0)), (2, .one (.of (.int .i64) x1)), (3, .one (.of .bool x2)), (11, .one (.of (.int .i64) x3)), (12, .one (.of (.int .i64) x4))], 1, [(0, some (.row 5 (.int .u8) x5))]⟩
noncomputable def F38_J3 (x0 : Int) (x1 : Int) (x2 : Bool) (x3 : Int) (x4 : Int) (x5 : List (Int)) : Option (((List (Int) × Unit) × Unit)) := partJ E Fn G h38 Tryd.f38 (E.sig 38) 3 [1, 0, 1, 0, 0, 1, 1] ⟨[(0, .one (.view 0)), (1, .one (.of (.int .u64) x0)), (2, .one (.of (.int .i64) x1)), (3, .one (.of .bool x2)), (11, .one (.of (.int .i64) x3)), (12, .one (.of (.int .i64) x4))], 1, [(0, some (.row 5 (.int .u8) x5))]⟩
noncomputable def F38_J9 (x0 : List (Int)) : Option (((List (Int) × Unit) × Unit)) := partJ E Fn G h38 Tryd.f38 (E.sig 38) 9 [1, 1] ⟨[(0, .one (.view 0))], 1, [(0, some (.row 5 (.int .u8) x0))]⟩
noncomputable def F38_J7 (x0 : Int) (x1 : Int) (x2 : Bool) (x3 : Int) (x4 : Int) (x5 : Int) (x6 : List (Int)) : Option (((List (Int) × Unit) × Unit)) := partJ E Fn G h38 Tryd.f38 (E.sig 38) 7 [1, 0, 1, 0, 0, 1, 1, 0, 0, 1, 1, 1] ⟨[(0, .one (.view 0)), (1, .one (.of (.int .u64) x0)), (2, .one (.of (.int .i64) x1)), (3, .one (.of .bool x2)), (10, .one (.of (.int .i64) x3)), (11, .one (.of (.int .i64) x4)), (12, .one (.of (.int .i64) x5))], 1, [(0, some (.row 5 (.int .u8) x6))]⟩
noncomputable def F38_J8 (x0 : Int) (x1 : Int) (x2 : Bool) (x3 : Int) (x4 : Int) (x5 : List (Int)) : Option (((List (Int) × Unit) × Unit)) := partJ E Fn G h38 Tryd.f38 (E.sig 38) 8 [1, 0, 1, 0, 0, 1, 1, 1] ⟨[(0, .one (.view 0)), (1, .one (.of (.int .u64) x0)), (2, .one (.of (.int .i64) x1)), (3, .one (.of .bool x2)), (11, .one (.of (.int .i64) x3)), (12, .one (.of (.int .i64) x4))], 1, [(0, some (.row 5 (.int .u8) x5))]⟩
noncomputable def F11 (a0 : List ((Int × (Int × Bool)))) : Option (((Int × (Int × ((Int × Int) × Unit))) × Unit)) := callI E Fn G 11 (a0, ())
noncomputable def F11_J4 (x0 : List ((Int × (Int × Bool)))) (x1 : Int) (x2 : Int) (x3 : Int) (x4 : Int) : Option (((Int × (Int × ((Int × Int) × Unit))) × Unit)) := partJ E Fn G h11 Tryd.f11 (E.sig 11) 4 [1, 1] ⟨[(0, .one (.of (.list (.pair (.int .u8) (.pair (.int .i64) .bool))) x0)), (2, .one (.of (.int .i64) x1)), (3, .one (.of (.int .i64) x2)), (4, .one (.ptr 0 0))], 1, [(0, some (.cell [.of (.int .i64) x3, .of (.int .i64) x4]))]⟩
noncomputable def F11_L5 (x0 : Int) (x1 : Int) (x2 : List ((Int × (Int × Bool)))) (x3 : Int) (x4 : Int) (x5 : Int) (x6 : Int) : Option (((Int × (Int × ((Int × Int) × Unit))) × Unit)) := partL E Fn G h11 Tryd.f11 (E.sig 11) 5 [1, 1, 0, 1, 0] ⟨[(2, .one (.of (.int .i64) x0)), (3, .one (.of (.int .i64) x1)), (4, .one (.ptr 0 0)), (18, .one (.of (.list (.pair (.int .u8) (.pair (.int .i64) .bool))) x2)), (19, .one (.of (.int .i64) x3)), (20, .one (.of (.int .i64) x4))], 1, [(0, some (.cell [.of (.int .i64) x5, .of (.int .i64) x6]))]⟩
noncomputable def F11_J6 (x0 : Int) (x1 : Int) (x2 : List ((Int × (Int × Bool)))) (x3 : Int) (x4 : Int) (x5 : Int) (x6 : Int) : Option (((Int × (Int × ((Int × Int) × Unit))) × Unit)) := partJ E Fn G h11 Tryd.f11 (E.sig 11) 6 [1, 1, 0, 1, 0, 0, 1, 1] ⟨[(2, .one (.of (.int .i64) x0)), (3, .one (.of (.int .i64) x1)), (4, .one (.ptr 0 0)), (18, .one (.of (.list (.pair (.int .u8) (.pair (.int .i64) .bool))) x2)), (19, .one (.of (.int .i64) x3)), (20, .one (.of (.int .i64) x4))], 1, [(0, some (.cell [.of (.int .i64) x5, .of (.int .i64) x6]))]⟩
noncomputable def F11_J17 (x0 : Int) (x1 : Int) (x2 : Int) (x3 : Int) : Option (((Int × (Int × ((Int × Int) × Unit))) × Unit)) := partJ E Fn G h11 Tryd.f11 (E.sig 11) 17 [1, 1, 1] ⟨[(2, .one (.of (.int .i64) x0)), (3, .one (.of (.int .i64) x1)), (4, .one (.ptr 0 0))], 1, [(0, some (.cell [.of (.int .i64) x2, .of (.int .i64) x3]))]⟩
noncomputable def F11_J15 (x0 : Int) (x1 : Int) (x2 : Int) (x3 : Int) (x4 : List ((Int × (Int × Bool)))) (x5 : Int) (x6 : Int) (x7 : Int) (x8 : Int) : Option (((Int × (Int × ((Int × Int) × Unit))) × Unit)) := partJ E Fn G h11 Tryd.f11 (E.sig 11) 15 [1, 1, 0, 1, 0, 0, 1, 1, 0, 0, 1, 1, 1] ⟨[(2, .one (.of (.int .i64) x0)), (3, .one (.of (.int .i64) x1)), (4, .one (.ptr 0 0)), (8, .one (.of (.int .i64) x2)), (9, .one (.of (.int .i64) x3)), (18, .one (.of (.list (.pair (.int .u8) (.pair (.int .i64) .bool))) x4)), (19, .one (.of (.int .i64) x5)), (20, .one (.of (.int .i64) x6))], 1, [(0, some (.cell [.of (.int .i64) x7, .of (.int .i64) x8]))]⟩
noncomputable def F11_J16 (x0 : Int) (x1 : Int) (x2 : List ((Int × (Int × Bool)))) (x3 : Int) (x4 : Int) (x5 : Int) (x6 : Int) : Option (((Int × (Int × ((Int × Int) × Unit))) × Unit)) := partJ E Fn G h11 Tryd.f11 (E.sig 11) 16 [1, 1, 0, 1, 0, 0, 1, 1, 1] ⟨[(2, .one (.of (.int .i64) x0)), (3, .one (.of (.int .i64) x1)), (4, .one (.ptr 0 0)), (18, .one (.of (.list (.pair (.int .u8) (.pair (.int .i64) .bool))) x2)), (19, .one (.of (.int .i64) x3)), (20, .one (.of (.int .i64) x4))], 1, [(0, some (.cell [.of (.int .i64) x5, .of (.int .i64) x6]))]⟩
noncomputable def F25 (a0 : List UInt8) (a1 : List UInt8) : Option (((Bool × Unit) × Unit)) := callI E Fn G 25 (a0, a1, ())
noncomputable def F40 (a0 : List UInt8) (a1 : List UInt8) : Option (((Bool × Unit) × Unit)) := callI E Fn G 40 (a0, a1, ())
noncomputable def F18 (a0 : List ((Int × (Int × Bool)))) (a1 : List (Int)) : Option (((List ((Int × ((Bool × List (Int)) × ((Bool × List (Int)) × (List UInt8 × Int))))) × ((Int × Int) × Unit)) × Unit)) := callI E Fn G 18 (a0, a1, ())
noncomputable def F18_J4 (x0 : List ((Int × (Int × Bool)))) (x1 : List (Int)) (x2 : Int) (x3 : Int) : Option (((List ((Int × ((Bool × List (Int)) × ((Bool × List (Int)) × (List UInt8 × Int))))) × ((Int × Int) × Unit)) × Unit)) := partJ E Fn G h18 Tryd.f18 (E.sig 18) 4 [1, 1] ⟨[(0, .one (.of (.list (.pair (.int .u8) (.pair (.int .i64) .bool))) x0)), (1, .one (.of (.list (.int .u8)) x1)), (5, .one (.ptr 0 0))], 1, [(0, some (.cell [.of (.int .i64) x2, .of (.int .i64) x3]))]⟩
noncomputable def F18_L7 (x0 : List (Int)) (x1 : List ((Int × (Int × Bool)))) (x2 : Int) (x3 : Int) (x4 : Int) (x5 : Int) (x6 : List (Int)) (x7 : Int) (x8 : List ((Int × ((Bool × List (Int)) × ((Bool × List (Int)) × (List UInt8 × Int)))))) : Option (((List ((Int × ((Bool × List (Int)) × ((Bool × List (Int)) × (List UInt8 × Int))))) × ((Int × Int) × Unit)) × Unit)) := partL E Fn G h18 Tryd.f18 (E.sig 18) 7 [1, 1, 1, 1, 0, 1, 0] ⟨[(1, .one (.of (.list (.int .u8)) x0)), (5, .one (.ptr 0 0)), (7, .one (.ptr 1 0)), (8, .one (.view 2)), (22, .one (.of (.list (.pair (.int .u8) (.pair (.int .i64) .bool))) x1)), (23, .one (.of (.int .i64) x2)), (24, .one (.of (.int .i64) x3))], 3, [(0, some (.cell [.of (.int .i64) x4, .of (.int .i64) x5])), (1, some (.cell [.of (.list (.int .u8)) x6, .of (.int .i64) x7])), (2, some (.row 48 (.pair (.int .i64) (.pair (.pair .bool (.list (.int .u32))) (.pair (.pair .bool (.list (.int .u32))) (.pair .str (.int .i64))))) x8))]⟩
noncomputable def F18_J8 (x0 : List (Int)) (x1 : List ((Int × (Int × Bool)))) (x2 : Int) (x3 : Int) (x4 : Int) (x5 : Int) (x6 : List (Int)) (x7 : Int) (x8 : List ((Int × ((Bool × List (Int)) × ((Bool × List (Int)) × (List UInt8 × Int)))))) : Option (((List ((Int × ((Bool × List (Int)) × ((Bool × List (Int)) × (List UInt8 × Int))))) × ((Int × Int) × Unit)) × Unit)) := partJ E Fn G h18 Tryd.f18 (E.sig 18) 8 [1, 1, 1, 1, 0, 1, 0, 0, 1, 1] ⟨[(1, .one (.of (.list (.int .u8)) x0)), (5, .one (.ptr 0 0)), (7, .one (.ptr 1 0)), (8, .one (.view 2)), (22, .one (.of (.list (.pair (.int .u8) (.pair (.int .i64) .bool))) x1)), (23, .one (.of (.int .i64) x2)), (24, .one (.of (.int .i64) x3))], 3, [(0, some (.cell [.of (.int .i64) x4, .of (.int .i64) x5])), (1, some (.cell [.of (.list (.int .u8)) x6, .of (.int .i64) x7])), (2, some (.row 48 (.pair (.int .i64) (.pair (.pair .bool (.list (.int .u32))) (.pair (.pair .bool (.list (.int .u32))) (.pair .str (.int .i64))))) x8))]⟩
noncomputable def F18_J15 (x0 : List (Int)) (x1 : Int) (x2 : Int) (x3 : List (Int)) (x4 : Int) (x5 : List ((Int × ((Bool × List (Int)) × ((Bool × List (Int)) × (List UInt8 × Int)))))) : Option (((List ((Int × ((Bool × List (Int)) × ((Bool × List (Int)) × (List UInt8 × Int))))) × ((Int × Int) × Unit)) × Unit)) := partJ E Fn G h18 Tryd.f18 (E.sig 18) 15 [1, 1, 1, 1, 1] ⟨[(1, .one (.of (.list (.int .u8)) x0)), (5, .one (.ptr 0 0)), (7, .one (.ptr 1 0)), (8, .one (.view 2))], 3, [(0, some (.cell [.of (.int .i64) x1, .of (.int .i64) x2])), (1, some (.cell [.of (.list (.int .u8)) x3, .of (.int .i64) x4])), (2, some (.row 48 (.pair (.int .i64) (.pair (.pair .bool (.list (.int .u32))) (.pair (.pair .bool (.list (.int .u32))) (.pair .str (.int .i64))))) x5))]⟩
noncomputable def F18_J12 (x0 : List (Int)) (x1 : List ((Int × (Int × Bool)))) (x2 : Int) (x3 : Int) (x4 : Int) (x5 : Int) (x6 : List (Int)) (x7 : Int) (x8 : List ((Int × ((Bool × List (Int)) × ((Bool × List (Int)) × (List UInt8 × Int)))))) (x9 : Int) (x10 : Int) (x11 : Bool) (x12 : Int) (x13 : Bool) (x14 : List (Int)) (x15 : Bool) (x16 : List (Int)) (x17 : List UInt8) (x18 : Int) : Option (((List ((Int × ((Bool × List (Int)) × ((Bool × List (Int)) × (List UInt8 × Int))))) × ((Int × Int) × Unit)) × Unit)) := partJ E Fn G h18 Tryd.f18 (E.sig 18) 12 [1, 1, 1, 1, 0, 1, 0, 0, 1, 1, 0, 0, 1, 1, 1] ⟨[(1, .one (.of (.list (.int .u8)) x0)), (5, .one (.ptr 0 0)), (7, .one (.ptr 1 0)), (8, .one (.view 2)), (10, .one (.ptr 3 0)), (11, .one (.ptr 4 0)), (22, .one (.of (.list (.pair (.int .u8) (.pair (.int .i64) .bool))) x1)), (23, .one (.of (.int .i64) x2)), (24, .one (.of (.int .i64) x3))], 5, [(0, some (.cell [.of (.int .i64) x4, .of (.int .i64) x5])), (1, some (.cell [.of (.list (.int .u8)) x6, .of (.int .i64) x7])), (2, some (.row 48 (.pair (.int .i64) (.pair (.pair .bool (.list (.int .u32))) (.pair (.pair .bool (.list (.int .u32))) (.pair .str (.int .i64))))) x8)), (3, some (.cell [.of (.int .u8) x9, .of (.int .i64) x10, .of .bool x11])), (4, some (.cell [.of (.int .i64) x12, .of .bool x13, .of (.list (.int .u32)) x14, .of .bool x15, .of (.list (.int .u32)) x16, .of .str x17, .of (.int .i64) x18]))]⟩
noncomputable def F18_J17 (x0 : Int) (x1 : Int) (x2 : List ((Int × ((Bool × List (Int)) × ((Bool × List (Int)) × (List UInt8 × Int)))))) : Option (((List ((Int × ((Bool × List (Int)) × ((Bool × List (Int)) × (List UInt8 × Int))))) × ((Int × Int) × Unit)) × Unit)) := partJ E Fn G h18 Tryd.f18 (E.sig 18) 17 [1, 1, 1, 1, 1, 1] ⟨[(5, .one (.ptr 0 0)), (8, .one (.view 1))], 2, [(0, some (.cell [.of (.int .i64) x0, .of (.int .i64) x1])), (1, some (.row 48 (.pair (.int .i64) (.pair (.pair .bool (.list (.int .u32))) (.pair (.pair .bool (.list (.int .u32))) (.pair .str (.int .i64))))) x2))]⟩
noncomputable def F18_J14 (x0 : List (Int)) (x1 : List ((Int × (Int × Bool)))) (x2 : Int) (x3 : Int) (x4 : Int) (x5 : Int) (x6 : List (Int)) (x7 : Int) (x8 : List ((Int × ((Bool × List (Int)) × ((Bool × List (Int)) × (List UInt8 × Int)))))) : Option (((List ((Int × ((Bool × List (Int)) × ((Bool × List (Int)) × (List UInt8 × Int))))) × ((Int × Int) × Unit)) × Unit)) := partJ E Fn G h18 Tryd.f18 (E.sig 18) 14 [1, 1, 1, 1, 0, 1, 0, 0, 1, 1, 1] ⟨[(1, .one (.of (.list (.int .u8)) x0)), (5, .one (.ptr 0 0)), (7, .one (.ptr 1 0)), (8, .one (.view 2)), (22, .one (.of (.list (.pair (.int .u8) (.pair (.int .i64) .bool))) x1)), (23, .one (.of (.int .i64) x2)), (24, .one (.of (.int .i64) x3))], 3, [(0, some (.cell [.of (.int .i64) x4, .of (.int .i64) x5])), (1, some (.cell [.of (.list (.int .u8)) x6, .of (.int .i64) x7])), (2, some (.row 48 (.pair (.int .i64) (.pair (.pair .bool (.list (.int .u32))) (.pair (.pair .bool (.list (.int .u32))) (.pair .str (.int .i64))))) x8))]⟩
noncomputable def F34 (a0 : (List (Int) × Int)) (a1 : (Int × (Int × Bool))) : Option ((((Int × ((Bool × List (Int)) × ((Bool × List (Int)) × (List UInt8 × Int)))) × (Int × Unit)) × ((List (Int) × Int) × Unit))) := callI E Fn G 34 (a0, a1, ())
noncomputable def F34_J12 (x0 : List (Int)) (x1 : List (Int)) (x2 : Int) (x3 : Int) (x4 : Bool) (x5 : Bool) (x6 : List UInt8) (x7 : Int) : Option ((((Int × ((Bool × List (Int)) × ((Bool × List (Int)) × (List UInt8 × Int)))) × (Int × Unit)) × ((List (Int) × Int) × Unit))) := partJ E Fn G h34 Tryd.f34 (E.sig 34) 12 [1, 1, 0, 0, 1, 1, 1, 1, 1, 0, 1, 1] ⟨[(4, .one (.ptr 1 0)), (8, .one (.of (.list (.int .u8)) x0))], 2, [(0, some (.cell [.of (.list (.int .u8)) x1, .of (.int .i64) x2])), (1, some (.cell [.of (.int .i64) x3, .of .bool x4, .raw (.slice none 0 0), .of .bool x5, .raw (.slice none 0 0), .of .str x6, .of (.int .i64) x7]))]⟩
noncomputable def F34_J17 (x0 : List (Int)) (x1 : List (Int)) (x2 : Int) (x3 : Int) (x4 : Int) (x5 : Bool) (x6 : Int) (x7 : Bool) (x8 : Bool) (x9 : List UInt8) (x10 : Int) : Option ((((Int × ((Bool × List (Int)) × ((Bool × List (Int)) × (List UInt8 × Int)))) × (Int × Unit)) × ((List (Int) × Int) × Unit))) := partJ E Fn G h34 Tryd.f34 (E.sig 34) 17 [1, 1, 0, 0, 1, 1, 1, 1, 1, 1, 1, 0, 1, 1] ⟨[(0, .one (.ptr 0 0)), (3, .one (.ptr 1 0)), (4, .one (.ptr 2 0)), (10, .one (.of (.list (.int .u8)) x0))], 3, [(0, some (.cell [.of (.list (.int .u8)) x1, .of (.int .i64) x2])), (1, some (.cell [.of (.int .u8) x3, .of (.int .i64) x4, .of .bool x5])), (2, some (.cell [.of (.int .i64) x6, .of .bool x7, .raw (.slice none 0 0), .of .bool x8, .raw (.slice none 0 0), .of .str x9, .of (.int .i64) x10]))]⟩
noncomputable def F34_J18 (x0 : List (Int)) (x1 : Int) (x2 : Int) (x3 : Int) (x4 : Bool) (x5 : Int) (x6 : Bool) (x7 : Bool) (x8 : List UInt8) (x9 : Int) : Option ((((Int × ((Bool × List (Int)) × ((Bool × List (Int)) × (List UInt8 × Int)))) × (Int × Unit)) × ((List (Int) × Int) × Unit))) := partJ E Fn G h34 Tryd.f34 (E.sig 34) 18 [1, 1, 1] ⟨[(0, .one (.ptr 0 0)), (3, .one (.ptr 1 0)), (4, .one (.ptr 2 0))], 3, [(0, some (.cell [.of (.list (.int .u8)) x0, .of (.int .i64) x1])), (1, some (.cell [.of (.int .u8) x2, .of (.int .i64) x3, .of .bool x4])), (2, some (.cell [.of (.int .i64) x5, .of .bool x6, .raw (.slice none 0 0), .of .bool x7, .raw (.slice none 0 0), .of .str x8, .of (.int .i64) x9]))]⟩
noncomputable def F34_J21 (x0 : List (Int)) (x1 : List (Int)) (x2 : Int) (x3 : Int) (x4 : Int) (x5 : Bool) (x6 : Int) (x7 : Bool) (x8 : Bool) (x9 : List UInt8) (x10 : Int) : Option ((((Int × ((Bool × List (Int)) × ((Bool × List (Int)) × (List UInt8 × Int)))) × (Int × Unit)) × ((List (Int) × Int) × Unit))) := partJ E Fn G h34 Tryd.f34 (E.sig 34) 21 [1, 1, 1, 1, 1] ⟨[(3, .one (.ptr 1 0)), (4, .one (.ptr 2 0)), (12, .one (.of (.list (.int .u8)) x0))], 3, [(0, some (.cell [.of (.list (.int .u8)) x1, .of (.int .i64) x2])), (1, some (.cell [.of (.int .u8) x3, .of (.int .i64) x4, .of .bool x5])), (2, some (.cell [.of (.int .i64) x6, .of .bool x7, .raw (.slice none 0 0), .of .bool x8, .raw (.slice none 0 0), .of .str x9, .of (.int .i64) x10]))]⟩
noncomputable def F34_J23 (x0 : List (Int)) (x1 : List (Int)) (x2 : Int) (x3 : Int) (x4 : Bool) (x5 : Bool) (x6 : List UInt8) (x7 : Int) : Option ((((Int × ((Bool × List (Int)) × ((Bool × List (Int)) × (List UInt8 × Int)))) × (Int × Unit)) × ((List (Int) × Int) × Unit))) := partJ E Fn G h34 Tryd.f34 (E.sig 34) 23 [1, 1, 1, 1, 1, 1] ⟨[(4, .one (.ptr 1 0)), (12, .one (.of (.list (.int .u8)) x0))], 2, [(0, some (.cell [.of (.list (.int .u8)) x1, .of (.int .i64) x2])), (1, some (.cell [.of (.int .i64) x3, .of .bool x4, .raw (.slice none 0 0), .of .bool x5, .raw (.slice none 0 0), .of .str x6, .of (.int .i64) x7]))]⟩
noncomputable def F44 (a0 : (List (Int) × Int)) (a1 : (Int × (Int × Bool))) (a2 : Int) (a3 : Bool) : Option ((((Int × ((Bool × List (Int)) × ((Bool × List (Int)) × (List UInt8 × Int)))) × (Int × Unit)) × ((List (Int) × Int) × Unit))) := callI E Fn G 44 (a0, a1, a2, a3, ())
noncomputable def F44_J4 (x0 : Int) (x1 : Bool) (x2 : List (Int)) (x3 : List (Int)) (x4 : Int) (x5 : Int) (x6 : Int) (x7 : Bool) (x8 : Int) (x9 : Bool) (x10 : Bool) (x11 : List UInt8) (x12 : Int) : Option ((((Int × ((Bool × List (Int)) × ((Bool × List (Int)) × (List UInt8 × Int)))) × (Int × Unit)) × ((List (Int) × Int) × Unit))) := partJ E Fn G h44 Tryd.f44 (E.sig 44) 4 [1, 1, 1] ⟨[(2, .one (.of (.int .i64) x0)), (3, .one (.of .bool x1)), (5, .one (.ptr 1 0)), (8, .one (.ptr 2 0)), (10, .one (.of (.list (.int .u8)) x2))], 3, [(0, some (.cell [.of (.list (.int .u8)) x3, .of (.int .i64) x4])), (1, some (.cell [.of (.int .u8) x5, .of (.int .i64) x6, .of .bool x7])), (2, some (.cell [.of (.int .i64) x8, .of .bool x9, .raw (.slice none 0 0), .of .bool x10, .raw (.slice none 0 0), .of .str x11, .of (.int .i64) x12]))]⟩
noncomputable def F44_L6 (x0 : Int) (x1 : Bool) (x2 : Int) (x3 : List (Int)) (x4 : Int) (x5 : Int) (x6 : List (Int)) (x7 : Int) (x8 : Int) (x9 : Int) (x10 : Bool) (x11 : Int) (x12 : Bool) (x13 : Bool) (x14 : List UInt8) (x15 : Int) : Option ((((Int × ((Bool × List (Int)) × ((Bool × List (Int)) × (List UInt8 × Int)))) × (Int × Unit)) × ((List (Int) × Int) × Unit))) := partL E Fn G h44 Tryd.f44 (E.sig 44) 6 [1, 1, 1, 1, 0, 1, 0] ⟨[(2, .one (.of (.int .i64) x0)), (3, .one (.of .bool x1)), (5, .one (.ptr 1 0)), (8, .one (.ptr 2 0)), (12, .one (.of (.int .u64) x2)), (25, .one (.of (.list (.int .u8)) x3)), (26, .one (.of (.int .i64) x4)), (27, .one (.of (.int .i64) x5))], 3, [(0, some (.cell [.of (.list (.int .u8)) x6, .of (.int .i64) x7])), (1, some (.cell [.of (.int .u8) x8, .of (.int .i64) x9, .of .bool x10])), (2, some (.cell [.of (.int .i64) x11, .of .bool x12, .raw (.slice none 0 0), .of .bool x13, .raw (.slice none 0 0), .of .str x14, .of (.int .i64) x15]))]⟩
noncomputable def F44_J7 (x0 : Int) (x1 : Bool) (x2 : Int) (x3 : List (Int)) (x4 : Int) (x5 : Int) (x6 : List (Int)) (x7 : Int) (x8 : Int) (x9 : Int) (x10 : Bool) (x11 : Int) (x12 : Bool) (x13 : Bool) (x14 : List UInt8) (x15 : Int) : Option ((((Int × ((Bool × List (Int)) × ((Bool × List (Int)) × (List UInt8 × Int)))) × (Int × Unit)) × ((List (Int) × Int) × Unit))) := partJ E Fn G h44 Tryd.f44 (E.sig 44) 7 [1, 1, 1, 1, 0, 1, 0, 0, 1, 1] ⟨[(2, .one (.of (.int .i64) x0)), (3, .one (.of .bool x1)), (5, .one (.ptr 1 0)), (8, .one (.ptr 2 0)), (12, .one (.of (.int .u64) x2)), (25, .one (.of (.list (.int .u8)) x3)), (26, .one (.of (.int .i64) x4)), (27, .one (.of (.int .i64) x5))], 3, [(0, some (.cell [.of (.list (.int .u8)) x6, .of (.int .i64) x7])), (1, some (.cell [.of (.int .u8) x8, .of (.int .i64) x9, .of .bool x10])), (2, some (.cell [.of (.int .i64) x11, .of .bool x12, .raw (.slice none 0 0), .of .bool x13, .raw (.slice none 0 0), .of .str x14, .of (.int .i64) x15]))]⟩
noncomputable def F44_J13 (x0 : Int) (x1 : Bool) (x2 : Int) (x3 : List (Int)) (x4 : Int) (x5 : Int) (x6 : Bool) (x7 : Bool) (x8 : List UInt8) (x9 : Int) : Option ((((Int × ((Bool × List (Int)) × ((Bool × List (Int)) × (List UInt8 × Int)))) × (Int × Unit)) × ((List (Int) × Int) × Unit))) := partJ E Fn G h44 Tryd.f44 (E.sig 44) 13 [1, 1, 1, 1, 1] ⟨[(2, .one (.of (.int .i64) x0)), (3, .one (.of .bool x1)), (8, .one (.ptr 1 0)), (12, .one (.of (.int .u64) x2))], 2, [(0, some (.cell [.of (.list (.int .u8)) x3, .of (.int .i64) x4])), (1, some (.cell [.of (.int .i64) x5, .of .bool x6, .raw (.slice none 0 0), .of .bool x7, .raw (.slice none 0 0), .of .str x8, .of (.int .i64) x9]))]⟩
noncomputable def F44_J11 (x0 : Int) (x1 : Bool) (x2 : Int) (x3 : Int) (x4 : Int) (x5 : List (Int)) (x6 : Int) (x7 : Int) (x8 : List (Int)) (x9 : Int) (x10 : Int) (x11 : Int) (x12 : Bool) (x13 : Int) (x14 : Bool) (x15 : Bool) (x16 : List UInt8) (x17 : Int) : Option ((((Int × ((Bool × List (Int)) × ((Bool × List (Int)) × (List UInt8 × Int)))) × (Int × Unit)) × ((List (Int) × Int) × Unit))) := partJ E Fn G h44 Tryd.f44 (E.sig 44) 11 [1, 1, 1, 1, 0, 1, 0, 0, 1, 1, 0, 0, 1, 1, 1] ⟨[(2, .one (.of (.int .i64) x0)), (3, .one (.of .bool x1)), (5, .one (.ptr 1 0)), (8, .one (.ptr 2 0)), (12, .one (.of (.int .u64) x2)), (14, .one (.of (.int .u8) x3)), (15, .one (.of (.int .i64) x4)), (25, .one (.of (.list (.int .u8)) x5)), (26, .one (.of (.int .i64) x6)), (27, .one (.of (.int .i64) x7))], 3, [(0, some (.cell [.of (.list (.int .u8)) x8, .of (.int .i64) x9])), (1, some (.cell [.of (.int .u8) x10, .of (.int .i64) x11, .of .bool x12])), (2, some (.cell [.of (.int .i64) x13, .of .bool x14, .raw (.slice none 0 0), .of .bool x15, .raw (.slice none 0 0), .of .str x16, .of (.int .i64) x17]))]⟩
noncomputable def F44_J15 (x0 : Int) (x1 : List (Int)) (x2 : Int) (x3 : Int) (x4 : Bool) (x5 : Bool) (x6 : List UInt8) (x7 : Int) : Option ((((Int × ((Bool × List (Int)) × ((Bool × List (Int)) × (List UInt8 × Int)))) × (Int × Unit)) × ((List (Int) × Int) × Unit))) := partJ E Fn G h44 Tryd.f44 (E.sig 44) 15 [1, 1, 1, 1, 1, 1] ⟨[(8, .one (.ptr 1 0)), (12, .one (.of (.int .u64) x0))], 2, [(0, some (.cell [.of (.list (.int .u8)) x1, .of (.int .i64) x2])), (1, some (.cell [.of (.int .i64) x3, .of .bool x4, .raw (.slice none 0 0), .of .bool x5, .raw (.slice none 0 0), .of .str x6, .of (.int .i64) x7]))]⟩
noncomputable def F44_J12 (x0 : Int) (x1 : Bool) (x2 : Int) (x3 : List (Int)) (x4 : Int) (x5 : Int) (x6 : List (Int)) (x7 : Int) (x8 : Int) (x9 : Int) (x10 : Bool) (x11 : Int) (x12 : Bool) (x13 : Bool) (x14 : List UInt8) (x15 : Int) : Option ((((Int × ((Bool × List (Int)) × ((Bool × List (Int)) × (List UInt8 × Int)))) × (Int × Unit)) × ((List (Int) × Int) × Unit))) := partJ E Fn G h44 Tryd.f44 (E.sig 44) 12 [1, 1, 1, 1, 0, 1, 0, 0, 1, 1, 1] ⟨[(2, .one (.of (.int .i64) x0)), (3, .one (.of .bool x1)), (5, .one (.ptr 1 0)), (8, .one (.ptr 2 0)), (12, .one (.of (.int .u64) x2)), (25, .one (.of (.list (.int .u8)) x3)), (26, .one (.of (.int .i64) x4)), (27, .one (.of (.int .i64) x5))], 3, [(0, some (.cell [.of (.list (.int .u8)) x6, .of (.int .i64) x7])), (1, some (.cell [.of (.int .u8) x8, .of (.int .i64) x9, .of .bool x10])), (2, some (.cell [.of (.int .i64) x11, .of .bool x12, .raw (.slice none 0 0), .of .bool x13, .raw (.slice none 0 0), .of .str x14, .of (.int .i64) x15]))]⟩
noncomputable def F46 (a0 : (List (Int) × Int)) (a1 : Int) : Option (((List (Int) × (Bool × Unit)) × ((List (Int) × Int) × Unit))) := callI E Fn G 46 (a0, a1, ())
noncomputable def F46_J3 (x0 : Int) (x1 : List (Int)) (x2 : Int) : Option (((List (Int) × (Bool × Unit)) × ((List (Int) × Int) × Unit))) := partJ E Fn G h46 Tryd.f46 (E.sig 46) 3 [1, 1] ⟨[(0, .one (.ptr 0 0)), (1, .one (.of (.int .i64) x0))], 1, [(0, some (.cell [.of (.list (.int .u8)) x1, .of (.int .i64) x2]))]⟩
noncomputable def F56 (a0 : Int) : Option ((((Int × ((Bool × List (Int)) × ((Bool × List (Int)) × (List UInt8 × Int)))) × Unit) × Unit)) := callI E Fn G 56 (a0, ())
noncomputable def F57 (a0 : Int) : Option ((((Int × ((Bool × List (Int)) × ((Bool × List (Int)) × (List UInt8 × Int)))) × Unit) × Unit)) := callI E Fn G 57 (a0, ())
noncomputable def F57_J4 (x0 : Int) (x1 : Bool) (x2 : Bool) (x3 : List UInt8) (x4 : Int) (x5 : Int) (x6 : Bool) (x7 : Bool) (x8 : List (Int)) (x9 : List UInt8) (x10 : Int) (x11 : List (Int)) : Option ((((Int × ((Bool × List (Int)) × ((Bool × List (Int)) × (List UInt8 × Int)))) × Unit) × Unit)) := partJ E Fn G h57 Tryd.f57 (E.sig 57) 4 [1, 1, 1] ⟨[(2, .one (.ptr 0 0)), (3, .one (.ptr 1 0))], 3, [(0, some (.cell [.of (.int .i64) x0, .of .bool x1, .raw (.slice none 0 0), .of .bool x2, .raw (.slice none 0 0), .of .str x3, .of (.int .i64) x4])), (1, some (.cell [.of (.int .i64) x5, .of .bool x6, .view 2, .of .bool x7, .of (.list (.int .u32)) x8, .of .str x9, .of (.int .i64) x10])), (2, some (.row 87 (.int .u32) x11))]⟩
noncomputable def F57_J4_1 (x0 : Int) (x1 : Bool) (x2 : Bool) (x3 : List UInt8) (x4 : Int) (x5 : Int) (x6 : Bool) (x7 : List (Int)) (x8 : Bool) (x9 : List (Int)) (x10 : List UInt8) (x11 : Int) : Option ((((Int × ((Bool × List (Int)) × ((Bool × List (Int)) × (List UInt8 × Int)))) × Unit) × Unit)) := partJ E Fn G h57 Tryd.f57 (E.sig 57) 4 [1, 1, 1] ⟨[(2, .one (.ptr 0 0)), (3, .one (.ptr 1 0))], 2, [(0, some (.cell [.of (.int .i64) x0, .of .bool x1, .raw (.slice none 0 0), .of .bool x2, .raw (.slice none 0 0), .of .str x3, .of (.int .i64) x4])), (1, some (.cell [.of (.int .i64) x5, .of .bool x6, .of (.list (.int .u32)) x7, .of .bool x8, .of (.list (.int .u32)) x9, .of .str x10, .of (.int .i64) x11]))]⟩
noncomputable def F45 (a0 : (List (Int) × Int)) : Option ((((Int × ((Bool × List (Int)) × ((Bool × List (Int)) × (List UInt8 × Int)))) × (Int × Unit)) × ((List (Int) × Int) × Unit))) := callI E Fn G 45 (a0, ())
noncomputable def F45_L4 (x0 : Int) (x1 : Int) (x2 : List (Int)) (x3 : Int) (x4 : Int) (x5 : Bool) (x6 : Bool) (x7 : List UInt8) (x8 : Int) : Option ((((Int × ((Bool × List (Int)) × ((Bool × List (Int)) × (List UInt8 × Int)))) × (Int × Unit)) × ((List (Int) × Int) × Unit))) := partL E Fn G h45 Tryd.f45 (E.sig 45) 4 [1, 1, 1, 0] ⟨[(0, .one (.ptr 0 0)), (2, .one (.ptr 1 0)), (4, .one (.of (.int .u64) x0)), (5, .one (.of (.int .i64) x1))], 2, [(0, some (.cell [.of (.list (.int .u8)) x2, .of (.int .i64) x3])), (1, some (.cell [.of (.int .i64) x4, .of .bool x5, .raw (.slice none 0 0), .of .bool x6, .raw (.slice none 0 0), .of .str x7, .of (.int .i64) x8]))]⟩
noncomputable def F45_J7 (x0 : Int) (x1 : Int) (x2 : List (Int)) (x3 : List (Int)) (x4 : Int) (x5 : Int) (x6 : Bool) (x7 : Bool) (x8 : List UInt8) (x9 : Int) : Option ((((Int × ((Bool × List (Int)) × ((Bool × List (Int)) × (List UInt8 × Int)))) × (Int × Unit)) × ((List (Int) × Int) × Unit))) := partJ E Fn G h45 Tryd.f45 (E.sig 45) 7 [1, 1, 1, 0, 0, 0, 0, 1, 1] ⟨[(0, .one (.ptr 0 0)), (2, .one (.ptr 1 0)), (4, .one (.of (.int .u64) x0)), (5, .one (.of (.int .i64) x1)), (6, .one (.of (.list (.int .u8)) x2))], 2, [(0, some (.cell [.of (.list (.int .u8)) x3, .of (.int .i64) x4])), (1, some (.cell [.of (.int .i64) x5, .of .bool x6, .raw (.slice none 0 0), .of .bool x7, .raw (.slice none 0 0), .of .str x8, .of (.int .i64) x9]))]⟩
noncomputable def F45_J9 (x0 : Int) (x1 : Int) (x2 : List (Int)) (x3 : List (Int)) (x4 : Int) (x5 : Int) (x6 : Bool) (x7 : Bool) (x8 : List UInt8) (x9 : Int) : Option ((((Int × ((Bool × List (Int)) × ((Bool × List (Int)) × (List UInt8 × Int)))) × (Int × Unit)) × ((List (Int) × Int) × Unit))) := partJ E Fn G h45 Tryd.f45 (E.sig 45) 9 [1, 1, 1, 0, 0, 0, 0, 1, 1, 1] ⟨[(0, .one (.ptr 0 0)), (2, .one (.ptr 1 0)), (4, .one (.of (.int .u64) x0)), (5, .one (.of (.int .i64) x1)), (6, .one (.of (.list (.int .u8)) x2))], 2, [(0, some (.cell [.of (.list (.int .u8)) x3, .of (.int .i64) x4])), (1, some (.cell [.of (.int .i64) x5, .of .bool x6, .raw (.slice none 0 0), .of .bool x7, .raw (.slice none 0 0), .of .str x8, .of (.int .i64) x9]))]⟩
noncomputable def F45_J3 (x0 : Int) (x1 : Int) (x2 : List (Int)) (x3 : Int) (x4 : Int) (x5 : Bool) (x6 : Bool) (x7 : List UInt8) (x8 : Int) : Option ((((Int × ((Bool × List (Int)) × ((Bool × List (Int)) × (List UInt8 × Int)))) × (Int × Unit)) × ((List (Int) × Int) × Unit))) := partJ E Fn G h45 Tryd.f45 (E.sig 45) 3 [1, 1, 1, 0, 0, 1] ⟨[(0, .one (.ptr 0 0)), (2, .one (.ptr 1 0)), (4, .one (.of (.int .u64) x0)), (5, .one (.of (.int .i64) x1))], 2, [(0, some (.cell [.of (.list (.int .u8)) x2, .of (.int .i64) x3])), (1, some (.cell [.of (.int .i64) x4, .of .bool x5, .raw (.slice none 0 0), .of .bool x6, .raw (.slice none 0 0), .of .str x7, .of (.int .i64) x8]))]⟩
noncomputable def F8 (a0 : List (Int)) (a1 : List (Int)) : Option (((Bool × Unit) × Unit)) := callI E Fn G 8 (a0, a1, ())
noncomputable def F24 (a0 : List ((Int × ((Bool × List (Int)) × ((Bool × List (Int)) × (List UInt8 × Int)))))) (a1 : List ((Int × ((Bool × List (Int)) × ((Bool × List (Int)) × (List UInt8 × Int)))))) : Option (((Bool × Unit) × Unit)) := callI E Fn G 24 (a0, a1, ())
noncomputable def F24_J3 (x0 : List ((Int × ((Bool × List (Int)) × ((Bool × List (Int)) × (List UInt8 × Int)))))) (x1 : List ((Int × ((Bool × List (Int)) × ((Bool × List (Int)) × (List UInt8 × Int)))))) : Option (((Bool × Unit) × Unit)) := partJ E Fn G h24 Tryd.f24 (E.sig 24) 3 [1, 1] ⟨[(0, .one (.of (.list (.pair (.int .i64) (.pair (.pair .bool (.list (.int .u32))) (.pair (.pair .bool (.list (.int .u32))) (.pair .str (.int .i64)))))) x0)), (1, .one (.of (.list (.pair (.int .i64) (.pair (.pair .bool (.list (.int .u32))) (.pair (.pair .bool (.list (.int .u32))) (.pair .str (.int .i64)))))) x1))], 0, []⟩
noncomputable def F24_L4 (x0 : List ((Int × ((Bool × List (Int)) × ((Bool × List (Int)) × (List UInt8 × Int)))))) (x1 : List ((Int × ((Bool × List (Int)) × ((Bool × List (Int)) × (List UInt8 × Int)))))) (x2 : Int) : Option (((Bool × Unit) × Unit)) := partL E Fn G h24 Tryd.f24 (E.sig 24) 4 [1, 1, 0, 1, 0] ⟨[(0, .one (.of (.list (.pair (.int .i64) (.pair (.pair .bool (.list (.int .u32))) (.pair (.pair .bool (.list (.int .u32))) (.pair .str (.int .i64)))))) x0)), (1, .one (.of (.list (.pair (.int .i64) (.pair (.pair .bool (.list (.int .u32))) (.pair (.pair .bool (.list (.int .u32))) (.pair .str (.int .i64)))))) x1)), (5, .one (.of (.int .i64) x2))], 0, []⟩
noncomputable def F24_J6 (x0 : List ((Int × ((Bool × List (Int)) × ((Bool × List (Int)) × (List UInt8 × Int)))))) (x1 : List ((Int × ((Bool × List (Int)) × ((Bool × List (Int)) × (List UInt8 × Int)))))) (x2 : Int) : Option (((Bool × Unit) × Unit)) := partJ E Fn G h24 Tryd.f24 (E.sig 24) 6 [1, 1, 0, 1, 0, 0, 1] ⟨[(0, .one (.of (.list (.pair (.int .i64) (.pair (.pair .bool (.list (.int .u32))) (.pair (.pair .bool (.list (.int .u32))) (.pair .str (.int .i64)))))) x0)), (1, .one (.of (.list (.pair (.int .i64) (.pair (.pair .bool (.list (.int .u32))) (.pair (.pair .bool (.list (.int .u32))) (.pair .str (.int .i64)))))) x1)), (5, .one (.of (.int .i64) x2))], 0, []⟩
noncomputable def F24_J8 : Option (((Bool × Unit) × Unit)) := partJ E Fn G h24 Tryd.f24 (E.sig 24) 8 [1, 1, 1] ⟨[], 0, []⟩
noncomputable def F24_J5 (x0 : List ((Int × ((Bool × List (Int)) × ((Bool × List (Int)) × (List UInt8 × Int)))))) (x1 : List ((Int × ((Bool × List (Int)) × ((Bool × List (Int)) × (List UInt8 × Int)))))) (x2 : Int) : Option (((Bool × Unit) × Unit)) := partJ E Fn G h24 Tryd.f24 (E.sig 24) 5 [1, 1, 0, 1, 0, 0, 1, 1] ⟨[(0, .one (.of (.list (.pair (.int .i64) (.pair (.pair .bool (.list (.int .u32))) (.pair (.pair .bool (.list (.int .u32))) (.pair .str (.int .i64)))))) x0)), (1, .one (.of (.list (.pair (.int .i64) (.pair (.pair .bool (.list (.int .u32))) (.pair (.pair .bool (.list (.int .u32))) (.pair .str (.int .i64)))))) x1)), (5, .one (.of (.int .i64) x2))], 0, []⟩
noncomputable def F39 (a0 : (Int × ((Bool × List (Int)) × ((Bool × List (Int)) × (List UInt8 × Int))))) (a1 : (Int × ((Bool × List (Int)) × ((Bool × List (Int)) × (List UInt8 × Int))))) : Option (((Bool × Unit) × Unit)) := callI E Fn G 39 (a0, a1, ())
noncomputable def F48 (a0 : (Bool × List (Int))) (a1 : (Bool × List (Int))) : Option (((Bool × Unit) × Unit)) := callI E Fn G 48 (a0, a1, ())
noncomputable def F61 (a0 : List (Int)) (a1 : List (Int)) : Option (((Bool × Unit) × Unit)) := callI E Fn G 61 (a0, a1, ())
noncomputable def F61_J3 (x0 : List (Int)) (x1 : List (Int)) : Option (((Bool × Unit) × Unit)) := partJ E Fn G h61 Tryd.f61 (E.sig 61) 3 [1, 1] ⟨[(0, .one (.of (.list (.int .u32)) x0)), (1, .one (.of (.list (.int .u32)) x1))], 0, []⟩
noncomputable def F61_L4 (x0 : List (Int)) (x1 : List (Int)) (x2 : Int) : Option (((Bool × Unit) × Unit)) := partL E Fn G h61 Tryd.f61 (E.sig 61) 4 [1, 1, 0, 1, 0] ⟨[(0, .one (.of (.list (.int .u32)) x0)), (1, .one (.of (.list (.int .u32)) x1)), (5, .one (.of (.int .i64) x2))], 0, []⟩
noncomputable def F61_J6 (x0 : List (Int)) (x1 : List (Int)) (x2 : Int) : Option (((Bool × Unit) × Unit)) := partJ E Fn G h61 Tryd.f61 (E.sig 61) 6 [1, 1, 0, 1, 0, 0, 1] ⟨[(0, .one (.of (.list (.int .u32)) x0)), (1, .one (.of (.list (.int .u32)) x1)), (5, .one (.of (.int .i64) x2))], 0, []⟩
noncomputable def F61_J8 : Option (((Bool × Unit) × Unit)) := partJ E Fn G h61 Tryd.f61 (E.sig 61) 8 [1, 1, 1] ⟨[], 0, []⟩
noncomputable def F61_J5 (x0 : List (Int)) (x1 : List (Int)) (x2 : Int) : Option (((Bool × Unit) × Unit)) := partJ E Fn G h61 Tryd.f61 (E.sig 61) 5 [1, 1, 0, 1, 0, 0, 1, 1] ⟨[(0, .one (.of (.list (.int .u32)) x0)), (1, .one (.of (.list (.int .u32)) x1)), (5, .one (.of (.int .i64) x2))], 0, []⟩
noncomputable def F19 (a0 : Int) (a1 : Int) : Option ((((Int × Int) × Unit) × Unit)) := callI E Fn G 19 (a0, a1, ())
noncomputable def F27 (a0 : List UInt8) (a1 : Int) : Option (((Int × Unit) × Unit)) := callI E Fn G 27 (a0, a1, ())
noncomputable def F47 (a0 : List UInt8) (a1 : List UInt8) : Option (((List UInt8 × Unit) × Unit)) := callI E Fn G 47 (a0, a1, ())
noncomputable def F7 : Option (((Bool × Unit) × Unit)) := callI E Fn G 7 ()
theorem F5_eq (a0 : Int) (a1 : Int) : F5 a0 a1 =
 (F17 a0).bind fun r0 =>
 (F6 (((118 : Int), ((1 : Int), false)) :: []) (r0.1.1 :: [])).bind fun r1 =>
 (F17 a1).bind fun r2 =>
 (F6 (((118 : Int), ((1 : Int), false)) :: []) (r2.1.1 :: [])).bind fun r3 =>
 (F11 (((118 : Int), ((1 : Int), false)) :: [])).bind fun r4 =>
 (F7).bind fun r5 =>
 if ((!r5.1.1) = true) then
  some ((false, ()), ())
 else
  if ((r1.1.2.1.1 != (0 : Int)) = true) then
   some ((false, ()), ())
  else
   if ((r3.1.2.1.1 != (0 : Int)) = true) then
    some ((false, ()), ())
   else
    if ((r4.1.2.2.1.1 != (0 : Int)) = true) then
     some ((false, ()), ())
    else
     if (((((List.length r1.1.1) : Nat) : Int) == (0 : Int)) = true) then
      some ((false, ()), ())
     else
      if ((decide ((((List.length r1.1.1) : Nat) : Int) < r4.1.1)) = true) then
       some ((false, ()), ())
      else
       if ((decide ((((List.length r1.1.1) : Nat) : Int) > r4.1.2.1)) = true) then
        some ((false, ()), ())
       else
        if ((decide ((((List.length r3.1.1) : Nat) : Int) < r4.1.1)) = true) then
         some ((false, ()), ())
        else
         if ((decide ((((List.length r3.1.1) : Nat) : Int) > r4.1.2.1)) = true) then
          some ((false, ()), ())
         else
          F5_J7 a0 a1 (((118 : Int), ((1 : Int), false)) :: []) r1.1.1 r3.1.1 := (callI_code (fn := Tryd.f5) (h := h5) (by kernel_rfl)).trans (by kernel_rfl)
theorem F5_J7_eq (x0 : Int) (x1 : Int) (x2 : List ((Int × (Int × Bool)))) (x3 : List (Int)) (x4 : List (Int)) : F5_J7 x0 x1 x2 x3 x4 =
 if ((decide (x0 < (0 : Int))) = true) then
  F5_J10 x0 x1 x2 x3 x4 (IntKind.wrap .i64 ((-1 : Int) - x0)) x1
 else
  F5_J10 x0 x1 x2 x3 x4 x0 x1 := partJ_go.trans (by kernel_rfl)
theorem F5_J10_eq (x0 : Int) (x1 : Int) (x2 : List ((Int × (Int × Bool)))) (x3 : List (Int)) (x4 : List (Int)) (x5 : Int) (x6 : Int) : F5_J10 x0 x1 x2 x3 x4 x5 x6 =
 if ((decide (x6 < (0 : Int))) = true) then
  F5_J12 x0 x1 x2 x3 x4 x5 (IntKind.wrap .i64 ((-1 : Int) - x6))
 else
  F5_J12 x0 x1 x2 x3 x4 x5 x6 := partJ_go.trans (by kernel_rfl)
theorem F5_J12_eq (x0 : Int) (x1 : Int) (x2 : List ((Int × (Int × Bool)))) (x3 : List (Int)) (x4 : List (Int)) (x5 : Int) (x6 : Int) : F5_J12 x0 x1 x2 x3 x4 x5 x6 =
 if ((decide (x5 ≤ x6)) = true) then
  if ((decide ((((List.length x3) : Nat) : Int) > (((List.length x4) : Nat) : Int))) = true) then
   some ((false, ()), ())
  else
   if ((x0 != x1) = true) then
    (F8 x3 x4).bind fun r0 =>
    if (r0.1.1 = true) then
     some ((false, ()), ())
    else
     F5_J14 x2 x3
   else
    F5_J14 x2 x3
 else
  if ((x0 != x1) = true) then
   (F8 x3 x4).bind fun r1 =>
   if (r1.1.1 = true) then
    some ((false, ()), ())
   else
    F5_J14 x2 x3
  else
   F5_J14 x2 x3 := partJ_go.trans (by kernel_rfl)
theorem F5_J14_eq (x0 : List ((Int × (Int × Bool)))) (x1 : List (Int)) : F5_J14 x0 x1 =
 if (((0 : Int) ≤ (0 : Int)) ∧ (((0 : Int) ≤ (IntKind.wrap .i64 ((((List.length x1) : Nat) : Int) - (1 : Int)))) ∧ ((IntKind.wrap .i64 ((((List.length x1) : Nat) : Int) - (1 : Int))) ≤ (((List.length x1) : Nat) : Int)))) then
  (F18 x0 (List.drop 0 (List.take (Int.toNat (IntKind.wrap .i64 ((((List.length x1) : Nat) : Int) - (1 : Int)))) x1))).bind fun r0 =>
  if (((List.length x1) * 1) ≤ 140737488355328) then
   if ((((List.length x1) + (List.length ((0 : Int) :: ([] : List Int)))) * 1) ≤ 140737488355328) then
    (F18 x0 (x1 ++ ((0 : Int) :: ([] : List Int)))).bind fun r1 =>
    (F19 (15 : Int) (0 : Int)).bind fun r2 =>
    if (((decide (r0.1.2.1.1 = r2.1.1.1)) && ((decide (r0.1.2.1.2 = r2.1.1.2)) && true)) = true) then
     (F19 (3 : Int) (-2 : Int)).bind fun r3 =>
     some ((((decide (r1.1.2.1.1 = r3.1.1.1)) && ((decide (r1.1.2.1.2 = r3.1.1.2)) && true)), ()), ())
    else
     some ((false, ()), ())
   else
    none
  else
   none
 else
  none := partJ_go.trans (by kernel_rfl)
theorem F17_eq (a0 : Int) : F17 a0 =
 (F33 a0).bind fun r0 =>
 some ((((2 : Int), (r0.1.1, ((false, ([] : List Int)), ([], (0 : Int))))), ()), ()) := (callI_code (fn := Tryd.f17) (h := h17) (by kernel_rfl)).trans (by kernel_rfl)
theorem F33_eq (a0 : Int) : F33 a0 =
 if ((decide (a0 < (0 : Int))) = true) then
  F33_J4 a0 (IntKind.wrap .u64 ((0 : Int) - (IntKind.wrap .u64 a0))) false
 else
  F33_J4 a0 (IntKind.wrap .u64 a0) false := (callI_code (fn := Tryd.f33) (h := h33) (by kernel_rfl)).trans (by kernel_rfl)
theorem F33_J4_eq (x0 : Int) (x1 : Int) (x2 : Bool) : F33_J4 x0 x1 x2 =
 F33_L5 x0 x2 ((IntKind.wrap .u32 x1) :: ((IntKind.wrap .u32 (shrI .u64 x1 32)) :: ([] : List Int))) := partJ_go.trans (by kernel_rfl)
theorem F33_L5_eq (x0 : Int) (x1 : Bool) (x2 : List (Int)) : F33_L5 x0 x1 x2 =
 if ((decide ((((List.length x2) : Nat) : Int) > (0 : Int))) = true) then
  if ((0 : Int) ≤ (IntKind.wrap .i64 ((((List.length x2) : Nat) : Int) - (1 : Int)))) then
   if ((IntKind.wrap .i64 ((((List.length x2) : Nat) : Int) - (1 : Int))) < (((List.length x2) : Nat) : Int)) then
    if (((List.getD x2 (Int.toNat (IntKind.wrap .i64 ((((List.length x2) : Nat) : Int) - (1 : Int)))) (0 : Int)) == (0 : Int)) = true) then
     F33_J6 x0 x1 x2
    else
     F33_J7 x0 x1 x2
   else
    none
  else
   none
 else
  F33_J7 x0 x1 x2 := partL_go.trans (loopI_eq.trans (by kernel_rfl))
theorem F33_J6_eq (x0 : Int) (x1 : Bool) (x2 : List (Int)) : F33_J6 x0 x1 x2 =
 if (((0 : Int) ≤ (0 : Int)) ∧ (((0 : Int) ≤ (IntKind.wrap .i64 ((((List.length x2) : Nat) : Int) - (1 : Int)))) ∧ ((IntKind.wrap .i64 ((((List.length x2) : Nat) : Int) - (1 : Int))) ≤ (((List.length x2) : Nat) : Int)))) then
  F33_L5_1 x0 (List.drop 0 (List.take (Int.toNat (IntKind.wrap .i64 ((((List.length x2) : Nat) : Int) - (1 : Int)))) x2)) x1
 else
  none := partJ_go.trans (by kernel_rfl)
theorem F33_J7_eq (x0 : Int) (x1 : Bool) (x2 : List (Int)) : F33_J7 x0 x1 x2 =
 some ((((decide (x0 < (0 : Int))), x2), ()), ()) := partJ_go.trans (by kernel_rfl)
theorem F33_L5_1_eq (x0 : Int) (x1 : List (Int)) (x2 : Bool) : F33_L5_1 x0 x1 x2 =
 if ((decide ((((List.length x1) : Nat) : Int) > (0 : Int))) = true) then
  if ((0 : Int) ≤ (IntKind.wrap .i64 ((((List.length x1) : Nat) : Int) - (1 : Int)))) then
   if ((IntKind.wrap .i64 ((((List.length x1) : Nat) : Int) - (1 : Int))) < (((List.length x1) : Nat) : Int)) then
    if (((List.getD x1 (Int.toNat (IntKind.wrap .i64 ((((List.length x1) : Nat) : Int) - (1 : Int)))) (0 : Int)) == (0 : Int)) = true) then
     F33_J6_1 x0 x1 x2
    else
     F33_J7_1 x0 x1 x2
   else
    none
  else
   none
 else
  F33_J7_1 x0 x1 x2 := partL_go.trans (loopI_eq.trans (by kernel_rfl))
theorem F33_J6_1_eq (x0 : Int) (x1 : List (Int)) (x2 : Bool) : F33_J6_1 x0 x1 x2 =
 if (((0 : Int) ≤ (0 : Int)) ∧ (((0 : Int) ≤ (IntKind.wrap .i64 ((((List.length x1) : Nat) : Int) - (1 : Int)))) ∧ ((IntKind.wrap .i64 ((((List.length x1) : Nat) : Int) - (1 : Int))) ≤ (((List.length x1) : Nat) : Int)))) then
  F33_L5_1 x0 (List.drop 0 (List.take (Int.toNat (IntKind.wrap .i64 ((((List.length x1) : Nat) : Int) - (1 : Int)))) x1)) x2
 else
  none := partJ_go.trans (by kernel_rfl)
theorem F33_J7_1_eq (x0 : Int) (x1 : List (Int)) (x2 : Bool) : F33_J7_1 x0 x1 x2 =
 some ((((decide (x0 < (0 : Int))), x1), ()), ()) := partJ_go.trans (by kernel_rfl)
theorem F6_eq (a0 : List ((Int × (Int × Bool)))) (a1 : List ((Int × ((Bool × List (Int)) × ((Bool × List (Int)) × (List UInt8 × Int)))))) : F6 a0 a1 =
 (F15 a0).bind fun r0 =>
 if ((r0.1.1.1 != (0 : Int)) = true) then
  some ((([] : List Int), (r0.1.1, ())), ())
 else
  F6_J4 a0 a1 (0 : Int) (0 : Int) := (callI_code (fn := Tryd.f6) (h := h6) (by kernel_rfl)).trans (by kernel_rfl)
theorem F6_J4_eq (x0 : List ((Int × (Int × Bool)))) (x1 : List ((Int × ((Bool × List (Int)) × ((Bool × List (Int)) × (List UInt8 × Int)))))) (x2 : Int) (x3 : Int) : F6_J4 x0 x1 x2 x3 =
 (F20 x0).bind fun r0 =>
 if (((((List.length x1) : Nat) : Int) != r0.1.1) = true) then
  (F21 (9 : Int) (-2 : Int)).bind fun r1 =>
  some ((([] : List Int), (r1.1.1, ())), ())
 else
  F6_J6 x0 x1 x2 x3 := partJ_go.trans (by kernel_rfl)
theorem F6_J6_eq (x0 : List ((Int × (Int × Bool)))) (x1 : List ((Int × ((Bool × List (Int)) × ((Bool × List (Int)) × (List UInt8 × Int)))))) (x2 : Int) (x3 : Int) : F6_J6 x0 x1 x2 x3 =
 F6_L9 x1 (0 : Int) x0 (((List.length x0) : Nat) : Int) (0 : Int) x2 x3 ([] : List Int) := partJ_go.trans (by kernel_rfl)
theorem F6_L9_eq (x0 : List ((Int × ((Bool × List (Int)) × ((Bool × List (Int)) × (List UInt8 × Int)))))) (x1 : Int) (x2 : List ((Int × (Int × Bool)))) (x3 : Int) (x4 : Int) (x5 : Int) (x6 : Int) (x7 : List (Int)) : F6_L9 x0 x1 x2 x3 x4 x5 x6 x7 =
 if ((decide (x4 < x3)) = true) then
  F6_J10 x0 x1 x2 x3 x4 x5 x6 x7
 else
  F6_J21 x5 x6 x7 := partL_go.trans (loopI_eq.trans (by kernel_rfl))
theorem F6_J10_eq (x0 : List ((Int × ((Bool × List (Int)) × ((Bool × List (Int)) × (List UInt8 × Int)))))) (x1 : Int) (x2 : List ((Int × (Int × Bool)))) (x3 : Int) (x4 : Int) (x5 : Int) (x6 : Int) (x7 : List (Int)) : F6_J10 x0 x1 x2 x3 x4 x5 x6 x7 =
 if ((0 : Int) ≤ x4) then
  if (x4 < (((List.length x2) : Nat) : Int)) then
   if (((List.getD x2 (Int.toNat x4) ((0 : Int), ((0 : Int), false))).1 == (120 : Int)) = true) then
    none
   else
    F6_J13 x0 x1 x2 x3 x4 x5 x6 x7 (List.getD x2 (Int.toNat x4) ((0 : Int), ((0 : Int), false))).1 (List.getD x2 (Int.toNat x4) ((0 : Int), ((0 : Int), false))).2.1 (List.getD x2 (Int.toNat x4) ((0 : Int), ((0 : Int), false))).2.2
  else
   none
 else
  none := partJ_go.trans (by kernel_rfl)
theorem F6_J21_eq (x0 : Int) (x1 : Int) (x2 : List (Int)) : F6_J21 x0 x1 x2 =
 some ((x2, (((0 : Int), (0 : Int)), ())), ()) := partJ_go.trans (by kernel_rfl)
theorem F6_J13_eq (x0 : List ((Int × ((Bool × List (Int)) × ((Bool × List (Int)) × (List UInt8 × Int)))))) (x1 : Int) (x2 : List ((Int × (Int × Bool)))) (x3 : Int) (x4 : Int) (x5 : Int) (x6 : Int) (x7 : List (Int)) (x8 : Int) (x9 : Int) (x10 : Bool) : F6_J13 x0 x1 x2 x3 x4 x5 x6 x7 x8 x9 x10 =
 if ((0 : Int) ≤ x1) then
  if (x1 < (((List.length x0) : Nat) : Int)) then
   (F22 (List.getD x0 (Int.toNat x1) ((0 : Int), ((false, ([] : List (Int))), ((false, ([] : List (Int))), (([] : List UInt8), (0 : Int))))))).bind fun r0 =>
   if ((!r0.1.1) = true) then
    (F21 (6 : Int) x1).bind fun r1 =>
    some ((([] : List Int), (r1.1.1, ())), ())
   else
    F6_J15 x0 x1 x2 x3 x4 x5 x6 x7 x8 x9 x10
  else
   none
 else
  none := partJ_go.trans (by kernel_rfl)
theorem F6_J15_eq (x0 : List ((Int × ((Bool × List (Int)) × ((Bool × List (Int)) × (List UInt8 × Int)))))) (x1 : Int) (x2 : List ((Int × (Int × Bool)))) (x3 : Int) (x4 : Int) (x5 : Int) (x6 : Int) (x7 : List (Int)) (x8 : Int) (x9 : Int) (x10 : Bool) : F6_J15 x0 x1 x2 x3 x4 x5 x6 x7 x8 x9 x10 =
 if ((0 : Int) ≤ x1) then
  if (x1 < (((List.length x0) : Nat) : Int)) then
   (F23 x7 (x8, (x9, x10)) (List.getD x0 (Int.toNat x1) ((0 : Int), ((false, ([] : List (Int))), ((false, ([] : List (Int))), (([] : List UInt8), (0 : Int))))))).bind fun r0 =>
   if ((r0.1.2.1 != (0 : Int)) = true) then
    (F21 r0.1.2.1 x1).bind fun r1 =>
    some ((([] : List Int), (r1.1.1, ())), ())
   else
    F6_J18 x0 x1 x2 x3 x4 x5 x6 r0.1.1
  else
   none
 else
  none := partJ_go.trans (by kernel_rfl)
theorem F6_J18_eq (x0 : List ((Int × ((Bool × List (Int)) × ((Bool × List (Int)) × (List UInt8 × Int)))))) (x1 : Int) (x2 : List ((Int × (Int × Bool)))) (x3 : Int) (x4 : Int) (x5 : Int) (x6 : Int) (x7 : List (Int)) : F6_J18 x0 x1 x2 x3 x4 x5 x6 x7 =
 F6_J20 x0 (IntKind.wrap .i64 (x1 + (1 : Int))) x2 x3 x4 x5 x6 x7 := partJ_go.trans (by kernel_rfl)
theorem F6_J20_eq (x0 : List ((Int × ((Bool × List (Int)) × ((Bool × List (Int)) × (List UInt8 × Int)))))) (x1 : Int) (x2 : List ((Int × (Int × Bool)))) (x3 : Int) (x4 : Int) (x5 : Int) (x6 : Int) (x7 : List (Int)) : F6_J20 x0 x1 x2 x3 x4 x5 x6 x7 =
 F6_L9 x0 x1 x2 x3 (IntKind.wrap .i64 (x4 + (1 : Int))) x5 x6 x7 := partJ_go.trans (by kernel_rfl)
theorem F15_eq (a0 : List ((Int × (Int × Bool)))) : F15 a0 =
 if ((decide ((((List.length a0) : Nat) : Int) > (100 : Int))) = true) then
  (F21 (2 : Int) (-1 : Int)).bind fun r0 =>
  some ((r0.1.1, ()), ())
 else
  F15_J3 a0 (0 : Int) (0 : Int) := (callI_code (fn := Tryd.f15) (h := h15) (by kernel_rfl)).trans (by kernel_rfl)
theorem F15_J3_eq (x0 : List ((Int × (Int × Bool)))) (x1 : Int) (x2 : Int) : F15_J3 x0 x1 x2 =
 F15_L4 x0 x0 (((List.length x0) : Nat) : Int) (0 : Int) x1 x2 := partJ_go.trans (by kernel_rfl)
theorem F15_L4_eq (x0 : List ((Int × (Int × Bool)))) (x1 : List ((Int × (Int × Bool)))) (x2 : Int) (x3 : Int) (x4 : Int) (x5 : Int) : F15_L4 x0 x1 x2 x3 x4 x5 =
 if ((decide (x3 < x2)) = true) then
  F15_J5 x0 x1 x2 x3 x4 x5
 else
  F15_J14 x4 x5 := partL_go.trans (loopI_eq.trans (by kernel_rfl))
theorem F15_J5_eq (x0 : List ((Int × (Int × Bool)))) (x1 : List ((Int × (Int × Bool)))) (x2 : Int) (x3 : Int) (x4 : Int) (x5 : Int) : F15_J5 x0 x1 x2 x3 x4 x5 =
 if ((0 : Int) ≤ x3) then
  if (x3 < (((List.length x1) : Nat) : Int)) then
   if (((List.getD x1 (Int.toNat x3) ((0 : Int), ((0 : Int), false))).1 == (0 : Int)) = true) then
    (F21 (5 : Int) x3).bind fun r0 =>
    some ((r0.1.1, ()), ())
   else
    (F27 (98 :: (66 :: (104 :: (72 :: (105 :: (73 :: (113 :: (81 :: (118 :: (115 :: (112 :: (120 :: (63 :: []))))))))))))) (List.getD x1 (Int.toNat x3) ((0 : Int), ((0 : Int), false))).1).bind fun r1 =>
    if ((decide (r1.1.1 < (0 : Int))) = true) then
     (F21 (5 : Int) x3).bind fun r2 =>
     some ((r2.1.1, ()), ())
    else
     (F28 (List.getD x1 (Int.toNat x3) ((0 : Int), ((0 : Int), false))).1).bind fun r3 =>
     if (r3.1.1 = true) then
      if ((decide ((List.getD x1 (Int.toNat x3) ((0 : Int), ((0 : Int), false))).2.1 < (0 : Int))) = true) then
       (F21 (4 : Int) x3).bind fun r4 =>
       some ((r4.1.1, ()), ())
      else
       if ((decide ((List.getD x1 (Int.toNat x3) ((0 : Int), ((0 : Int), false))).2.1 > (100 : Int))) = true) then
        if ((decide ((List.getD x1 (Int.toNat x3) ((0 : Int), ((0 : Int), false))).2.1 > (100 : Int))) = true) then
         (F21 (4 : Int) x3).bind fun r5 =>
         some ((r5.1.1, ()), ())
        else
         if ((0 : Int) ≤ (0 : Int)) then
          if ((0 : Int) < (((List.length x0) : Nat) : Int)) then
           if ((!((List.getD x1 (Int.toNat x3) ((0 : Int), ((0 : Int), false))).2.2 == (List.getD x0 (Int.toNat (0 : Int)) ((0 : Int), ((0 : Int), false))).2.2)) = true) then
            (F21 (19 : Int) x3).bind fun r6 =>
            some ((r6.1.1, ()), ())
           else
            F15_J13 x0 x1 x2 x3 x4 x5
          else
           none
         else
          none
       else
        (F28 (List.getD x1 (Int.toNat x3) ((0 : Int), ((0 : Int), false))).1).bind fun r7 =>
        if ((!r7.1.1) = true) then
         if (((List.getD x1 (Int.toNat x3) ((0 : Int), ((0 : Int), false))).2.1 != (1 : Int)) = true) then
          (F21 (4 : Int) x3).bind fun r8 =>
          some ((r8.1.1, ()), ())
         else
          if ((0 : Int) ≤ (0 : Int)) then
           if ((0 : Int) < (((List.length x0) : Nat) : Int)) then
            if ((!((List.getD x1 (Int.toNat x3) ((0 : Int), ((0 : Int), false))).2.2 == (List.getD x0 (Int.toNat (0 : Int)) ((0 : Int), ((0 : Int), false))).2.2)) = true) then
             (F21 (19 : Int) x3).bind fun r9 =>
             some ((r9.1.1, ()), ())
            else
             F15_J13 x0 x1 x2 x3 x4 x5
           else
            none
          else
           none
        else
         if ((0 : Int) ≤ (0 : Int)) then
          if ((0 : Int) < (((List.length x0) : Nat) : Int)) then
           if ((!((List.getD x1 (Int.toNat x3) ((0 : Int), ((0 : Int), false))).2.2 == (List.getD x0 (Int.toNat (0 : Int)) ((0 : Int), ((0 : Int), false))).2.2)) = true) then
            (F21 (19 : Int) x3).bind fun r10 =>
            some ((r10.1.1, ()), ())
           else
            F15_J13 x0 x1 x2 x3 x4 x5
          else
           none
         else
          none
     else
      (F28 (List.getD x1 (Int.toNat x3) ((0 : Int), ((0 : Int), false))).1).bind fun r11 =>
      if ((!r11.1.1) = true) then
       if (((List.getD x1 (Int.toNat x3) ((0 : Int), ((0 : Int), false))).2.1 != (1 : Int)) = true) then
        (F21 (4 : Int) x3).bind fun r12 =>
        some ((r12.1.1, ()), ())
       else
        if ((0 : Int) ≤ (0 : Int)) then
         if ((0 : Int) < (((List.length x0) : Nat) : Int)) then
          if ((!((List.getD x1 (Int.toNat x3) ((0 : Int), ((0 : Int), false))).2.2 == (List.getD x0 (Int.toNat (0 : Int)) ((0 : Int), ((0 : Int), false))).2.2)) = true) then
           (F21 (19 : Int) x3).bind fun r13 =>
           some ((r13.1.1, ()), ())
          else
           F15_J13 x0 x1 x2 x3 x4 x5
         else
          none
        else
         none
      else
       if ((0 : Int) ≤ (0 : Int)) then
        if ((0 : Int) < (((List.length x0) : Nat) : Int)) then
         if ((!((List.getD x1 (Int.toNat x3) ((0 : Int), ((0 : Int), false))).2.2 == (List.getD x0 (Int.toNat (0 : Int)) ((0 : Int), ((0 : Int), false))).2.2)) = true) then
          (F21 (19 : Int) x3).bind fun r14 =>
          some ((r14.1.1, ()), ())
         else
          F15_J13 x0 x1 x2 x3 x4 x5
        else
         none
       else
        none
  else
   none
 else
  none := partJ_go.trans (by kernel_rfl)
theorem F15_J14_eq (x0 : Int) (x1 : Int) : F15_J14 x0 x1 =
 some ((((0 : Int), (0 : Int)), ()), ()) := partJ_go.trans (by kernel_rfl)
theorem F15_J13_eq (x0 : List ((Int × (Int × Bool)))) (x1 : List ((Int × (Int × Bool)))) (x2 : Int) (x3 : Int) (x4 : Int) (x5 : Int) : F15_J13 x0 x1 x2 x3 x4 x5 =
 F15_L4 x0 x1 x2 (IntKind.wrap .i64 (x3 + (1 : Int))) x4 x5 := partJ_go.trans (by kernel_rfl)
theorem F21_eq (a0 : Int) (a1 : Int) : F21 a0 a1 =
 some (((a0, a1), ()), ()) := (callI_code (fn := Tryd.f21) (h := h21) (by kernel_rfl)).trans (by kernel_rfl)
theorem F28_eq (a0 : Int) : F28 a0 =
 if ((a0 == (115 : Int)) = true) then
  some ((true, ()), ())
 else
  some (((a0 == (120 : Int)), ()), ()) := (callI_code (fn := Tryd.f28) (h := h28) (by kernel_rfl)).trans (by kernel_rfl)
theorem F20_eq (a0 : List ((Int × (Int × Bool)))) : F20 a0 =
 F20_L3 (0 : Int) a0 (((List.length a0) : Nat) : Int) (0 : Int) := (callI_code (fn := Tryd.f20) (h := h20) (by kernel_rfl)).trans (by kernel_rfl)
theorem F20_L3_eq (x0 : Int) (x1 : List ((Int × (Int × Bool)))) (x2 : Int) (x3 : Int) : F20_L3 x0 x1 x2 x3 =
 if ((decide (x3 < x2)) = true) then
  F20_J4 x0 x1 x2 x3
 else
  F20_J8 x0 := partL_go.trans (loopI_eq.trans (by kernel_rfl))
theorem F20_J4_eq (x0 : Int) (x1 : List ((Int × (Int × Bool)))) (x2 : Int) (x3 : Int) : F20_J4 x0 x1 x2 x3 =
 if ((0 : Int) ≤ x3) then
  if (x3 < (((List.length x1) : Nat) : Int)) then
   if (((List.getD x1 (Int.toNat x3) ((0 : Int), ((0 : Int), false))).1 != (120 : Int)) = true) then
    F20_J7 (IntKind.wrap .i64 (x0 + (1 : Int))) x1 x2 x3
   else
    F20_J7 x0 x1 x2 x3
  else
   none
 else
  none := partJ_go.trans (by kernel_rfl)
theorem F20_J8_eq (x0 : Int) : F20_J8 x0 =
 some ((x0, ()), ()) := partJ_go.trans (by kernel_rfl)
theorem F20_J7_eq (x0 : Int) (x1 : List ((Int × (Int × Bool)))) (x2 : Int) (x3 : Int) : F20_J7 x0 x1 x2 x3 =
 F20_L3 x0 x1 x2 (IntKind.wrap .i64 (x3 + (1 : Int))) := partJ_go.trans (by kernel_rfl)
theorem F22_eq (a0 : (Int × ((Bool × List (Int)) × ((Bool × List (Int)) × (List UInt8 × Int))))) : F22 a0 =
 if ((a0.1 == (2 : Int)) = true) then
  (F35 a0.2.1).bind fun r0 =>
  some ((r0.1.1, ()), ())
 else
  if ((a0.1 == (1 : Int)) = true) then
   if ((a0.2.2.2.2 == (0 : Int)) = true) then
    some ((true, ()), ())
   else
    some (((a0.2.2.2.2 == (1 : Int)), ()), ())
  else
   F22_J6 := (callI_code (fn := Tryd.f22) (h := h22) (by kernel_rfl)).trans (by kernel_rfl)
theorem F22_J6_eq : F22_J6 =
 some ((true, ()), ()) := partJ_go.trans (by kernel_rfl)
theorem F35_eq (a0 : (Bool × List (Int))) : F35 a0 =
 if ((decide ((((List.length a0.2) : Nat) : Int) ≤ (128 : Int))) = true) then
  if (((((List.length a0.2) : Nat) : Int) == (0 : Int)) = true) then
   if ((!a0.1) = true) then
    some ((true, ()), ())
   else
    if ((decide ((((List.length a0.2) : Nat) : Int) > (0 : Int))) = true) then
     if ((0 : Int) ≤ (IntKind.wrap .i64 ((((List.length a0.2) : Nat) : Int) - (1 : Int)))) then
      if ((IntKind.wrap .i64 ((((List.length a0.2) : Nat) : Int) - (1 : Int))) < (((List.length a0.2) : Nat) : Int)) then
       some ((((List.getD a0.2 (Int.toNat (IntKind.wrap .i64 ((((List.length a0.2) : Nat) : Int) - (1 : Int)))) (0 : Int)) != (0 : Int)), ()), ())
      else
       none
     else
      none
    else
     some ((false, ()), ())
  else
   if ((decide ((((List.length a0.2) : Nat) : Int) > (0 : Int))) = true) then
    if ((0 : Int) ≤ (IntKind.wrap .i64 ((((List.length a0.2) : Nat) : Int) - (1 : Int)))) then
     if ((IntKind.wrap .i64 ((((List.length a0.2) : Nat) : Int) - (1 : Int))) < (((List.length a0.2) : Nat) : Int)) then
      some ((((List.getD a0.2 (Int.toNat (IntKind.wrap .i64 ((((List.length a0.2) : Nat) : Int) - (1 : Int)))) (0 : Int)) != (0 : Int)), ()), ())
     else
      none
    else
     none
   else
    some ((false, ()), ())
 else
  some ((false, ()), ()) := (callI_code (fn := Tryd.f35) (h := h35) (by kernel_rfl)).trans (by kernel_rfl)
theorem F23_eq (a0 : List (Int)) (a1 : (Int × (Int × Bool))) (a2 : (Int × ((Bool × List (Int)) × ((Bool × List (Int)) × (List UInt8 × Int))))) : F23 a0 a1 a2 =
 if ((a1.1 == (115 : Int)) = true) then
  if ((a1.1 == (115 : Int)) = true) then
   F23_J8 (5 : Int) a0 a1.1 a1.2.1 a1.2.2 a2.1 a2.2.1.1 a2.2.1.2 a2.2.2.1.1 a2.2.2.1.2 a2.2.2.2.1 a2.2.2.2.2
  else
   if ((a1.1 == (63 : Int)) = true) then
    F23_J8 (1 : Int) a0 a1.1 a1.2.1 a1.2.2 a2.1 a2.2.1.1 a2.2.1.2 a2.2.2.1.1 a2.2.2.1.2 a2.2.2.2.1 a2.2.2.2.2
   else
    F23_J8 (2 : Int) a0 a1.1 a1.2.1 a1.2.2 a2.1 a2.2.1.1 a2.2.1.2 a2.2.2.1.1 a2.2.2.1.2 a2.2.2.2.1 a2.2.2.2.2
 else
  if ((a1.1 == (112 : Int)) = true) then
   F23_J8 (5 : Int) a0 a1.1 a1.2.1 a1.2.2 a2.1 a2.2.1.1 a2.2.1.2 a2.2.2.1.1 a2.2.2.1.2 a2.2.2.2.1 a2.2.2.2.2
  else
   if ((a1.1 == (63 : Int)) = true) then
    F23_J8 (1 : Int) a0 a1.1 a1.2.1 a1.2.2 a2.1 a2.2.1.1 a2.2.1.2 a2.2.2.1.1 a2.2.2.1.2 a2.2.2.2.1 a2.2.2.2.2
   else
    F23_J8 (2 : Int) a0 a1.1 a1.2.1 a1.2.2 a2.1 a2.2.1.1 a2.2.1.2 a2.2.2.1.1 a2.2.2.1.2 a2.2.2.2.1 a2.2.2.2.2 := (callI_code (fn := Tryd.f23) (h := h23) (by kernel_rfl)).trans (by kernel_rfl)
theorem F23_J8_eq (x0 : Int) (x1 : List (Int)) (x2 : Int) (x3 : Int) (x4 : Bool) (x5 : Int) (x6 : Bool) (x7 : List (Int)) (x8 : Bool) (x9 : List (Int)) (x10 : List UInt8) (x11 : Int) : F23_J8 x0 x1 x2 x3 x4 x5 x6 x7 x8 x9 x10 x11 =
 if ((x5 != x0) = true) then
  some ((([] : List Int), ((13 : Int), ())), ())
 else
  F23_J10 x1 x2 x3 x4 x5 x6 x7 x8 x9 x10 x11 := partJ_go.trans (by kernel_rfl)
theorem F23_J10_eq (x0 : List (Int)) (x1 : Int) (x2 : Int) (x3 : Bool) (x4 : Int) (x5 : Bool) (x6 : List (Int)) (x7 : Bool) (x8 : List (Int)) (x9 : List UInt8) (x10 : Int) : F23_J10 x0 x1 x2 x3 x4 x5 x6 x7 x8 x9 x10 =
 if ((x1 == (115 : Int)) = true) then
  if (((((List.length x9) : Nat) : Int) != x2) = true) then
   some ((([] : List Int), ((9 : Int), ())), ())
  else
   F23_J14 x0 x4 x5 x6 x7 x8 x9 x10
 else
  if ((x1 == (112 : Int)) = true) then
   if ((decide ((((List.length x9) : Nat) : Int) > (255 : Int))) = true) then
    some ((([] : List Int), ((9 : Int), ())), ())
   else
    F23_J18 x0 x4 x5 x6 x7 x8 x9 x10
  else
   if ((x1 == (63 : Int)) = true) then
    if ((((List.length x0) + (List.length ((IntKind.wrap .u8 x10) :: ([] : List Int)))) * 1) ≤ 140737488355328) then
     some (((x0 ++ ((IntKind.wrap .u8 x10) :: ([] : List Int))), ((0 : Int), ())), ())
    else
     none
   else
    F23_J21 x0 x1 x2 x3 x4 x5 x6 x7 x8 x9 x10 := partJ_go.trans (by kernel_rfl)
theorem F23_J14_eq (x0 : List (Int)) (x1 : Int) (x2 : Bool) (x3 : List (Int)) (x4 : Bool) (x5 : List (Int)) (x6 : List UInt8) (x7 : Int) : F23_J14 x0 x1 x2 x3 x4 x5 x6 x7 =
 none := partJ_go.trans (by kernel_rfl)
theorem F23_J18_eq (x0 : List (Int)) (x1 : Int) (x2 : Bool) (x3 : List (Int)) (x4 : Bool) (x5 : List (Int)) (x6 : List UInt8) (x7 : Int) : F23_J18 x0 x1 x2 x3 x4 x5 x6 x7 =
 if ((((List.length x0) + (List.length ((IntKind.wrap .u8 (((List.length x6) : Nat) : Int)) :: ([] : List Int)))) * 1) ≤ 140737488355328) then
  none
 else
  none := partJ_go.trans (by kernel_rfl)
theorem F23_J21_eq (x0 : List (Int)) (x1 : Int) (x2 : Int) (x3 : Bool) (x4 : Int) (x5 : Bool) (x6 : List (Int)) (x7 : Bool) (x8 : List (Int)) (x9 : List UInt8) (x10 : Int) : F23_J21 x0 x1 x2 x3 x4 x5 x6 x7 x8 x9 x10 =
 (F29 x1).bind fun r0 =>
 if ((x1 == (118 : Int)) = true) then
  F23_J24 (8 : Int) r0.1.2.1 x0 x1 x2 x3 x4 x5 x6 x7 x8 x9 x10
 else
  F23_J24 r0.1.1 r0.1.2.1 x0 x1 x2 x3 x4 x5 x6 x7 x8 x9 x10 := partJ_go.trans (by kernel_rfl)
theorem F23_J24_eq (x0 : Int) (x1 : Bool) (x2 : List (Int)) (x3 : Int) (x4 : Int) (x5 : Bool) (x6 : Int) (x7 : Bool) (x8 : List (Int)) (x9 : Bool) (x10 : List (Int)) (x11 : List UInt8) (x12 : Int) : F23_J24 x0 x1 x2 x3 x4 x5 x6 x7 x8 x9 x10 x11 x12 =
 (F36 (x7, x8) x0 x1).bind fun r0 =>
 if ((!r0.1.2.1) = true) then
  some ((([] : List Int), ((4 : Int), ())), ())
 else
  if ((x3 == (118 : Int)) = true) then
   (F37 x2 r0.1.1).bind fun r1 =>
   some ((r1.1.1, ((0 : Int), ())), ())
  else
   F23_J29 x0 r0.1.1 x2 x3 x4 x5 := partJ_go.trans (by kernel_rfl)
theorem F23_J29_eq (x0 : Int) (x1 : Int) (x2 : List (Int)) (x3 : Int) (x4 : Int) (x5 : Bool) : F23_J29 x0 x1 x2 x3 x4 x5 =
 (F38 x2 x1 x0 x5).bind fun r0 =>
 some ((r0.1.1, ((0 : Int), ())), ()) := partJ_go.trans (by kernel_rfl)
theorem F29_eq (a0 : Int) : F29 a0 =
 if ((a0 == (98 : Int)) = true) then
  if ((a0 == (98 : Int)) = true) then
   F29_J14 a0 (1 : Int)
  else
   if ((a0 == (104 : Int)) = true) then
    if ((a0 == (104 : Int)) = true) then
     F29_J14 a0 (2 : Int)
    else
     if ((a0 == (105 : Int)) = true) then
      if ((a0 == (105 : Int)) = true) then
       F29_J14 a0 (4 : Int)
      else
       if ((a0 == (113 : Int)) = true) then
        if ((a0 == (113 : Int)) = true) then
         F29_J14 a0 (8 : Int)
        else
         F29_J14 a0 (0 : Int)
       else
        if ((a0 == (81 : Int)) = true) then
         F29_J14 a0 (8 : Int)
        else
         F29_J14 a0 (0 : Int)
     else
      if ((a0 == (73 : Int)) = true) then
       F29_J14 a0 (4 : Int)
      else
       if ((a0 == (113 : Int)) = true) then
        if ((a0 == (113 : Int)) = true) then
         F29_J14 a0 (8 : Int)
        else
         F29_J14 a0 (0 : Int)
       else
        if ((a0 == (81 : Int)) = true) then
         F29_J14 a0 (8 : Int)
        else
         F29_J14 a0 (0 : Int)
   else
    if ((a0 == (72 : Int)) = true) then
     F29_J14 a0 (2 : Int)
    else
     if ((a0 == (105 : Int)) = true) then
      if ((a0 == (105 : Int)) = true) then
       F29_J14 a0 (4 : Int)
      else
       if ((a0 == (113 : Int)) = true) then
        if ((a0 == (113 : Int)) = true) then
         F29_J14 a0 (8 : Int)
        else
         F29_J14 a0 (0 : Int)
       else
        if ((a0 == (81 : Int)) = true) then
         F29_J14 a0 (8 : Int)
        else
         F29_J14 a0 (0 : Int)
     else
      if ((a0 == (73 : Int)) = true) then
       F29_J14 a0 (4 : Int)
      else
       if ((a0 == (113 : Int)) = true) then
        if ((a0 == (113 : Int)) = true) then
         F29_J14 a0 (8 : Int)
        else
         F29_J14 a0 (0 : Int)
       else
        if ((a0 == (81 : Int)) = true) then
         F29_J14 a0 (8 : Int)
        else
         F29_J14 a0 (0 : Int)
 else
  if ((a0 == (66 : Int)) = true) then
   F29_J14 a0 (1 : Int)
  else
   if ((a0 == (104 : Int)) = true) then
    if ((a0 == (104 : Int)) = true) then
     F29_J14 a0 (2 : Int)
    else
     if ((a0 == (105 : Int)) = true) then
      if ((a0 == (105 : Int)) = true) then
       F29_J14 a0 (4 : Int)
      else
       if ((a0 == (113 : Int)) = true) then
        if ((a0 == (113 : Int)) = true) then
         F29_J14 a0 (8 : Int)
        else
         F29_J14 a0 (0 : Int)
       else
        if ((a0 == (81 : Int)) = true) then
         F29_J14 a0 (8 : Int)
        else
         F29_J14 a0 (0 : Int)
     else
      if ((a0 == (73 : Int)) = true) then
       F29_J14 a0 (4 : Int)
      else
       if ((a0 == (113 : Int)) = true) then
        if ((a0 == (113 : Int)) = true) then
         F29_J14 a0 (8 : Int)
        else
         F29_J14 a0 (0 : Int)
       else
        if ((a0 == (81 : Int)) = true) then
         F29_J14 a0 (8 : Int)
        else
         F29_J14 a0 (0 : Int)
   else
    if ((a0 == (72 : Int)) = true) then
     F29_J14 a0 (2 : Int)
    else
     if ((a0 == (105 : Int)) = true) then
      if ((a0 == (105 : Int)) = true) then
       F29_J14 a0 (4 : Int)
      else
       if ((a0 == (113 : Int)) = true) then
        if ((a0 == (113 : Int)) = true) then
         F29_J14 a0 (8 : Int)
        else
         F29_J14 a0 (0 : Int)
       else
        if ((a0 == (81 : Int)) = true) then
         F29_J14 a0 (8 : Int)
        else
         F29_J14 a0 (0 : Int)
     else
      if ((a0 == (73 : Int)) = true) then
       F29_J14 a0 (4 : Int)
      else
       if ((a0 == (113 : Int)) = true) then
        if ((a0 == (113 : Int)) = true) then
         F29_J14 a0 (8 : Int)
        else
         F29_J14 a0 (0 : Int)
       else
        if ((a0 == (81 : Int)) = true) then
         F29_J14 a0 (8 : Int)
        else
         F29_J14 a0 (0 : Int) := (callI_code (fn := Tryd.f29) (h := h29) (by kernel_rfl)).trans (by kernel_rfl)
theorem F29_J14_eq (x0 : Int) (x1 : Int) : F29_J14 x0 x1 =
 some ((x1, ((decide (x0 ≥ (97 : Int))), ())), ()) := partJ_go.trans (by kernel_rfl)
theorem F36_eq (a0 : (Bool × List (Int))) (a1 : Int) (a2 : Bool) : F36 a0 a1 a2 =
 if ((decide ((((List.length a0.2) : Nat) : Int) > (2 : Int))) = true) then
  some (((0 : Int), (false, ())), ())
 else
  F36_J4 a1 a2 (0 : Int) a0.1 a0.2 := (callI_code (fn := Tryd.f36) (h := h36) (by kernel_rfl)).trans (by kernel_rfl)
theorem F36_J4_eq (x0 : Int) (x1 : Bool) (x2 : Int) (x3 : Bool) (x4 : List (Int)) : F36_J4 x0 x1 x2 x3 x4 =
 F36_L5 x0 x1 x2 x4 (((List.length x4) : Nat) : Int) (0 : Int) x3 x4 := partJ_go.trans (by kernel_rfl)
theorem F36_L5_eq (x0 : Int) (x1 : Bool) (x2 : Int) (x3 : List (Int)) (x4 : Int) (x5 : Int) (x6 : Bool) (x7 : List (Int)) : F36_L5 x0 x1 x2 x3 x4 x5 x6 x7 =
 if ((decide (x5 < x4)) = true) then
  F36_J6 x0 x1 x2 x3 x4 x5 x6 x7
 else
  F36_J9 x0 x1 x2 x6 x7 := partL_go.trans (loopI_eq.trans (by kernel_rfl))
theorem F36_J6_eq (x0 : Int) (x1 : Bool) (x2 : Int) (x3 : List (Int)) (x4 : Int) (x5 : Int) (x6 : Bool) (x7 : List (Int)) : F36_J6 x0 x1 x2 x3 x4 x5 x6 x7 =
 if ((0 : Int) ≤ x5) then
  if (x5 < (((List.length x3) : Nat) : Int)) then
   if ((IntKind.wrap .i64 ((32 : Int) * x5)) < (0 : Int)) then
    none
   else
    F36_L5 x0 x1 (bitI .or .u64 x2 (shlI .u64 (IntKind.wrap .u64 (List.getD x3 (Int.toNat x5) (0 : Int))) (Int.toNat (IntKind.wrap .i64 ((32 : Int) * x5))))) x3 x4 (IntKind.wrap .i64 (x5 + (1 : Int))) x6 x7
  else
   none
 else
  none := partJ_go.trans (by kernel_rfl)
theorem F36_J9_eq (x0 : Int) (x1 : Bool) (x2 : Int) (x3 : Bool) (x4 : List (Int)) : F36_J9 x0 x1 x2 x3 x4 =
 if ((IntKind.wrap .i64 ((IntKind.wrap .i64 ((8 : Int) * x0)) - (1 : Int))) < (0 : Int)) then
  none
 else
  if ((!x1) = true) then
   if ((!x3) = true) then
    some ((x2, ((decide ((shrI .u64 x2 1) < (shlI .u64 (1 : Int) (Int.toNat (IntKind.wrap .i64 ((IntKind.wrap .i64 ((8 : Int) * x0)) - (1 : Int))))))), ())), ())
   else
    some ((x2, (false, ())), ())
  else
   if (x3 = true) then
    some (((IntKind.wrap .u64 ((0 : Int) - x2)), ((decide (x2 ≤ (shlI .u64 (1 : Int) (Int.toNat (IntKind.wrap .i64 ((IntKind.wrap .i64 ((8 : Int) * x0)) - (1 : Int))))))), ())), ())
   else
    F36_J14 x2 (shlI .u64 (1 : Int) (Int.toNat (IntKind.wrap .i64 ((IntKind.wrap .i64 ((8 : Int) * x0)) - (1 : Int))))) := partJ_go.trans (by kernel_rfl)
theorem F36_J14_eq (x0 : Int) (x1 : Int) : F36_J14 x0 x1 =
 some ((x0, ((decide (x0 < x1)), ())), ()) := partJ_go.trans (by kernel_rfl)
theorem F37_eq (a0 : List (Int)) (a1 : Int) : F37 a0 a1 =
 F37_L2 (bitI .xor .u64 (shlI .u64 a1 1) (IntKind.wrap .u64 ((0 : Int) - (shrI .u64 a1 63)))) a0 := (callI_code (fn := Tryd.f37) (h := h37) (by kernel_rfl)).trans (by kernel_rfl)
theorem F37_L2_eq (x0 : Int) (x1 : List (Int)) : F37_L2 x0 x1 =
 if ((decide (x0 ≥ (128 : Int))) = true) then
  F37_J4 x0 x1
 else
  F37_J5 x0 x1 := partL_go.trans (loopI_eq.trans (by kernel_rfl))
theorem F37_J4_eq (x0 : Int) (x1 : List (Int)) : F37_J4 x0 x1 =
 if ((((List.length x1) + (List.length ((bitI .or .u8 (IntKind.wrap .u8 x0) (128 : Int)) :: ([] : List Int)))) * 1) ≤ 140737488355328) then
  F37_L2 (shrI .u64 x0 7) (x1 ++ ((bitI .or .u8 (IntKind.wrap .u8 x0) (128 : Int)) :: ([] : List Int)))
 else
  none := partJ_go.trans (by kernel_rfl)
theorem F37_J5_eq (x0 : Int) (x1 : List (Int)) : F37_J5 x0 x1 =
 if ((((List.length x1) + (List.length ((IntKind.wrap .u8 x0) :: ([] : List Int)))) * 1) ≤ 140737488355328) then
  some (((x1 ++ ((IntKind.wrap .u8 x0) :: ([] : List Int))), ()), ())
 else
  none := partJ_go.trans (by kernel_rfl)
theorem F38_eq (a0 : List (Int)) (a1 : Int) (a2 : Int) (a3 : Bool) : F38 a0 a1 a2 a3 =
 F38_L2 a1 a2 a3 a2 (0 : Int) a0 := (callI_code (fn := Tryd.f38) (h := h38) (by kernel_rfl)).trans (by kernel_rfl)
theorem F38_L2_eq (x0 : Int) (x1 : Int) (x2 : Bool) (x3 : Int) (x4 : Int) (x5 : List (Int)) : F38_L2 x0 x1 x2 x3 x4 x5 =
 if ((decide (x4 < x3)) = true) then
  F38_J3 x0 x1 x2 x3 x4 x5
 else
  F38_J9 x5 := partL_go.trans (loopI_eq.trans (by kernel_rfl))
theorem F38_J3_eq (x0 : Int) (x1 : Int) (x2 : Bool) (x3 : Int) (x4 : Int) (x5 : List (Int)) : F38_J3 x0 x1 x2 x3 x4 x5 =
 if (x2 = true) then
  F38_J7 x0 x1 x2 (IntKind.wrap .i64 ((IntKind.wrap .i64 (x1 - (1 : Int))) - x4)) x3 x4 x5
 else
  F38_J7 x0 x1 x2 x4 x3 x4 x5 := partJ_go.trans (by kernel_rfl)
theorem F38_J9_eq (x0 : List (Int)) : F38_J9 x0 =
 some ((x0, ()), ()) := partJ_go.trans (by kernel_rfl)
theorem F38_J7_eq (x0 : Int) (x1 : Int) (x2 : Bool) (x3 : Int) (x4 : Int) (x5 : Int) (x6 : List (Int)) : F38_J7 x0 x1 x2 x3 x4 x5 x6 =
 if ((IntKind.wrap .i64 ((8 : Int) * x3)) < (0 : Int)) then
  none
 else
  if ((((List.length x6) + (List.length ((IntKind.wrap .u8 (shrI .u64 x0 (Int.toNat (IntKind.wrap .i64 ((8 : Int) * x3))))) :: ([] : List Int)))) * 1) ≤ 140737488355328) then
   F38_J8 x0 x1 x2 x4 x5 (x6 ++ ((IntKind.wrap .u8 (shrI .u64 x0 (Int.toNat (IntKind.wrap .i64 ((8 : Int) * x3))))) :: ([] : List Int)))
  else
   none := partJ_go.trans (by kernel_rfl)
theorem F38_J8_eq (x0 : Int) (x1 : Int) (x2 : Bool) (x3 : Int) (x4 : Int) (x5 : List (Int)) : F38_J8 x0 x1 x2 x3 x4 x5 =
 F38_L2 x0 x1 x2 x3 (IntKind.wrap .i64 (x4 + (1 : Int))) x5 := partJ_go.trans (by kernel_rfl)
theorem F11_eq (a0 : List ((Int × (Int × Bool)))) : F11 a0 =
 (F15 a0).bind fun r0 =>
 if ((r0.1.1.1 != (0 : Int)) = true) then
  some (((0 : Int), ((0 : Int), (r0.1.1, ()))), ())
 else
  F11_J4 a0 (0 : Int) (0 : Int) (0 : Int) (0 : Int) := (callI_code (fn := Tryd.f11) (h := h11) (by kernel_rfl)).trans (by kernel_rfl)
theorem F11_J4_eq (x0 : List ((Int × (Int × Bool)))) (x1 : Int) (x2 : Int) (x3 : Int) (x4 : Int) : F11_J4 x0 x1 x2 x3 x4 =
 F11_L5 x1 x2 x0 (((List.length x0) : Nat) : Int) (0 : Int) x3 x4 := partJ_go.trans (by kernel_rfl)
theorem F11_L5_eq (x0 : Int) (x1 : Int) (x2 : List ((Int × (Int × Bool)))) (x3 : Int) (x4 : Int) (x5 : Int) (x6 : Int) : F11_L5 x0 x1 x2 x3 x4 x5 x6 =
 if ((decide (x4 < x3)) = true) then
  F11_J6 x0 x1 x2 x3 x4 x5 x6
 else
  F11_J17 x0 x1 x5 x6 := partL_go.trans (loopI_eq.trans (by kernel_rfl))
theorem F11_J6_eq (x0 : Int) (x1 : Int) (x2 : List ((Int × (Int × Bool)))) (x3 : Int) (x4 : Int) (x5 : Int) (x6 : Int) : F11_J6 x0 x1 x2 x3 x4 x5 x6 =
 if ((0 : Int) ≤ x4) then
  if (x4 < (((List.length x2) : Nat) : Int)) then
   (F29 (List.getD x2 (Int.toNat x4) ((0 : Int), ((0 : Int), false))).1).bind fun r0 =>
   if ((decide (r0.1.1 > (0 : Int))) = true) then
    F11_J15 x0 x1 r0.1.1 r0.1.1 x2 x3 x4 x5 x6
   else
    if (((List.getD x2 (Int.toNat x4) ((0 : Int), ((0 : Int), false))).1 == (118 : Int)) = true) then
     F11_J15 x0 x1 (1 : Int) (10 : Int) x2 x3 x4 x5 x6
    else
     if (((List.getD x2 (Int.toNat x4) ((0 : Int), ((0 : Int), false))).1 == (112 : Int)) = true) then
      F11_J15 x0 x1 (1 : Int) (256 : Int) x2 x3 x4 x5 x6
     else
      F11_J15 x0 x1 (List.getD x2 (Int.toNat x4) ((0 : Int), ((0 : Int), false))).2.1 (List.getD x2 (Int.toNat x4) ((0 : Int), ((0 : Int), false))).2.1 x2 x3 x4 x5 x6
  else
   none
 else
  none := partJ_go.trans (by kernel_rfl)
theorem F11_J17_eq (x0 : Int) (x1 : Int) (x2 : Int) (x3 : Int) : F11_J17 x0 x1 x2 x3 =
 some ((x0, (x1, (((0 : Int), (0 : Int)), ()))), ()) := partJ_go.trans (by kernel_rfl)
theorem F11_J15_eq (x0 : Int) (x1 : Int) (x2 : Int) (x3 : Int) (x4 : List ((Int × (Int × Bool)))) (x5 : Int) (x6 : Int) (x7 : Int) (x8 : Int) : F11_J15 x0 x1 x2 x3 x4 x5 x6 x7 x8 =
 F11_J16 (IntKind.wrap .i64 (x0 + x2)) (IntKind.wrap .i64 (x1 + x3)) x4 x5 x6 x7 x8 := partJ_go.trans (by kernel_rfl)
theorem F11_J16_eq (x0 : Int) (x1 : Int) (x2 : List ((Int × (Int × Bool)))) (x3 : Int) (x4 : Int) (x5 : Int) (x6 : Int) : F11_J16 x0 x1 x2 x3 x4 x5 x6 =
 F11_L5 x0 x1 x2 x3 (IntKind.wrap .i64 (x4 + (1 : Int))) x5 x6 := partJ_go.trans (by kernel_rfl)
theorem F25_eq (a0 : List UInt8) (a1 : List UInt8) : F25 a0 a1 =
 (F40 a0 a1).bind fun r0 =>
 some ((r0.1.1, ()), ()) := (callI_code (fn := Tryd.f25) (h := h25) (by kernel_rfl)).trans (by kernel_rfl)
theorem F40_eq (a0 : List UInt8) (a1 : List UInt8) : F40 a0 a1 =
 if ((decide ((((List.length a0) : Nat) : Int) ≥ (((List.length a1) : Nat) : Int))) = true) then
  if (((0 : Int) ≤ (0 : Int)) ∧ (((0 : Int) ≤ (((List.length a1) : Nat) : Int)) ∧ ((((List.length a1) : Nat) : Int) ≤ (((List.length a0) : Nat) : Int)))) then
   some (((decide ((List.drop 0 (List.take (Int.toNat (((List.length a1) : Nat) : Int)) a0)) = a1)), ()), ())
  else
   none
 else
  some ((false, ()), ()) := (callI_code (fn := Tryd.f40) (h := h40) (by kernel_rfl)).trans (by kernel_rfl)
theorem F18_eq (a0 : List ((Int × (Int × Bool)))) (a1 : List (Int)) : F18 a0 a1 =
 (F15 a0).bind fun r0 =>
 if ((r0.1.1.1 != (0 : Int)) = true) then
  some (([], (r0.1.1, ())), ())
 else
  F18_J4 a0 a1 (0 : Int) (0 : Int) := (callI_code (fn := Tryd.f18) (h := h18) (by kernel_rfl)).trans (by kernel_rfl)
theorem F18_J4_eq (x0 : List ((Int × (Int × Bool)))) (x1 : List (Int)) (x2 : Int) (x3 : Int) : F18_J4 x0 x1 x2 x3 =
 F18_L7 x1 x0 (((List.length x0) : Nat) : Int) (0 : Int) x2 x3 x1 (0 : Int) [] := partJ_go.trans (by kernel_rfl)
theorem F18_L7_eq (x0 : List (Int)) (x1 : List ((Int × (Int × Bool)))) (x2 : Int) (x3 : Int) (x4 : Int) (x5 : Int) (x6 : List (Int)) (x7 : Int) (x8 : List ((Int × ((Bool × List (Int)) × ((Bool × List (Int)) × (List UInt8 × Int)))))) : F18_L7 x0 x1 x2 x3 x4 x5 x6 x7 x8 =
 if ((decide (x3 < x2)) = true) then
  F18_J8 x0 x1 x2 x3 x4 x5 x6 x7 x8
 else
  F18_J15 x0 x4 x5 x6 x7 x8 := partL_go.trans (loopI_eq.trans (by kernel_rfl))
theorem F18_J8_eq (x0 : List (Int)) (x1 : List ((Int × (Int × Bool)))) (x2 : Int) (x3 : Int) (x4 : Int) (x5 : Int) (x6 : List (Int)) (x7 : Int) (x8 : List ((Int × ((Bool × List (Int)) × ((Bool × List (Int)) × (List UInt8 × Int)))))) : F18_J8 x0 x1 x2 x3 x4 x5 x6 x7 x8 =
 if ((0 : Int) ≤ x3) then
  if (x3 < (((List.length x1) : Nat) : Int)) then
   (F34 (x6, x7) (List.getD x1 (Int.toNat x3) ((0 : Int), ((0 : Int), false)))).bind fun r0 =>
   if ((r0.1.2.1 != (0 : Int)) = true) then
    (F21 r0.1.2.1 x3).bind fun r1 =>
    some (([], (r1.1.1, ())), ())
   else
    F18_J12 x0 x1 x2 x3 x4 x5 r0.2.1.1 r0.2.1.2 x8 (List.getD x1 (Int.toNat x3) ((0 : Int), ((0 : Int), false))).1 (List.getD x1 (Int.toNat x3) ((0 : Int), ((0 : Int), false))).2.1 (List.getD x1 (Int.toNat x3) ((0 : Int), ((0 : Int), false))).2.2 r0.1.1.1 r0.1.1.2.1.1 r0.1.1.2.1.2 r0.1.1.2.2.1.1 r0.1.1.2.2.1.2 r0.1.1.2.2.2.1 r0.1.1.2.2.2.2
  else
   none
 else
  none := partJ_go.trans (by kernel_rfl)
theorem F18_J15_eq (x0 : List (Int)) (x1 : Int) (x2 : Int) (x3 : List (Int)) (x4 : Int) (x5 : List ((Int × ((Bool × List (Int)) × ((Bool × List (Int)) × (List UInt8 × Int)))))) : F18_J15 x0 x1 x2 x3 x4 x5 =
 if ((decide (x4 < (((List.length x0) : Nat) : Int))) = true) then
  (F21 (3 : Int) (-2 : Int)).bind fun r0 =>
  some (([], (r0.1.1, ())), ())
 else
  F18_J17 x1 x2 x5 := partJ_go.trans (by kernel_rfl)
theorem F18_J12_eq (x0 : List (Int)) (x1 : List ((Int × (Int × Bool)))) (x2 : Int) (x3 : Int) (x4 : Int) (x5 : Int) (x6 : List (Int)) (x7 : Int) (x8 : List ((Int × ((Bool × List (Int)) × ((Bool × List (Int)) × (List UInt8 × Int)))))) (x9 : Int) (x10 : Int) (x11 : Bool) (x12 : Int) (x13 : Bool) (x14 : List (Int)) (x15 : Bool) (x16 : List (Int)) (x17 : List UInt8) (x18 : Int) : F18_J12 x0 x1 x2 x3 x4 x5 x6 x7 x8 x9 x10 x11 x12 x13 x14 x15 x16 x17 x18 =
 if ((x9 != (120 : Int)) = true) then
  if ((((List.length x8) + (List.length ((x12, ((x13, x14), ((x15, x16), (x17, x18)))) :: []))) * 96) ≤ 140737488355328) then
   F18_J14 x0 x1 x2 x3 x4 x5 x6 x7 (x8 ++ ((x12, ((x13, x14), ((x15, x16), (x17, x18)))) :: []))
  else
   none
 else
  F18_J14 x0 x1 x2 x3 x4 x5 x6 x7 x8 := partJ_go.trans (by kernel_rfl)
theorem F18_J17_eq (x0 : Int) (x1 : Int) (x2 : List ((Int × ((Bool × List (Int)) × ((Bool × List (Int)) × (List UInt8 × Int)))))) : F18_J17 x0 x1 x2 =
 some ((x2, (((0 : Int), (0 : Int)), ())), ()) := partJ_go.trans (by kernel_rfl)
theorem F18_J14_eq (x0 : List (Int)) (x1 : List ((Int × (Int × Bool)))) (x2 : Int) (x3 : Int) (x4 : Int) (x5 : Int) (x6 : List (Int)) (x7 : Int) (x8 : List ((Int × ((Bool × List (Int)) × ((Bool × List (Int)) × (List UInt8 × Int)))))) : F18_J14 x0 x1 x2 x3 x4 x5 x6 x7 x8 =
 F18_L7 x0 x1 x2 (IntKind.wrap .i64 (x3 + (1 : Int))) x4 x5 x6 x7 x8 := partJ_go.trans (by kernel_rfl)
theorem F34_eq (a0 : (List (Int) × Int)) (a1 : (Int × (Int × Bool))) : F34 a0 a1 =
 (F29 a1.1).bind fun r0 =>
 if ((decide (r0.1.1 > (0 : Int))) = true) then
  (F44 a0 a1 r0.1.1 r0.1.2.1).bind fun r1 =>
  some ((r1.1.1, (r1.1.2.1, ())), (r1.2.1, ()))
 else
  if ((a1.1 == (118 : Int)) = true) then
   (F45 a0).bind fun r2 =>
   some ((r2.1.1, (r2.1.2.1, ())), (r2.2.1, ()))
  else
   if ((a1.1 == (63 : Int)) = true) then
    (F46 a0 (1 : Int)).bind fun r3 =>
    if ((!r3.1.2.1) = true) then
     some ((((0 : Int), ((false, ([] : List Int)), ((false, ([] : List Int)), ([], (0 : Int))))), ((15 : Int), ())), (r3.2.1, ()))
    else
     if ((0 : Int) ≤ (0 : Int)) then
      if ((0 : Int) < (((List.length r3.1.1) : Nat) : Int)) then
       if ((decide ((List.getD r3.1.1 (Int.toNat (0 : Int)) (0 : Int)) > (1 : Int))) = true) then
        some ((((0 : Int), ((false, ([] : List Int)), ((false, ([] : List Int)), ([], (0 : Int))))), ((16 : Int), ())), (r3.2.1, ()))
       else
        F34_J12 r3.1.1 r3.2.1.1 r3.2.1.2 (0 : Int) false false [] (0 : Int)
      else
       none
     else
      none
   else
    if ((a1.1 == (112 : Int)) = true) then
     (F46 a0 (1 : Int)).bind fun r4 =>
     if ((!r4.1.2.1) = true) then
      some ((((0 : Int), ((false, ([] : List Int)), ((false, ([] : List Int)), ([], (0 : Int))))), ((15 : Int), ())), (r4.2.1, ()))
     else
      F34_J17 r4.1.1 r4.2.1.1 r4.2.1.2 a1.1 a1.2.1 a1.2.2 (0 : Int) false false [] (0 : Int)
    else
     F34_J18 a0.1 a0.2 a1.1 a1.2.1 a1.2.2 (0 : Int) false false [] (0 : Int) := (callI_code (fn := Tryd.f34) (h := h34) (by kernel_rfl)).trans (by kernel_rfl)
theorem F34_J12_eq (x0 : List (Int)) (x1 : List (Int)) (x2 : Int) (x3 : Int) (x4 : Bool) (x5 : Bool) (x6 : List UInt8) (x7 : Int) : F34_J12 x0 x1 x2 x3 x4 x5 x6 x7 =
 if ((0 : Int) ≤ (0 : Int)) then
  if ((0 : Int) < (((List.length x0) : Nat) : Int)) then
   some ((((1 : Int), ((false, ([] : List Int)), ((false, ([] : List Int)), ([], (IntKind.wrap .i64 (List.getD x0 (Int.toNat (0 : Int)) (0 : Int))))))), ((0 : Int), ())), ((x1, x2), ()))
  else
   none
 else
  none := partJ_go.trans (by kernel_rfl)
theorem F34_J17_eq (x0 : List (Int)) (x1 : List (Int)) (x2 : Int) (x3 : Int) (x4 : Int) (x5 : Bool) (x6 : Int) (x7 : Bool) (x8 : Bool) (x9 : List UInt8) (x10 : Int) : F34_J17 x0 x1 x2 x3 x4 x5 x6 x7 x8 x9 x10 =
 if ((0 : Int) ≤ (0 : Int)) then
  if ((0 : Int) < (((List.length x0) : Nat) : Int)) then
   F34_J18 x1 x2 x3 (IntKind.wrap .i64 (List.getD x0 (Int.toNat (0 : Int)) (0 : Int))) x5 x6 x7 x8 x9 x10
  else
   none
 else
  none := partJ_go.trans (by kernel_rfl)
theorem F34_J18_eq (x0 : List (Int)) (x1 : Int) (x2 : Int) (x3 : Int) (x4 : Bool) (x5 : Int) (x6 : Bool) (x7 : Bool) (x8 : List UInt8) (x9 : Int) : F34_J18 x0 x1 x2 x3 x4 x5 x6 x7 x8 x9 =
 (F46 (x0, x1) x3).bind fun r0 =>
 if ((!r0.1.2.1) = true) then
  some ((((0 : Int), ((false, ([] : List Int)), ((false, ([] : List Int)), ([], (0 : Int))))), ((15 : Int), ())), (r0.2.1, ()))
 else
  F34_J21 r0.1.1 r0.2.1.1 r0.2.1.2 x2 x3 x4 x5 x6 x7 x8 x9 := partJ_go.trans (by kernel_rfl)
theorem F34_J21_eq (x0 : List (Int)) (x1 : List (Int)) (x2 : Int) (x3 : Int) (x4 : Int) (x5 : Bool) (x6 : Int) (x7 : Bool) (x8 : Bool) (x9 : List UInt8) (x10 : Int) : F34_J21 x0 x1 x2 x3 x4 x5 x6 x7 x8 x9 x10 =
 if ((x3 == (120 : Int)) = true) then
  (F47 (bytesI x0) (0 :: [])).bind fun r0 =>
  if ((!(decide (r0.1.1 = []))) = true) then
   some ((((0 : Int), ((false, ([] : List Int)), ((false, ([] : List Int)), ([], (0 : Int))))), ((16 : Int), ())), ((x1, x2), ()))
  else
   F34_J23 x0 x1 x2 x6 x7 x8 x9 x10
 else
  F34_J23 x0 x1 x2 x6 x7 x8 x9 x10 := partJ_go.trans (by kernel_rfl)
theorem F34_J23_eq (x0 : List (Int)) (x1 : List (Int)) (x2 : Int) (x3 : Int) (x4 : Bool) (x5 : Bool) (x6 : List UInt8) (x7 : Int) : F34_J23 x0 x1 x2 x3 x4 x5 x6 x7 =
 some ((((5 : Int), ((false, ([] : List Int)), ((false, ([] : List Int)), ((bytesI x0), (0 : Int))))), ((0 : Int), ())), ((x1, x2), ())) := partJ_go.trans (by kernel_rfl)
theorem F44_eq (a0 : (List (Int) × Int)) (a1 : (Int × (Int × Bool))) (a2 : Int) (a3 : Bool) : F44 a0 a1 a2 a3 =
 (F46 a0 a2).bind fun r0 =>
 if ((!r0.1.2.1) = true) then
  some ((((0 : Int), ((false, ([] : List Int)), ((false, ([] : List Int)), ([], (0 : Int))))), ((15 : Int), ())), (r0.2.1, ()))
 else
  F44_J4 a2 a3 r0.1.1 r0.2.1.1 r0.2.1.2 a1.1 a1.2.1 a1.2.2 (0 : Int) false false [] (0 : Int) := (callI_code (fn := Tryd.f44) (h := h44) (by kernel_rfl)).trans (by kernel_rfl)
theorem F44_J4_eq (x0 : Int) (x1 : Bool) (x2 : List (Int)) (x3 : List (Int)) (x4 : Int) (x5 : Int) (x6 : Int) (x7 : Bool) (x8 : Int) (x9 : Bool) (x10 : Bool) (x11 : List UInt8) (x12 : Int) : F44_J4 x0 x1 x2 x3 x4 x5 x6 x7 x8 x9 x10 x11 x12 =
 F44_L6 x0 x1 (0 : Int) x2 (((List.length x2) : Nat) : Int) (0 : Int) x3 x4 x5 x6 x7 x8 x9 x10 x11 x12 := partJ_go.trans (by kernel_rfl)
theorem F44_L6_eq (x0 : Int) (x1 : Bool) (x2 : Int) (x3 : List (Int)) (x4 : Int) (x5 : Int) (x6 : List (Int)) (x7 : Int) (x8 : Int) (x9 : Int) (x10 : Bool) (x11 : Int) (x12 : Bool) (x13 : Bool) (x14 : List UInt8) (x15 : Int) : F44_L6 x0 x1 x2 x3 x4 x5 x6 x7 x8 x9 x10 x11 x12 x13 x14 x15 =
 if ((decide (x5 < x4)) = true) then
  F44_J7 x0 x1 x2 x3 x4 x5 x6 x7 x8 x9 x10 x11 x12 x13 x14 x15
 else
  F44_J13 x0 x1 x2 x6 x7 x11 x12 x13 x14 x15 := partL_go.trans (loopI_eq.trans (by kernel_rfl))
theorem F44_J7_eq (x0 : Int) (x1 : Bool) (x2 : Int) (x3 : List (Int)) (x4 : Int) (x5 : Int) (x6 : List (Int)) (x7 : Int) (x8 : Int) (x9 : Int) (x10 : Bool) (x11 : Int) (x12 : Bool) (x13 : Bool) (x14 : List UInt8) (x15 : Int) : F44_J7 x0 x1 x2 x3 x4 x5 x6 x7 x8 x9 x10 x11 x12 x13 x14 x15 =
 if ((0 : Int) ≤ x5) then
  if (x5 < (((List.length x3) : Nat) : Int)) then
   if (x10 = true) then
    F44_J11 x0 x1 x2 (List.getD x3 (Int.toNat x5) (0 : Int)) (IntKind.wrap .i64 ((IntKind.wrap .i64 (x0 - (1 : Int))) - x5)) x3 x4 x5 x6 x7 x8 x9 x10 x11 x12 x13 x14 x15
   else
    F44_J11 x0 x1 x2 (List.getD x3 (Int.toNat x5) (0 : Int)) x5 x3 x4 x5 x6 x7 x8 x9 x10 x11 x12 x13 x14 x15
  else
   none
 else
  none := partJ_go.trans (by kernel_rfl)
theorem F44_J13_eq (x0 : Int) (x1 : Bool) (x2 : Int) (x3 : List (Int)) (x4 : Int) (x5 : Int) (x6 : Bool) (x7 : Bool) (x8 : List UInt8) (x9 : Int) : F44_J13 x0 x1 x2 x3 x4 x5 x6 x7 x8 x9 =
 if (x1 = true) then
  if ((IntKind.wrap .i64 ((64 : Int) - (IntKind.wrap .i64 ((8 : Int) * x0)))) < (0 : Int)) then
   none
  else
   if ((IntKind.wrap .i64 ((64 : Int) - (IntKind.wrap .i64 ((8 : Int) * x0)))) < (0 : Int)) then
    none
   else
    (F56 (shrI .i64 (IntKind.wrap .i64 (shlI .u64 x2 (Int.toNat (IntKind.wrap .i64 ((64 : Int) - (IntKind.wrap .i64 ((8 : Int) * x0))))))) (Int.toNat (IntKind.wrap .i64 ((64 : Int) - (IntKind.wrap .i64 ((8 : Int) * x0))))))).bind fun r0 =>
    some ((r0.1.1, ((0 : Int), ())), ((x3, x4), ()))
 else
  F44_J15 x2 x3 x4 x5 x6 x7 x8 x9 := partJ_go.trans (by kernel_rfl)
theorem F44_J11_eq (x0 : Int) (x1 : Bool) (x2 : Int) (x3 : Int) (x4 : Int) (x5 : List (Int)) (x6 : Int) (x7 : Int) (x8 : List (Int)) (x9 : Int) (x10 : Int) (x11 : Int) (x12 : Bool) (x13 : Int) (x14 : Bool) (x15 : Bool) (x16 : List UInt8) (x17 : Int) : F44_J11 x0 x1 x2 x3 x4 x5 x6 x7 x8 x9 x10 x11 x12 x13 x14 x15 x16 x17 =
 if ((IntKind.wrap .i64 ((8 : Int) * x4)) < (0 : Int)) then
  none
 else
  F44_J12 x0 x1 (bitI .or .u64 x2 (shlI .u64 (IntKind.wrap .u64 x3) (Int.toNat (IntKind.wrap .i64 ((8 : Int) * x4))))) x5 x6 x7 x8 x9 x10 x11 x12 x13 x14 x15 x16 x17 := partJ_go.trans (by kernel_rfl)
theorem F44_J15_eq (x0 : Int) (x1 : List (Int)) (x2 : Int) (x3 : Int) (x4 : Bool) (x5 : Bool) (x6 : List UInt8) (x7 : Int) : F44_J15 x0 x1 x2 x3 x4 x5 x6 x7 =
 (F57 x0).bind fun r0 =>
 some ((r0.1.1, ((0 : Int), ())), ((x1, x2), ())) := partJ_go.trans (by kernel_rfl)
theorem F44_J12_eq (x0 : Int) (x1 : Bool) (x2 : Int) (x3 : List (Int)) (x4 : Int) (x5 : Int) (x6 : List (Int)) (x7 : Int) (x8 : Int) (x9 : Int) (x10 : Bool) (x11 : Int) (x12 : Bool) (x13 : Bool) (x14 : List UInt8) (x15 : Int) : F44_J12 x0 x1 x2 x3 x4 x5 x6 x7 x8 x9 x10 x11 x12 x13 x14 x15 =
 F44_L6 x0 x1 x2 x3 x4 (IntKind.wrap .i64 (x5 + (1 : Int))) x6 x7 x8 x9 x10 x11 x12 x13 x14 x15 := partJ_go.trans (by kernel_rfl)
theorem F46_eq (a0 : (List (Int) × Int)) (a1 : Int) : F46 a0 a1 =
 if ((decide (a1 > (IntKind.wrap .i64 ((((List.length a0.1) : Nat) : Int) - a0.2)))) = true) then
  some ((([] : List Int), (false, ())), (a0, ()))
 else
  F46_J3 a1 a0.1 a0.2 := (callI_code (fn := Tryd.f46) (h := h46) (by kernel_rfl)).trans (by kernel_rfl)
theorem F46_J3_eq (x0 : Int) (x1 : List (Int)) (x2 : Int) : F46_J3 x0 x1 x2 =
 if (((0 : Int) ≤ (IntKind.wrap .i64 ((IntKind.wrap .i64 (x2 + x0)) - x0))) ∧ (((IntKind.wrap .i64 ((IntKind.wrap .i64 (x2 + x0)) - x0)) ≤ (IntKind.wrap .i64 (x2 + x0))) ∧ ((IntKind.wrap .i64 (x2 + x0)) ≤ (((List.length x1) : Nat) : Int)))) then
  some (((List.drop (Int.toNat (IntKind.wrap .i64 ((IntKind.wrap .i64 (x2 + x0)) - x0))) (List.take (Int.toNat (IntKind.wrap .i64 (x2 + x0))) x1)), (true, ())), ((x1, (IntKind.wrap .i64 (x2 + x0))), ()))
 else
  none := partJ_go.trans (by kernel_rfl)
theorem F56_eq (a0 : Int) : F56 a0 =
 (F33 a0).bind fun r0 =>
 some ((((2 : Int), (r0.1.1, ((false, ([] : List Int)), ([], (0 : Int))))), ()), ()) := (callI_code (fn := Tryd.f56) (h := h56) (by kernel_rfl)).trans (by kernel_rfl)
theorem F57_eq (a0 : Int) : F57 a0 =
 (F56 (IntKind.wrap .i64 a0)).bind fun r0 =>
 if (((shrI .u64 a0 63) == (1 : Int)) = true) then
  F57_J4 (0 : Int) false false [] (0 : Int) r0.1.1.1 false r0.1.1.2.2.1.1 r0.1.1.2.2.1.2 r0.1.1.2.2.2.1 r0.1.1.2.2.2.2 ((IntKind.wrap .u32 a0) :: ((IntKind.wrap .u32 (shrI .u64 a0 32)) :: ([] : List Int)))
 else
  F57_J4_1 (0 : Int) false false [] (0 : Int) r0.1.1.1 r0.1.1.2.1.1 r0.1.1.2.1.2 r0.1.1.2.2.1.1 r0.1.1.2.2.1.2 r0.1.1.2.2.2.1 r0.1.1.2.2.2.2 := (callI_code (fn := Tryd.f57) (h := h57) (by kernel_rfl)).trans (by kernel_rfl)
theorem F57_J4_eq (x0 : Int) (x1 : Bool) (x2 : Bool) (x3 : List UInt8) (x4 : Int) (x5 : Int) (x6 : Bool) (x7 : Bool) (x8 : List (Int)) (x9 : List UInt8) (x10 : Int) (x11 : List (Int)) : F57_J4 x0 x1 x2 x3 x4 x5 x6 x7 x8 x9 x10 x11 =
 some (((x5, ((x6, x11), ((x7, x8), (x9, x10)))), ()), ()) := partJ_go.trans (by kernel_rfl)
theorem F57_J4_1_eq (x0 : Int) (x1 : Bool) (x2 : Bool) (x3 : List UInt8) (x4 : Int) (x5 : Int) (x6 : Bool) (x7 : List (Int)) (x8 : Bool) (x9 : List (Int)) (x10 : List UInt8) (x11 : Int) : F57_J4_1 x0 x1 x2 x3 x4 x5 x6 x7 x8 x9 x10 x11 =
 some (((x5, ((x6, x7), ((x8, x9), (x10, x11)))), ()), ()) := partJ_go.trans (by kernel_rfl)
theorem F45_eq (a0 : (List (Int) × Int)) : F45 a0 =
 F45_L4 (0 : Int) (0 : Int) a0.1 a0.2 (0 : Int) false false [] (0 : Int) := (callI_code (fn := Tryd.f45) (h := h45) (by kernel_rfl)).trans (by kernel_rfl)
theorem F45_L4_eq (x0 : Int) (x1 : Int) (x2 : List (Int)) (x3 : Int) (x4 : Int) (x5 : Bool) (x6 : Bool) (x7 : List UInt8) (x8 : Int) : F45_L4 x0 x1 x2 x3 x4 x5 x6 x7 x8 =
 (F46 (x2, x3) (1 : Int)).bind fun r0 =>
 if ((!r0.1.2.1) = true) then
  some ((((0 : Int), ((false, ([] : List Int)), ((false, ([] : List Int)), ([], (0 : Int))))), ((15 : Int), ())), (r0.2.1, ()))
 else
  F45_J7 x0 x1 r0.1.1 r0.2.1.1 r0.2.1.2 x4 x5 x6 x7 x8 := partL_go.trans (loopI_eq.trans (by kernel_rfl))
theorem F45_J7_eq (x0 : Int) (x1 : Int) (x2 : List (Int)) (x3 : List (Int)) (x4 : Int) (x5 : Int) (x6 : Bool) (x7 : Bool) (x8 : List UInt8) (x9 : Int) : F45_J7 x0 x1 x2 x3 x4 x5 x6 x7 x8 x9 =
 if ((x1 == (9 : Int)) = true) then
  if ((0 : Int) ≤ (0 : Int)) then
   if ((0 : Int) < (((List.length x2) : Nat) : Int)) then
    if ((decide ((List.getD x2 (Int.toNat (0 : Int)) (0 : Int)) > (1 : Int))) = true) then
     some ((((0 : Int), ((false, ([] : List Int)), ((false, ([] : List Int)), ([], (0 : Int))))), ((16 : Int), ())), ((x3, x4), ()))
    else
     if ((decide (x1 > (0 : Int))) = true) then
      if ((0 : Int) ≤ (0 : Int)) then
       if ((0 : Int) < (((List.length x2) : Nat) : Int)) then
        if (((List.getD x2 (Int.toNat (0 : Int)) (0 : Int)) == (0 : Int)) = true) then
         some ((((0 : Int), ((false, ([] : List Int)), ((false, ([] : List Int)), ([], (0 : Int))))), ((16 : Int), ())), ((x3, x4), ()))
        else
         F45_J9 x0 x1 x2 x3 x4 x5 x6 x7 x8 x9
       else
        none
      else
       none
     else
      F45_J9 x0 x1 x2 x3 x4 x5 x6 x7 x8 x9
   else
    none
  else
   none
 else
  if ((decide (x1 > (0 : Int))) = true) then
   if ((0 : Int) ≤ (0 : Int)) then
    if ((0 : Int) < (((List.length x2) : Nat) : Int)) then
     if (((List.getD x2 (Int.toNat (0 : Int)) (0 : Int)) == (0 : Int)) = true) then
      some ((((0 : Int), ((false, ([] : List Int)), ((false, ([] : List Int)), ([], (0 : Int))))), ((16 : Int), ())), ((x3, x4), ()))
     else
      F45_J9 x0 x1 x2 x3 x4 x5 x6 x7 x8 x9
    else
     none
   else
    none
  else
   F45_J9 x0 x1 x2 x3 x4 x5 x6 x7 x8 x9 := partJ_go.trans (by kernel_rfl)
theorem F45_J9_eq (x0 : Int) (x1 : Int) (x2 : List (Int)) (x3 : List (Int)) (x4 : Int) (x5 : Int) (x6 : Bool) (x7 : Bool) (x8 : List UInt8) (x9 : Int) : F45_J9 x0 x1 x2 x3 x4 x5 x6 x7 x8 x9 =
 if ((0 : Int) ≤ (0 : Int)) then
  if ((0 : Int) < (((List.length x2) : Nat) : Int)) then
   if ((IntKind.wrap .i64 ((7 : Int) * x1)) < (0 : Int)) then
    none
   else
    if ((0 : Int) ≤ (0 : Int)) then
     if ((0 : Int) < (((List.length x2) : Nat) : Int)) then
      if ((decide ((List.getD x2 (Int.toNat (0 : Int)) (0 : Int)) < (128 : Int))) = true) then
       (F56 (IntKind.wrap .i64 (bitI .xor .u64 (shrI .u64 (bitI .or .u64 x0 (shlI .u64 (IntKind.wrap .u64 (bitI .and .u8 (List.getD x2 (Int.toNat (0 : Int)) (0 : Int)) (127 : Int))) (Int.toNat (IntKind.wrap .i64 ((7 : Int) * x1))))) 1) (IntKind.wrap .u64 ((0 : Int) - (bitI .and .u64 (bitI .or .u64 x0 (shlI .u64 (IntKind.wrap .u64 (bitI .and .u8 (List.getD x2 (Int.toNat (0 : Int)) (0 : Int)) (127 : Int))) (Int.toNat (IntKind.wrap .i64 ((7 : Int) * x1))))) (1 : Int))))))).bind fun r0 =>
       some ((r0.1.1, ((0 : Int), ())), ((x3, x4), ()))
      else
       F45_J3 (bitI .or .u64 x0 (shlI .u64 (IntKind.wrap .u64 (bitI .and .u8 (List.getD x2 (Int.toNat (0 : Int)) (0 : Int)) (127 : Int))) (Int.toNat (IntKind.wrap .i64 ((7 : Int) * x1))))) x1 x3 x4 x5 x6 x7 x8 x9
     else
      none
    else
     none
  else
   none
 else
  none := partJ_go.trans (by kernel_rfl)
theorem F45_J3_eq (x0 : Int) (x1 : Int) (x2 : List (Int)) (x3 : Int) (x4 : Int) (x5 : Bool) (x6 : Bool) (x7 : List UInt8) (x8 : Int) : F45_J3 x0 x1 x2 x3 x4 x5 x6 x7 x8 =
 F45_L4 x0 (IntKind.wrap .i64 (x1 + (1 : Int))) x2 x3 x4 x5 x6 x7 x8 := partJ_go.trans (by kernel_rfl)
theorem F8_eq (a0 : List (Int)) (a1 : List (Int)) : F8 a0 a1 =
 some (((decide ((bytesI a0) = (bytesI a1))), ()), ()) := (callI_code (fn := Tryd.f8) (h := h8) (by kernel_rfl)).trans (by kernel_rfl)
theorem F24_eq (a0 : List ((Int × ((Bool × List (Int)) × ((Bool × List (Int)) × (List UInt8 × Int)))))) (a1 : List ((Int × ((Bool × List (Int)) × ((Bool × List (Int)) × (List UInt8 × Int)))))) : F24 a0 a1 =
 if (((((List.length a0) : Nat) : Int) != (((List.length a1) : Nat) : Int)) = true) then
  some ((false, ()), ())
 else
  F24_J3 a0 a1 := (callI_code (fn := Tryd.f24) (h := h24) (by kernel_rfl)).trans (by kernel_rfl)
theorem F24_J3_eq (x0 : List ((Int × ((Bool × List (Int)) × ((Bool × List (Int)) × (List UInt8 × Int)))))) (x1 : List ((Int × ((Bool × List (Int)) × ((Bool × List (Int)) × (List UInt8 × Int)))))) : F24_J3 x0 x1 =
 F24_L4 x0 x1 (0 : Int) := partJ_go.trans (by kernel_rfl)
theorem F24_L4_eq (x0 : List ((Int × ((Bool × List (Int)) × ((Bool × List (Int)) × (List UInt8 × Int)))))) (x1 : List ((Int × ((Bool × List (Int)) × ((Bool × List (Int)) × (List UInt8 × Int)))))) (x2 : Int) : F24_L4 x0 x1 x2 =
 if ((decide (x2 < (((List.length x0) : Nat) : Int))) = true) then
  F24_J6 x0 x1 x2
 else
  F24_J8 := partL_go.trans (loopI_eq.trans (by kernel_rfl))
theorem F24_J6_eq (x0 : List ((Int × ((Bool × List (Int)) × ((Bool × List (Int)) × (List UInt8 × Int)))))) (x1 : List ((Int × ((Bool × List (Int)) × ((Bool × List (Int)) × (List UInt8 × Int)))))) (x2 : Int) : F24_J6 x0 x1 x2 =
 if ((0 : Int) ≤ x2) then
  if (x2 < (((List.length x0) : Nat) : Int)) then
   if ((0 : Int) ≤ x2) then
    if (x2 < (((List.length x1) : Nat) : Int)) then
     (F39 (List.getD x0 (Int.toNat x2) ((0 : Int), ((false, ([] : List (Int))), ((false, ([] : List (Int))), (([] : List UInt8), (0 : Int)))))) (List.getD x1 (Int.toNat x2) ((0 : Int), ((false, ([] : List (Int))), ((false, ([] : List (Int))), (([] : List UInt8), (0 : Int))))))).bind fun r0 =>
     if ((!r0.1.1) = true) then
      some ((false, ()), ())
     else
      F24_J5 x0 x1 x2
    else
     none
   else
    none
  else
   none
 else
  none := partJ_go.trans (by kernel_rfl)
theorem F24_J8_eq : F24_J8 =
 some ((true, ()), ()) := partJ_go.trans (by kernel_rfl)
theorem F24_J5_eq (x0 : List ((Int × ((Bool × List (Int)) × ((Bool × List (Int)) × (List UInt8 × Int)))))) (x1 : List ((Int × ((Bool × List (Int)) × ((Bool × List (Int)) × (List UInt8 × Int)))))) (x2 : Int) : F24_J5 x0 x1 x2 =
 F24_L4 x0 x1 (IntKind.wrap .i64 (x2 + (1 : Int))) := partJ_go.trans (by kernel_rfl)
theorem F39_eq (a0 : (Int × ((Bool × List (Int)) × ((Bool × List (Int)) × (List UInt8 × Int))))) (a1 : (Int × ((Bool × List (Int)) × ((Bool × List (Int)) × (List UInt8 × Int))))) : F39 a0 a1 =
 if ((a0.1 == a1.1) = true) then
  (F48 a0.2.1 a1.2.1).bind fun r0 =>
  if (r0.1.1 = true) then
   (F48 a0.2.2.1 a1.2.2.1).bind fun r1 =>
   if (r1.1.1 = true) then
    if ((decide (a0.2.2.2.1 = a1.2.2.2.1)) = true) then
     some (((a0.2.2.2.2 == a1.2.2.2.2), ()), ())
    else
     some ((false, ()), ())
   else
    some ((false, ()), ())
  else
   some ((false, ()), ())
 else
  some ((false, ()), ()) := (callI_code (fn := Tryd.f39) (h := h39) (by kernel_rfl)).trans (by kernel_rfl)
theorem F48_eq (a0 : (Bool × List (Int))) (a1 : (Bool × List (Int))) : F48 a0 a1 =
 if ((a0.1 == a1.1) = true) then
  (F61 a0.2 a1.2).bind fun r0 =>
  some ((r0.1.1, ()), ())
 else
  some ((false, ()), ()) := (callI_code (fn := Tryd.f48) (h := h48) (by kernel_rfl)).trans (by kernel_rfl)
theorem F61_eq (a0 : List (Int)) (a1 : List (Int)) : F61 a0 a1 =
 if (((((List.length a0) : Nat) : Int) != (((List.length a1) : Nat) : Int)) = true) then
  some ((false, ()), ())
 else
  F61_J3 a0 a1 := (callI_code (fn := Tryd.f61) (h := h61) (by kernel_rfl)).trans (by kernel_rfl)
theorem F61_J3_eq (x0 : List (Int)) (x1 : List (Int)) : F61_J3 x0 x1 =
 F61_L4 x0 x1 (0 : Int) := partJ_go.trans (by kernel_rfl)
theorem F61_L4_eq (x0 : List (Int)) (x1 : List (Int)) (x2 : Int) : F61_L4 x0 x1 x2 =
 if ((decide (x2 < (((List.length x0) : Nat) : Int))) = true) then
  F61_J6 x0 x1 x2
 else
  F61_J8 := partL_go.trans (loopI_eq.trans (by kernel_rfl))
theorem F61_J6_eq (x0 : List (Int)) (x1 : List (Int)) (x2 : Int) : F61_J6 x0 x1 x2 =
 if ((0 : Int) ≤ x2) then
  if (x2 < (((List.length x0) : Nat) : Int)) then
   if ((0 : Int) ≤ x2) then
    if (x2 < (((List.length x1) : Nat) : Int)) then
     if (((List.getD x0 (Int.toNat x2) (0 : Int)) != (List.getD x1 (Int.toNat x2) (0 : Int))) = true) then
      some ((false, ()), ())
     else
      F61_J5 x0 x1 x2
    else
     none
   else
    none
  else
   none
 else
  none := partJ_go.trans (by kernel_rfl)
theorem F61_J8_eq : F61_J8 =
 some ((true, ()), ()) := partJ_go.trans (by kernel_rfl)
theorem F61_J5_eq (x0 : List (Int)) (x1 : List (Int)) (x2 : Int) : F61_J5 x0 x1 x2 =
 F61_L4 x0 x1 (IntKind.wrap .i64 (x2 + (1 : Int))) := partJ_go.trans (by kernel_rfl)
theorem F19_eq (a0 : Int) (a1 : Int) : F19 a0 a1 =
 some (((a0, a1), ()), ()) := (callI_code (fn := Tryd.f19) (h := h19) (by kernel_rfl)).trans (by kernel_rfl)
end Go.AM.PS
