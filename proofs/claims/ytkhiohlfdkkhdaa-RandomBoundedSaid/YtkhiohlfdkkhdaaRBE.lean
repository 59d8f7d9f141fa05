/- What each function of the program computes, as equations. No condition. -/
import Derived.Test.YtkhiohlfdkkhdaaRBT
import Derived.KernelRfl
set_option linter.unusedVariables false
set_option maxRecDepth 100000
set_option maxHeartbeats 0
namespace Go.AM.RU
open Go.Proofs
noncomputable def F7 (a0 : (Int × Int)) (a1 : Int) (a2 : (Bool × List (Int))) (a3 : (Bool × List (Int))) (a4 : List (Int)) : Option (((Bool × Unit) × Unit)) := callI E Fn G 7 (a0, a1, a2, a3, a4, ())
noncomputable def F7_J3 (x0 : Int) (x1 : List (Int)) (x2 : Int) (x3 : Int) (x4 : Bool) (x5 : List (Int)) (x6 : Bool) (x7 : List (Int)) : Option (((Bool × Unit) × Unit)) := partJ E Fn G h7 Try.f7 (E.sig 7) 3 [1, 1] ⟨[(1, .one (.of (.int .i64) x0)), (4, .one (.of (.list (.int .i64)) x1)), (5, .one (.ptr 0 0)), (7, .one (.ptr 1 0)), (8, .one (.ptr 2 0))], 3, [(0, some (.cell [.of (.int .u64) x2, .of (.int .u64) x3])), (1, some (.cell [.of .bool x4, .of (.list (.int .u32)) x5])), (2, some (.cell [.of .bool x6, .of (.list (.int .u32)) x7]))]⟩
noncomputable def F7_J5 (x0 : Int) (x1 : List (Int)) (x2 : Int) (x3 : Int) (x4 : Bool) (x5 : List (Int)) (x6 : Bool) (x7 : List (Int)) : Option (((Bool × Unit) × Unit)) := partJ E Fn G h7 Try.f7 (E.sig 7) 5 [1, 1, 1] ⟨[(1, .one (.of (.int .i64) x0)), (4, .one (.of (.list (.int .i64)) x1)), (5, .one (.ptr 0 0)), (7, .one (.ptr 1 0)), (8, .one (.ptr 2 0))], 3, [(0, some (.cell [.of (.int .u64) x2, .of (.int .u64) x3])), (1, some (.cell [.of .bool x4, .of (.list (.int .u32)) x5])), (2, some (.cell [.of .bool x6, .of (.list (.int .u32)) x7]))]⟩
noncomputable def F7_J11 (x0 : List (Int)) (x1 : Int) (x2 : Int) (x3 : Bool) (x4 : List (Int)) (x5 : Bool) (x6 : List (Int)) : Option (((Bool × Unit) × Unit)) := partJ E Fn G h7 Try.f7 (E.sig 7) 11 [1, 1, 1, 1] ⟨[(4, .one (.of (.list (.int .i64)) x0)), (5, .one (.ptr 0 0)), (7, .one (.ptr 1 0)), (8, .one (.ptr 2 0))], 3, [(0, some (.cell [.of (.int .u64) x1, .of (.int .u64) x2])), (1, some (.cell [.of .bool x3, .of (.list (.int .u32)) x4])), (2, some (.cell [.of .bool x5, .of (.list (.int .u32)) x6]))]⟩
noncomputable def F7_J14 (x0 : List (Int)) (x1 : Int) (x2 : Int) : Option (((Bool × Unit) × Unit)) := partJ E Fn G h7 Try.f7 (E.sig 7) 14 [1, 1, 1, 1, 1, 1] ⟨[(4, .one (.of (.list (.int .i64)) x0)), (5, .one (.ptr 0 0))], 1, [(0, some (.cell [.of (.int .u64) x1, .of (.int .u64) x2]))]⟩
noncomputable def F11 : Option (((Bool × Unit) × Unit)) := callI E Fn G 11 (())
noncomputable def F41 (a0 : Int) : Option ((((Int × ((Bool × List (Int)) × ((Bool × List (Int)) × (List UInt8 × Int)))) × Unit) × Unit)) := callI E Fn G 41 (a0, ())
noncomputable def F47 (a0 : Int) : Option ((((Bool × List (Int)) × Unit) × Unit)) := callI E Fn G 47 (a0, ())
noncomputable def F47_J4 (x0 : Int) (x1 : Int) (x2 : Bool) : Option ((((Bool × List (Int)) × Unit) × Unit)) := partJ E Fn G h47 Try.f47 (E.sig 47) 4 [1, 1, 1] ⟨[(0, .one (.of (.int .i64) x0)), (2, .one (.ptr 0 0)), (3, .one (.of (.int .u64) x1))], 1, [(0, some (.cell [.of .bool x2, .raw (.slice none 0 0)]))]⟩
noncomputable def F47_L5 (x0 : Int) (x1 : Bool) (x2 : List (Int)) : Option ((((Bool × List (Int)) × Unit) × Unit)) := partL E Fn G h47 Try.f47 (E.sig 47) 5 [1, 1, 1, 1, 0, 0] ⟨[(0, .one (.of (.int .i64) x0)), (2, .one (.ptr 0 0)), (4, .one (.view 1))], 2, [(0, some (.cell [.of .bool x1, .raw (.slice none 0 0)])), (1, some (.row 76 (.int .u32) x2))]⟩
noncomputable def F47_J6 (x0 : Int) (x1 : Bool) (x2 : List (Int)) : Option ((((Bool × List (Int)) × Unit) × Unit)) := partJ E Fn G h47 Try.f47 (E.sig 47) 6 [1, 1, 1, 1, 0, 0, 0, 1] ⟨[(0, .one (.of (.int .i64) x0)), (2, .one (.ptr 0 0)), (4, .one (.view 1))], 2, [(0, some (.cell [.of .bool x1, .raw (.slice none 0 0)])), (1, some (.row 76 (.int .u32) x2))]⟩
noncomputable def F47_J7 (x0 : Int) (x1 : Bool) (x2 : List (Int)) : Option ((((Bool × List (Int)) × Unit) × Unit)) := partJ E Fn G h47 Try.f47 (E.sig 47) 7 [1, 1, 1, 1, 1] ⟨[(0, .one (.of (.int .i64) x0)), (2, .one (.ptr 0 0)), (4, .one (.view 1))], 2, [(0, some (.cell [.of .bool x1, .raw (.slice none 0 0)])), (1, some (.row 76 (.int .u32) x2))]⟩
noncomputable def F47_L5_1 (x0 : Int) (x1 : List (Int)) (x2 : Bool) : Option ((((Bool × List (Int)) × Unit) × Unit)) := partL E Fn G h47 Try.f47 (E.sig 47) 5 [1, 1, 1, 1, 0, 0] ⟨[(0, .one (.of (.int .i64) x0)), (2, .one (.ptr 0 0)), (4, .one (.of (.list (.int .u32)) x1))], 1, [(0, some (.cell [.of .bool x2, .raw (.slice none 0 0)]))]⟩
noncomputable def F47_J6_1 (x0 : Int) (x1 : List (Int)) (x2 : Bool) : Option ((((Bool × List (Int)) × Unit) × Unit)) := partJ E Fn G h47 Try.f47 (E.sig 47) 6 [1, 1, 1, 1, 0, 0, 0, 1] ⟨[(0, .one (.of (.int .i64) x0)), (2, .one (.ptr 0 0)), (4, .one (.of (.list (.int .u32)) x1))], 1, [(0, some (.cell [.of .bool x2, .raw (.slice none 0 0)]))]⟩
noncomputable def F47_J7_1 (x0 : Int) (x1 : List (Int)) (x2 : Bool) : Option ((((Bool × List (Int)) × Unit) × Unit)) := partJ E Fn G h47 Try.f47 (E.sig 47) 7 [1, 1, 1, 1, 1] ⟨[(0, .one (.of (.int .i64) x0)), (2, .one (.ptr 0 0)), (4, .one (.of (.list (.int .u32)) x1))], 1, [(0, some (.cell [.of .bool x2, .raw (.slice none 0 0)]))]⟩
noncomputable def F8 (a0 : (Bool × List (Int))) : Option ((((Int × Int) × ((Int × Int) × Unit)) × Unit)) := callI E Fn G 8 (a0, ())
noncomputable def F8_J3 (x0 : Bool) (x1 : List (Int)) (x2 : Int) (x3 : Int) (x4 : Int) (x5 : Int) : Option ((((Int × Int) × ((Int × Int) × Unit)) × Unit)) := partJ E Fn G h8 Try.f8 (E.sig 8) 3 [1, 1] ⟨[(1, .one (.ptr 0 0)), (2, .one (.ptr 1 0)), (3, .one (.ptr 2 0))], 3, [(0, some (.cell [.of .bool x0, .of (.list (.int .u32)) x1])), (1, some (.cell [.of (.int .u64) x2, .of (.int .u64) x3])), (2, some (.cell [.of (.int .i64) x4, .of (.int .i64) x5]))]⟩
noncomputable def F8_J6 (x0 : Int) (x1 : Bool) (x2 : List (Int)) (x3 : Int) (x4 : Int) (x5 : Int) (x6 : Int) : Option ((((Int × Int) × ((Int × Int) × Unit)) × Unit)) := partJ E Fn G h8 Try.f8 (E.sig 8) 6 [1, 1, 1, 1] ⟨[(1, .one (.ptr 0 0)), (2, .one (.ptr 1 0)), (3, .one (.ptr 2 0)), (4, .one (.of (.int .u64) x0))], 3, [(0, some (.cell [.of .bool x1, .of (.list (.int .u32)) x2])), (1, some (.cell [.of (.int .u64) x3, .of (.int .u64) x4])), (2, some (.cell [.of (.int .i64) x5, .of (.int .i64) x6]))]⟩
noncomputable def F8_L7 (x0 : Int) (x1 : List (Int)) (x2 : Int) (x3 : Int) (x4 : Int) (x5 : Int) (x6 : Int) (x7 : Int) : Option ((((Int × Int) × ((Int × Int) × Unit)) × Unit)) := partL E Fn G h8 Try.f8 (E.sig 8) 7 [1, 1, 1, 1, 0, 1, 0] ⟨[(2, .one (.ptr 0 0)), (3, .one (.ptr 1 0)), (4, .one (.of (.int .u64) x0)), (21, .one (.of (.list (.int .u32)) x1)), (22, .one (.of (.int .i64) x2)), (23, .one (.of (.int .i64) x3))], 2, [(0, some (.cell [.of (.int .u64) x4, .of (.int .u64) x5])), (1, some (.cell [.of (.int .i64) x6, .of (.int .i64) x7]))]⟩
noncomputable def F8_J8 (x0 : Int) (x1 : List (Int)) (x2 : Int) (x3 : Int) (x4 : Int) (x5 : Int) (x6 : Int) (x7 : Int) : Option ((((Int × Int) × ((Int × Int) × Unit)) × Unit)) := partJ E Fn G h8 Try.f8 (E.sig 8) 8 [1, 1, 1, 1, 0, 1, 0, 0, 1, 1] ⟨[(2, .one (.ptr 0 0)), (3, .one (.ptr 1 0)), (4, .one (.of (.int .u64) x0)), (21, .one (.of (.list (.int .u32)) x1)), (22, .one (.of (.int .i64) x2)), (23, .one (.of (.int .i64) x3))], 2, [(0, some (.cell [.of (.int .u64) x4, .of (.int .u64) x5])), (1, some (.cell [.of (.int .i64) x6, .of (.int .i64) x7]))]⟩
noncomputable def F8_J11 (x0 : Int) (x1 : Int) (x2 : Int) (x3 : Int) (x4 : Int) : Option ((((Int × Int) × ((Int × Int) × Unit)) × Unit)) := partJ E Fn G h8 Try.f8 (E.sig 8) 11 [1, 1, 1, 1, 1] ⟨[(2, .one (.ptr 0 0)), (3, .one (.ptr 1 0)), (4, .one (.of (.int .u64) x0))], 2, [(0, some (.cell [.of (.int .u64) x1, .of (.int .u64) x2])), (1, some (.cell [.of (.int .i64) x3, .of (.int .i64) x4]))]⟩
noncomputable def F36 (a0 : (Bool × List (Int))) : Option (((Bool × Unit) × Unit)) := callI E Fn G 36 (a0, ())
noncomputable def F37 (a0 : Int) (a1 : Int) : Option ((((Int × Int) × Unit) × Unit)) := callI E Fn G 37 (a0, a1, ())
noncomputable def F38 (a0 : Int) : Option (((Int × Unit) × Unit)) := callI E Fn G 38 (a0, ())
noncomputable def F9 (a0 : (Int × Int)) : Option (((Int × ((Int × Int) × ((Int × Int) × Unit))) × Unit)) := callI E Fn G 9 (a0, ())
noncomputable def F9_J4 (x0 : Int) (x1 : Int) (x2 : Int) (x3 : Int) : Option (((Int × ((Int × Int) × ((Int × Int) × Unit))) × Unit)) := partJ E Fn G h9 Try.f9 (E.sig 9) 4 [1, 1, 1] ⟨[(3, .one (.ptr 0 0)), (4, .one (.ptr 1 0)), (5, .one (.raw (Value.pointer none)))], 2, [(0, some (.cell [.of (.int .u64) x0, .of (.int .u64) x1])), (1, some (.cell [.of (.int .i64) x2, .of (.int .i64) x3]))]⟩
noncomputable def F9_J4_1 (x0 : Int) (x1 : Int) (x2 : Int) (x3 : Int) (x4 : Int) (x5 : Int) : Option (((Int × ((Int × Int) × ((Int × Int) × Unit))) × Unit)) := partJ E Fn G h9 Try.f9 (E.sig 9) 4 [1, 1, 1] ⟨[(3, .one (.ptr 0 0)), (4, .one (.ptr 1 0)), (5, .one (.ptr 2 0))], 3, [(0, some (.cell [.of (.int .u64) x0, .of (.int .u64) x1])), (1, some (.cell [.of (.int .i64) x2, .of (.int .i64) x3])), (2, some (.cell [.of (.int .u64) x4, .of (.int .u64) x5]))]⟩
noncomputable def F39 (a0 : (Int × Int)) : Option (((Option ((Int × Int)) × ((Int × Int) × Unit)) × Unit)) := callI E Fn G 39 (a0, ())
noncomputable def F39_J3 (x0 : Int) (x1 : Int) (x2 : Int) (x3 : Int) : Option (((Option ((Int × Int)) × ((Int × Int) × Unit)) × Unit)) := partJ E Fn G h39 Try.f39 (E.sig 39) 3 [1, 1] ⟨[(1, .one (.ptr 0 0)), (3, .one (.ptr 1 0))], 2, [(0, some (.cell [.of (.int .u64) x0, .of (.int .u64) x1])), (1, some (.cell [.of (.int .i64) x2, .of (.int .i64) x3]))]⟩
noncomputable def F40 (a0 : (Int × Int)) : Option (((Int × Unit) × ((Int × Int) × Unit))) := callI E Fn G 40 (a0, ())
noncomputable def F16 (a0 : (Int × Int)) (a1 : (Bool × List (Int))) : Option ((((Bool × List (Int)) × ((Int × Int) × ((Int × Int) × Unit))) × Unit)) := callI E Fn G 16 (a0, a1, ())
noncomputable def F16_J8 (x0 : Bool) (x1 : List (Int)) (x2 : Bool) (x3 : Int) (x4 : Int) (x5 : Int) (x6 : Int) : Option ((((Bool × List (Int)) × ((Int × Int) × ((Int × Int) × Unit))) × Unit)) := partJ E Fn G h16 Try.f16 (E.sig 16) 8 [1, 1, 1] ⟨[(3, .one (.ptr 0 0)), (4, .one (.ptr 1 0)), (5, .one (.ptr 2 0)), (6, .one (.ptr 3 0)), (7, .one (.raw (Value.pointer none)))], 4, [(0, some (.cell [.of .bool x0, .of (.list (.int .u32)) x1])), (1, some (.cell [.of .bool x2, .raw (.slice none 0 0)])), (2, some (.cell [.of (.int .u64) x3, .of (.int .u64) x4])), (3, some (.cell [.of (.int .i64) x5, .of (.int .i64) x6]))]⟩
noncomputable def F16_J8_1 (x0 : Bool) (x1 : List (Int)) (x2 : Bool) (x3 : Int) (x4 : Int) (x5 : Int) (x6 : Int) (x7 : Int) (x8 : Int) : Option ((((Bool × List (Int)) × ((Int × Int) × ((Int × Int) × Unit))) × Unit)) := partJ E Fn G h16 Try.f16 (E.sig 16) 8 [1, 1, 1] ⟨[(3, .one (.ptr 0 0)), (4, .one (.ptr 1 0)), (5, .one (.ptr 2 0)), (6, .one (.ptr 3 0)), (7, .one (.ptr 4 0))], 5, [(0, some (.cell [.of .bool x0, .of (.list (.int .u32)) x1])), (1, some (.cell [.of .bool x2, .raw (.slice none 0 0)])), (2, some (.cell [.of (.int .u64) x3, .of (.int .u64) x4])), (3, some (.cell [.of (.int .i64) x5, .of (.int .i64) x6])), (4, some (.cell [.of (.int .u64) x7, .of (.int .u64) x8]))]⟩
noncomputable def F43 (a0 : (Int × Int)) (a1 : (Bool × List (Int))) : Option ((((Bool × List (Int)) × Unit) × ((Int × Int) × Unit))) := callI E Fn G 43 (a0, a1, ())
noncomputable def F43_L3 (x0 : Int) (x1 : Int) (x2 : Int) (x3 : Bool) (x4 : List (Int)) (x5 : Bool) : Option ((((Bool × List (Int)) × Unit) × ((Int × Int) × Unit))) := partL E Fn G h43 Try.f43 (E.sig 43) 3 [1, 1, 1, 0] ⟨[(0, .one (.ptr 0 0)), (3, .one (.ptr 1 0)), (4, .one (.ptr 2 0)), (7, .one (.of (.int .i64) x0))], 3, [(0, some (.cell [.of (.int .u64) x1, .of (.int .u64) x2])), (1, some (.cell [.of .bool x3, .of (.list (.int .u32)) x4])), (2, some (.cell [.of .bool x5, .raw (.slice none 0 0)]))]⟩
noncomputable def F45 (a0 : (Bool × List (Int))) (a1 : (Bool × List (Int))) : Option ((((Bool × List (Int)) × ((Int × Int) × Unit)) × Unit)) := callI E Fn G 45 (a0, a1, ())
noncomputable def F45_J4 (x0 : Bool) (x1 : List (Int)) (x2 : Bool) (x3 : List (Int)) (x4 : Bool) (x5 : Int) (x6 : Int) : Option ((((Bool × List (Int)) × ((Int × Int) × Unit)) × Unit)) := partJ E Fn G h45 Try.f45 (E.sig 45) 4 [1, 1] ⟨[(2, .one (.ptr 0 0)), (3, .one (.ptr 1 0)), (4, .one (.ptr 2 0)), (5, .one (.ptr 3 0))], 4, [(0, some (.cell [.of .bool x0, .of (.list (.int .u32)) x1])), (1, some (.cell [.of .bool x2, .of (.list (.int .u32)) x3])), (2, some (.cell [.of .bool x4, .raw (.slice none 0 0)])), (3, some (.cell [.of (.int .i64) x5, .of (.int .i64) x6]))]⟩
noncomputable def F62 (a0 : List ((Bool × List (Int)))) : Option ((((Int × Int) × Unit) × Unit)) := callI E Fn G 62 (a0, ())
noncomputable def F62_L2 (x0 : List ((Bool × List (Int)))) (x1 : Int) (x2 : Int) (x3 : Int) (x4 : Int) : Option ((((Int × Int) × Unit) × Unit)) := partL E Fn G h62 Try.f62 (E.sig 62) 2 [1, 0, 1, 0] ⟨[(2, .one (.ptr 0 0)), (5, .one (.of (.list (.pair .bool (.list (.int .u32)))) x0)), (6, .one (.of (.int .i64) x1)), (7, .one (.of (.int .i64) x2))], 1, [(0, some (.cell [.of (.int .i64) x3, .of (.int .i64) x4]))]⟩
noncomputable def F62_J3 (x0 : List ((Bool × List (Int)))) (x1 : Int) (x2 : Int) (x3 : Int) (x4 : Int) : Option ((((Int × Int) × Unit) × Unit)) := partJ E Fn G h62 Try.f62 (E.sig 62) 3 [1, 0, 1, 0, 0, 1, 1] ⟨[(2, .one (.ptr 0 0)), (5, .one (.of (.list (.pair .bool (.list (.int .u32)))) x0)), (6, .one (.of (.int .i64) x1)), (7, .one (.of (.int .i64) x2))], 1, [(0, some (.cell [.of (.int .i64) x3, .of (.int .i64) x4]))]⟩
noncomputable def F62_J7 (x0 : Int) (x1 : Int) : Option ((((Int × Int) × Unit) × Unit)) := partJ E Fn G h62 Try.f62 (E.sig 62) 7 [1, 1] ⟨[(2, .one (.ptr 0 0))], 1, [(0, some (.cell [.of (.int .i64) x0, .of (.int .i64) x1]))]⟩
noncomputable def F62_J6 (x0 : List ((Bool × List (Int)))) (x1 : Int) (x2 : Int) (x3 : Int) (x4 : Int) : Option ((((Int × Int) × Unit) × Unit)) := partJ E Fn G h62 Try.f62 (E.sig 62) 6 [1, 0, 1, 0, 0, 1, 1, 1] ⟨[(2, .one (.ptr 0 0)), (5, .one (.of (.list (.pair .bool (.list (.int .u32)))) x0)), (6, .one (.of (.int .i64) x1)), (7, .one (.of (.int .i64) x2))], 1, [(0, some (.cell [.of (.int .i64) x3, .of (.int .i64) x4]))]⟩
noncomputable def F69 (a0 : Int) (a1 : Int) : Option ((((Int × Int) × Unit) × Unit)) := callI E Fn G 69 (a0, a1, ())
noncomputable def F64 (a0 : (Bool × List (Int))) (a1 : (Bool × List (Int))) : Option ((((Bool × List (Int)) × ((Int × Int) × Unit)) × Unit)) := callI E Fn G 64 (a0, a1, ())
noncomputable def F64_J4 (x0 : Bool) (x1 : List (Int)) (x2 : Bool) (x3 : List (Int)) (x4 : Bool) (x5 : Int) (x6 : Int) : Option ((((Bool × List (Int)) × ((Int × Int) × Unit)) × Unit)) := partJ E Fn G h64 Try.f64 (E.sig 64) 4 [1, 1] ⟨[(2, .one (.ptr 0 0)), (3, .one (.ptr 1 0)), (4, .one (.ptr 2 0)), (5, .one (.ptr 3 0))], 4, [(0, some (.cell [.of .bool x0, .of (.list (.int .u32)) x1])), (1, some (.cell [.of .bool x2, .of (.list (.int .u32)) x3])), (2, some (.cell [.of .bool x4, .raw (.slice none 0 0)])), (3, some (.cell [.of (.int .i64) x5, .of (.int .i64) x6]))]⟩
noncomputable def F64_J7 (x0 : Bool) (x1 : List (Int)) (x2 : Bool) (x3 : List (Int)) (x4 : Bool) (x5 : Int) (x6 : Int) : Option ((((Bool × List (Int)) × ((Int × Int) × Unit)) × Unit)) := partJ E Fn G h64 Try.f64 (E.sig 64) 7 [1, 1, 1] ⟨[(2, .one (.ptr 0 0)), (3, .one (.ptr 1 0)), (4, .one (.ptr 2 0)), (5, .one (.ptr 3 0))], 4, [(0, some (.cell [.of .bool x0, .of (.list (.int .u32)) x1])), (1, some (.cell [.of .bool x2, .of (.list (.int .u32)) x3])), (2, some (.cell [.of .bool x4, .raw (.slice none 0 0)])), (3, some (.cell [.of (.int .i64) x5, .of (.int .i64) x6]))]⟩
noncomputable def F72 (a0 : List (Int)) (a1 : List (Int)) : Option (((List (Int) × ((Int × Int) × Unit)) × Unit)) := callI E Fn G 72 (a0, a1, ())
noncomputable def F72_J4 (x0 : List (Int)) (x1 : List (Int)) (x2 : Int) (x3 : Int) : Option (((List (Int) × ((Int × Int) × Unit)) × Unit)) := partJ E Fn G h72 Try.f72 (E.sig 72) 4 [1, 1] ⟨[(0, .one (.of (.list (.int .u32)) x0)), (1, .one (.of (.list (.int .u32)) x1)), (5, .one (.ptr 0 0))], 1, [(0, some (.cell [.of (.int .i64) x2, .of (.int .i64) x3]))]⟩
noncomputable def F70 (a0 : List (Int)) (a1 : List (Int)) : Option ((((Int × Int) × Unit) × Unit)) := callI E Fn G 70 (a0, a1, ())
noncomputable def F70_J5 (x0 : Int) (x1 : Int) : Option ((((Int × Int) × Unit) × Unit)) := partJ E Fn G h70 Try.f70 (E.sig 70) 5 [1, 1] ⟨[(4, .one (.ptr 0 0))], 1, [(0, some (.cell [.of (.int .i64) x0, .of (.int .i64) x1]))]⟩
noncomputable def F75 (a0 : List (Int)) : Option (((Bool × Unit) × Unit)) := callI E Fn G 75 (a0, ())
noncomputable def F76 (a0 : Int) (a1 : Int) : Option ((((Int × Int) × Unit) × Unit)) := callI E Fn G 76 (a0, a1, ())
noncomputable def F79 (a0 : List (Int)) (a1 : List (Int)) : Option (((List (Int) × Unit) × Unit)) := callI E Fn G 79 (a0, a1, ())
noncomputable def F79_J3 (x0 : List (Int)) (x1 : List (Int)) : Option (((List (Int) × Unit) × Unit)) := partJ E Fn G h79 Try.f79 (E.sig 79) 3 [1, 1] ⟨[(0, .one (.of (.list (.int .u32)) x0)), (1, .one (.of (.list (.int .u32)) x1))], 0, []⟩
noncomputable def F79_L6 (x0 : List (Int)) (x1 : Int) (x2 : List (Int)) (x3 : Int) (x4 : Int) (x5 : List (Int)) : Option (((List (Int) × Unit) × Unit)) := partL E Fn G h79 Try.f79 (E.sig 79) 6 [1, 1, 1, 1, 0, 1, 0] ⟨[(1, .one (.of (.list (.int .u32)) x0)), (5, .one (.view 0)), (6, .one (.of (.int .u64) x1)), (20, .one (.of (.list (.int .u32)) x2)), (21, .one (.of (.int .i64) x3)), (22, .one (.of (.int .i64) x4))], 1, [(0, some (.row 76 (.int .u32) x5))]⟩
noncomputable def F79_J7 (x0 : List (Int)) (x1 : Int) (x2 : List (Int)) (x3 : Int) (x4 : Int) (x5 : List (Int)) : Option (((List (Int) × Unit) × Unit)) := partJ E Fn G h79 Try.f79 (E.sig 79) 7 [1, 1, 1, 1, 0, 1, 0, 0, 1, 1] ⟨[(1, .one (.of (.list (.int .u32)) x0)), (5, .one (.view 0)), (6, .one (.of (.int .u64) x1)), (20, .one (.of (.list (.int .u32)) x2)), (21, .one (.of (.int .i64) x3)), (22, .one (.of (.int .i64) x4))], 1, [(0, some (.row 76 (.int .u32) x5))]⟩
noncomputable def F79_J14 (x0 : Int) (x1 : List (Int)) : Option (((List (Int) × Unit) × Unit)) := partJ E Fn G h79 Try.f79 (E.sig 79) 14 [1, 1, 1, 1, 1] ⟨[(5, .one (.view 0)), (6, .one (.of (.int .u64) x0))], 1, [(0, some (.row 76 (.int .u32) x1))]⟩
noncomputable def F79_J11 (x0 : List (Int)) (x1 : Int) (x2 : List (Int)) (x3 : Int) (x4 : Int) (x5 : List (Int)) : Option (((List (Int) × Unit) × Unit)) := partJ E Fn G h79 Try.f79 (E.sig 79) 11 [1, 1, 1, 1, 0, 1, 0, 0, 1, 1, 0, 0, 1, 1, 1] ⟨[(1, .one (.of (.list (.int .u32)) x0)), (5, .one (.view 0)), (6, .one (.of (.int .u64) x1)), (20, .one (.of (.list (.int .u32)) x2)), (21, .one (.of (.int .i64) x3)), (22, .one (.of (.int .i64) x4))], 1, [(0, some (.row 76 (.int .u32) x5))]⟩
noncomputable def F79_J13 (x0 : List (Int)) (x1 : Int) (x2 : List (Int)) (x3 : Int) (x4 : Int) (x5 : List (Int)) : Option (((List (Int) × Unit) × Unit)) := partJ E Fn G h79 Try.f79 (E.sig 79) 13 [1, 1, 1, 1, 0, 1, 0, 0, 1, 1, 1] ⟨[(1, .one (.of (.list (.int .u32)) x0)), (5, .one (.view 0)), (6, .one (.of (.int .u64) x1)), (20, .one (.of (.list (.int .u32)) x2)), (21, .one (.of (.int .i64) x3)), (22, .one (.of (.int .i64) x4))], 1, [(0, some (.row 76 (.int .u32) x5))]⟩
noncomputable def F81 (a0 : List (Int)) : Option (((List (Int) × Unit) × Unit)) := callI E Fn G 81 (a0, ())
noncomputable def F81_L1 (x0 : List (Int)) : Option (((List (Int) × Unit) × Unit)) := partL E Fn G h81 Try.f81 (E.sig 81) 1 [1, 0, 0] ⟨[(0, .one (.of (.list (.int .u32)) x0))], 0, []⟩
noncomputable def F81_J2 (x0 : List (Int)) : Option (((List (Int) × Unit) × Unit)) := partJ E Fn G h81 Try.f81 (E.sig 81) 2 [1, 0, 0, 0, 1] ⟨[(0, .one (.of (.list (.int .u32)) x0))], 0, []⟩
noncomputable def F81_J3 (x0 : List (Int)) : Option (((List (Int) × Unit) × Unit)) := partJ E Fn G h81 Try.f81 (E.sig 81) 3 [1, 1] ⟨[(0, .one (.of (.list (.int .u32)) x0))], 0, []⟩
noncomputable def F78 (a0 : List (Int)) : Option (((List (Int) × ((Int × Int) × Unit)) × Unit)) := callI E Fn G 78 (a0, ())
noncomputable def F78_J4 (x0 : List (Int)) (x1 : Int) (x2 : Int) : Option (((List (Int) × ((Int × Int) × Unit)) × Unit)) := partJ E Fn G h78 Try.f78 (E.sig 78) 4 [1, 1] ⟨[(0, .one (.of (.list (.int .u32)) x0)), (3, .one (.ptr 0 0))], 1, [(0, some (.cell [.of (.int .i64) x1, .of (.int .i64) x2]))]⟩
noncomputable def F73 (a0 : Bool) (a1 : List (Int)) : Option ((((Bool × List (Int)) × ((Int × Int) × Unit)) × Unit)) := callI E Fn G 73 (a0, a1, ())
noncomputable def F73_J3 (x0 : Bool) (x1 : List (Int)) (x2 : Bool) (x3 : Int) (x4 : Int) : Option ((((Bool × List (Int)) × ((Int × Int) × Unit)) × Unit)) := partJ E Fn G h73 Try.f73 (E.sig 73) 3 [1, 1] ⟨[(0, .one (.of .bool x0)), (1, .one (.of (.list (.int .u32)) x1)), (4, .one (.ptr 0 0)), (5, .one (.ptr 1 0))], 2, [(0, some (.cell [.of .bool x2, .raw (.slice none 0 0)])), (1, some (.cell [.of (.int .i64) x3, .of (.int .i64) x4]))]⟩
noncomputable def F63 (a0 : List (Int)) (a1 : List (Int)) : Option (((Int × ((Int × Int) × Unit)) × Unit)) := callI E Fn G 63 (a0, a1, ())
noncomputable def F63_J4 (x0 : List (Int)) (x1 : List (Int)) (x2 : Int) (x3 : Int) : Option (((Int × ((Int × Int) × Unit)) × Unit)) := partJ E Fn G h63 Try.f63 (E.sig 63) 4 [1, 1] ⟨[(0, .one (.of (.list (.int .u32)) x0)), (1, .one (.of (.list (.int .u32)) x1)), (5, .one (.ptr 0 0))], 1, [(0, some (.cell [.of (.int .i64) x2, .of (.int .i64) x3]))]⟩
noncomputable def F71 (a0 : List (Int)) (a1 : List (Int)) : Option (((Int × Unit) × Unit)) := callI E Fn G 71 (a0, a1, ())
noncomputable def F71_J3 (x0 : List (Int)) (x1 : List (Int)) : Option (((Int × Unit) × Unit)) := partJ E Fn G h71 Try.f71 (E.sig 71) 3 [1, 1] ⟨[(0, .one (.of (.list (.int .u32)) x0)), (1, .one (.of (.list (.int .u32)) x1))], 0, []⟩
noncomputable def F71_L4 (x0 : List (Int)) (x1 : List (Int)) (x2 : Int) : Option (((Int × Unit) × Unit)) := partL E Fn G h71 Try.f71 (E.sig 71) 4 [1, 1, 0, 1, 0] ⟨[(0, .one (.of (.list (.int .u32)) x0)), (1, .one (.of (.list (.int .u32)) x1)), (5, .one (.of (.int .i64) x2))], 0, []⟩
noncomputable def F71_J6 (x0 : List (Int)) (x1 : List (Int)) (x2 : Int) : Option (((Int × Unit) × Unit)) := partJ E Fn G h71 Try.f71 (E.sig 71) 6 [1, 1, 0, 1, 0, 0, 1] ⟨[(0, .one (.of (.list (.int .u32)) x0)), (1, .one (.of (.list (.int .u32)) x1)), (5, .one (.of (.int .i64) x2))], 0, []⟩
noncomputable def F71_J10 : Option (((Int × Unit) × Unit)) := partJ E Fn G h71 Try.f71 (E.sig 71) 10 [1, 1, 1] ⟨[], 0, []⟩
noncomputable def F71_J9 : Option (((Int × Unit) × Unit)) := partJ E Fn G h71 Try.f71 (E.sig 71) 9 [1, 1, 0, 1, 0, 0, 1, 0, 0, 1, 0, 1] ⟨[], 0, []⟩
noncomputable def F71_J5 (x0 : List (Int)) (x1 : List (Int)) (x2 : Int) : Option (((Int × Unit) × Unit)) := partJ E Fn G h71 Try.f71 (E.sig 71) 5 [1, 1, 0, 1, 0, 0, 1, 1] ⟨[(0, .one (.of (.list (.int .u32)) x0)), (1, .one (.of (.list (.int .u32)) x1)), (5, .one (.of (.int .i64) x2))], 0, []⟩
noncomputable def F74 (a0 : List (Int)) (a1 : List (Int)) : Option (((List (Int) × ((Int × Int) × Unit)) × Unit)) := callI E Fn G 74 (a0, a1, ())
noncomputable def F74_J4 (x0 : List (Int)) (x1 : List (Int)) (x2 : Int) (x3 : Int) : Option (((List (Int) × ((Int × Int) × Unit)) × Unit)) := partJ E Fn G h74 Try.f74 (E.sig 74) 4 [1, 1] ⟨[(0, .one (.of (.list (.int .u32)) x0)), (1, .one (.of (.list (.int .u32)) x1)), (5, .one (.ptr 0 0))], 1, [(0, some (.cell [.of (.int .i64) x2, .of (.int .i64) x3]))]⟩
noncomputable def F74_J6 (x0 : List (Int)) (x1 : List (Int)) (x2 : Int) (x3 : Int) : Option (((List (Int) × ((Int × Int) × Unit)) × Unit)) := partJ E Fn G h74 Try.f74 (E.sig 74) 6 [1, 1, 1] ⟨[(0, .one (.of (.list (.int .u32)) x0)), (1, .one (.of (.list (.int .u32)) x1)), (5, .one (.ptr 0 0))], 1, [(0, some (.cell [.of (.int .i64) x2, .of (.int .i64) x3]))]⟩
noncomputable def F80 (a0 : List (Int)) (a1 : List (Int)) : Option (((List (Int) × Unit) × Unit)) := callI E Fn G 80 (a0, a1, ())
noncomputable def F80_L4 (x0 : List (Int)) (x1 : List (Int)) (x2 : Int) (x3 : Int) (x4 : Int) : Option (((List (Int) × Unit) × Unit)) := partL E Fn G h80 Try.f80 (E.sig 80) 4 [1, 1, 1, 0, 1, 0] ⟨[(1, .one (.of (.list (.int .u32)) x0)), (5, .one (.of (.list (.int .u32)) x1)), (6, .one (.of (.int .u32) x2)), (12, .one (.of (.int .i64) x3)), (13, .one (.of (.int .i64) x4))], 0, []⟩
noncomputable def F80_L4_1 (x0 : List (Int)) (x1 : Int) (x2 : Int) (x3 : Int) (x4 : List (Int)) : Option (((List (Int) × Unit) × Unit)) := partL E Fn G h80 Try.f80 (E.sig 80) 4 [1, 1, 1, 0, 1, 0] ⟨[(1, .one (.of (.list (.int .u32)) x0)), (5, .one (.view 0)), (6, .one (.of (.int .u32) x1)), (12, .one (.of (.int .i64) x2)), (13, .one (.of (.int .i64) x3))], 1, [(0, some (.row 76 (.int .u32) x4))]⟩
noncomputable def F80_J5 (x0 : List (Int)) (x1 : List (Int)) (x2 : Int) (x3 : Int) (x4 : Int) : Option (((List (Int) × Unit) × Unit)) := partJ E Fn G h80 Try.f80 (E.sig 80) 5 [1, 1, 1, 0, 1, 0, 0, 1, 1] ⟨[(1, .one (.of (.list (.int .u32)) x0)), (5, .one (.of (.list (.int .u32)) x1)), (6, .one (.of (.int .u32) x2)), (12, .one (.of (.int .i64) x3)), (13, .one (.of (.int .i64) x4))], 0, []⟩
noncomputable def F80_J11 (x0 : List (Int)) : Option (((List (Int) × Unit) × Unit)) := partJ E Fn G h80 Try.f80 (E.sig 80) 11 [1, 1, 1, 1] ⟨[(5, .one (.of (.list (.int .u32)) x0))], 0, []⟩
noncomputable def F80_J5_1 (x0 : List (Int)) (x1 : Int) (x2 : Int) (x3 : Int) (x4 : List (Int)) : Option (((List (Int) × Unit) × Unit)) := partJ E Fn G h80 Try.f80 (E.sig 80) 5 [1, 1, 1, 0, 1, 0, 0, 1, 1] ⟨[(1, .one (.of (.list (.int .u32)) x0)), (5, .one (.view 0)), (6, .one (.of (.int .u32) x1)), (12, .one (.of (.int .i64) x2)), (13, .one (.of (.int .i64) x3))], 1, [(0, some (.row 76 (.int .u32) x4))]⟩
noncomputable def F80_J11_1 (x0 : List (Int)) : Option (((List (Int) × Unit) × Unit)) := partJ E Fn G h80 Try.f80 (E.sig 80) 11 [1, 1, 1, 1] ⟨[(5, .one (.view 0))], 1, [(0, some (.row 76 (.int .u32) x0))]⟩
noncomputable def F80_J9 (x0 : List (Int)) (x1 : List (Int)) (x2 : Int) (x3 : Int) (x4 : Int) (x5 : Int) (x6 : Int) : Option (((List (Int) × Unit) × Unit)) := partJ E Fn G h80 Try.f80 (E.sig 80) 9 [1, 1, 1, 0, 1, 0, 0, 1, 1, 0, 0, 1, 1, 1] ⟨[(1, .one (.of (.list (.int .u32)) x0)), (5, .one (.of (.list (.int .u32)) x1)), (6, .one (.of (.int .u32) x2)), (7, .one (.of (.int .i64) x3)), (8, .one (.of (.int .u32) x4)), (12, .one (.of (.int .i64) x5)), (13, .one (.of (.int .i64) x6))], 0, []⟩
noncomputable def F80_J9_1 (x0 : List (Int)) (x1 : Int) (x2 : Int) (x3 : Int) (x4 : Int) (x5 : Int) (x6 : List (Int)) : Option (((List (Int) × Unit) × Unit)) := partJ E Fn G h80 Try.f80 (E.sig 80) 9 [1, 1, 1, 0, 1, 0, 0, 1, 1, 0, 0, 1, 1, 1] ⟨[(1, .one (.of (.list (.int .u32)) x0)), (5, .one (.view 0)), (6, .one (.of (.int .u32) x1)), (7, .one (.of (.int .i64) x2)), (8, .one (.of (.int .u32) x3)), (12, .one (.of (.int .i64) x4)), (13, .one (.of (.int .i64) x5))], 1, [(0, some (.row 76 (.int .u32) x6))]⟩
noncomputable def F80_J10 (x0 : List (Int)) (x1 : Int) (x2 : Int) (x3 : Int) (x4 : List (Int)) : Option (((List (Int) × Unit) × Unit)) := partJ E Fn G h80 Try.f80 (E.sig 80) 10 [1, 1, 1, 0, 1, 0, 0, 1, 1, 1] ⟨[(1, .one (.of (.list (.int .u32)) x0)), (5, .one (.view 0)), (6, .one (.of (.int .u32) x1)), (12, .one (.of (.int .i64) x2)), (13, .one (.of (.int .i64) x3))], 1, [(0, some (.row 76 (.int .u32) x4))]⟩
noncomputable def F83 (a0 : Int) (a1 : Int) (a2 : Int) : Option (((Int × (Int × Unit)) × Unit)) := callI E Fn G 83 (a0, a1, a2, ())
noncomputable def F60 (a0 : (Bool × List (Int))) : Option (((Int × ((Int × Int) × Unit)) × Unit)) := callI E Fn G 60 (a0, ())
noncomputable def F60_J4 (x0 : Bool) (x1 : List (Int)) (x2 : Int) (x3 : Int) : Option (((Int × ((Int × Int) × Unit)) × Unit)) := partJ E Fn G h60 Try.f60 (E.sig 60) 4 [1, 1] ⟨[(1, .one (.ptr 0 0)), (3, .one (.ptr 1 0))], 2, [(0, some (.cell [.of .bool x0, .of (.list (.int .u32)) x1])), (1, some (.cell [.of (.int .i64) x2, .of (.int .i64) x3]))]⟩
noncomputable def F68 (a0 : List (Int)) : Option (((Int × ((Int × Int) × Unit)) × Unit)) := callI E Fn G 68 (a0, ())
noncomputable def F68_J3 (x0 : List (Int)) (x1 : Int) (x2 : Int) : Option (((Int × ((Int × Int) × Unit)) × Unit)) := partJ E Fn G h68 Try.f68 (E.sig 68) 3 [1, 1] ⟨[(0, .one (.of (.list (.int .u32)) x0)), (3, .one (.ptr 0 0))], 1, [(0, some (.cell [.of (.int .i64) x1, .of (.int .i64) x2]))]⟩
noncomputable def F68_J5 (x0 : List (Int)) (x1 : Int) (x2 : Int) : Option (((Int × ((Int × Int) × Unit)) × Unit)) := partJ E Fn G h68 Try.f68 (E.sig 68) 5 [1, 1, 1] ⟨[(0, .one (.of (.list (.int .u32)) x0)), (3, .one (.ptr 0 0))], 1, [(0, some (.cell [.of (.int .i64) x1, .of (.int .i64) x2]))]⟩
noncomputable def F77 (a0 : Int) : Option (((Int × Unit) × Unit)) := callI E Fn G 77 (a0, ())
noncomputable def F77_J4 (x0 : Int) (x1 : Int) : Option (((Int × Unit) × Unit)) := partJ E Fn G h77 Try.f77 (E.sig 77) 4 [1, 1] ⟨[(0, .one (.of (.int .u32) x0)), (2, .one (.of (.int .i64) x1))], 0, []⟩
noncomputable def F77_J7 (x0 : Int) (x1 : Int) : Option (((Int × Unit) × Unit)) := partJ E Fn G h77 Try.f77 (E.sig 77) 7 [1, 1, 1] ⟨[(0, .one (.of (.int .u32) x0)), (2, .one (.of (.int .i64) x1))], 0, []⟩
noncomputable def F61 (a0 : (Int × Int)) (a1 : Int) : Option ((((Bool × List (Int)) × Unit) × ((Int × Int) × Unit))) := callI E Fn G 61 (a0, a1, ())
noncomputable def F61_L2 (x0 : Int) (x1 : Int) (x2 : Int) (x3 : Bool) (x4 : List (Int)) : Option ((((Bool × List (Int)) × Unit) × ((Int × Int) × Unit))) := partL E Fn G h61 Try.f61 (E.sig 61) 2 [1, 1, 0, 0] ⟨[(0, .one (.ptr 0 0)), (1, .one (.of (.int .i64) x0)), (4, .one (.ptr 1 0)), (5, .one (.view 2))], 3, [(0, some (.cell [.of (.int .u64) x1, .of (.int .u64) x2])), (1, some (.cell [.of .bool x3, .raw (.slice none 0 0)])), (2, some (.row 76 (.int .u32) x4))]⟩
noncomputable def F61_J4 (x0 : Int) (x1 : Int) (x2 : Int) (x3 : Bool) (x4 : List (Int)) : Option ((((Bool × List (Int)) × Unit) × ((Int × Int) × Unit))) := partJ E Fn G h61 Try.f61 (E.sig 61) 4 [1, 1, 0, 0, 0, 1] ⟨[(0, .one (.ptr 0 0)), (1, .one (.of (.int .i64) x0)), (4, .one (.ptr 1 0)), (5, .one (.view 2))], 3, [(0, some (.cell [.of (.int .u64) x1, .of (.int .u64) x2])), (1, some (.cell [.of .bool x3, .raw (.slice none 0 0)])), (2, some (.row 76 (.int .u32) x4))]⟩
noncomputable def F61_L8 (x0 : Int) (x1 : Int) (x2 : Bool) (x3 : List (Int)) : Option ((((Bool × List (Int)) × Unit) × ((Int × Int) × Unit))) := partL E Fn G h61 Try.f61 (E.sig 61) 8 [1, 1, 1, 0, 0] ⟨[(4, .one (.ptr 1 0)), (5, .one (.view 2))], 3, [(0, some (.cell [.of (.int .u64) x0, .of (.int .u64) x1])), (1, some (.cell [.of .bool x2, .raw (.slice none 0 0)])), (2, some (.row 76 (.int .u32) x3))]⟩
noncomputable def F61_J7 (x0 : Int) (x1 : Int) (x2 : Int) (x3 : Int) (x4 : Bool) (x5 : List (Int)) : Option ((((Bool × List (Int)) × Unit) × ((Int × Int) × Unit))) := partJ E Fn G h61 Try.f61 (E.sig 61) 7 [1, 1, 0, 0, 0, 1, 0, 0, 1, 1] ⟨[(0, .one (.ptr 0 0)), (1, .one (.of (.int .i64) x0)), (4, .one (.ptr 1 0)), (5, .one (.view 2)), (6, .one (.of (.int .u32) x1))], 3, [(0, some (.cell [.of (.int .u64) x2, .of (.int .u64) x3])), (1, some (.cell [.of .bool x4, .raw (.slice none 0 0)])), (2, some (.row 76 (.int .u32) x5))]⟩
noncomputable def F61_J9 (x0 : Int) (x1 : Int) (x2 : Bool) (x3 : List (Int)) : Option ((((Bool × List (Int)) × Unit) × ((Int × Int) × Unit))) := partJ E Fn G h61 Try.f61 (E.sig 61) 9 [1, 1, 1, 0, 0, 0, 1] ⟨[(4, .one (.ptr 1 0)), (5, .one (.view 2))], 3, [(0, some (.cell [.of (.int .u64) x0, .of (.int .u64) x1])), (1, some (.cell [.of .bool x2, .raw (.slice none 0 0)])), (2, some (.row 76 (.int .u32) x3))]⟩
noncomputable def F61_J10 (x0 : Int) (x1 : Int) (x2 : Bool) (x3 : List (Int)) : Option ((((Bool × List (Int)) × Unit) × ((Int × Int) × Unit))) := partJ E Fn G h61 Try.f61 (E.sig 61) 10 [1, 1, 1, 1] ⟨[(4, .one (.ptr 1 0)), (5, .one (.view 2))], 3, [(0, some (.cell [.of (.int .u64) x0, .of (.int .u64) x1])), (1, some (.cell [.of .bool x2, .raw (.slice none 0 0)])), (2, some (.row 76 (.int .u32) x3))]⟩
noncomputable def F61_J3 (x0 : Int) (x1 : Int) (x2 : Int) (x3 : Bool) (x4 : List (Int)) : Option ((((Bool × List (Int)) × Unit) × ((Int × Int) × Unit))) := partJ E Fn G h61 Try.f61 (E.sig 61) 3 [1, 1, 0, 0, 0, 1, 1] ⟨[(0, .one (.ptr 0 0)), (1, .one (.of (.int .i64) x0)), (4, .one (.ptr 1 0)), (5, .one (.view 2))], 3, [(0, some (.cell [.of (.int .u64) x1, .of (.int .u64) x2])), (1, some (.cell [.of .bool x3, .raw (.slice none 0 0)])), (2, some (.row 76 (.int .u32) x4))]⟩
noncomputable def F61_L8_1 (x0 : List (Int)) (x1 : Int) (x2 : Int) (x3 : Bool) : Option ((((Bool × List (Int)) × Unit) × ((Int × Int) × Unit))) := partL E Fn G h61 Try.f61 (E.sig 61) 8 [1, 1, 1, 0, 0] ⟨[(4, .one (.ptr 1 0)), (5, .one (.of (.list (.int .u32)) x0))], 2, [(0, some (.cell [.of (.int .u64) x1, .of (.int .u64) x2])), (1, some (.cell [.of .bool x3, .raw (.slice none 0 0)]))]⟩
noncomputable def F61_J9_1 (x0 : List (Int)) (x1 : Int) (x2 : Int) (x3 : Bool) : Option ((((Bool × List (Int)) × Unit) × ((Int × Int) × Unit))) := partJ E Fn G h61 Try.f61 (E.sig 61) 9 [1, 1, 1, 0, 0, 0, 1] ⟨[(4, .one (.ptr 1 0)), (5, .one (.of (.list (.int .u32)) x0))], 2, [(0, some (.cell [.of (.int .u64) x1, .of (.int .u64) x2])), (1, some (.cell [.of .bool x3, .raw (.slice none 0 0)]))]⟩
noncomputable def F61_J10_1 (x0 : List (Int)) (x1 : Int) (x2 : Int) (x3 : Bool) : Option ((((Bool × List (Int)) × Unit) × ((Int × Int) × Unit))) := partJ E Fn G h61 Try.f61 (E.sig 61) 10 [1, 1, 1, 1] ⟨[(4, .one (.ptr 1 0)), (5, .one (.of (.list (.int .u32)) x0))], 2, [(0, some (.cell [.of (.int .u64) x1, .of (.int .u64) x2])), (1, some (.cell [.of .bool x3, .raw (.slice none 0 0)]))]⟩
noncomputable def F44 (a0 : (Bool × List (Int))) (a1 : (Bool × List (Int))) : Option (((Int × ((Int × Int) × Unit)) × Unit)) := callI E Fn G 44 (a0, a1, ())
noncomputable def F44_J4 (x0 : Bool) (x1 : List (Int)) (x2 : Bool) (x3 : List (Int)) (x4 : Int) (x5 : Int) : Option (((Int × ((Int × Int) × Unit)) × Unit)) := partJ E Fn G h44 Try.f44 (E.sig 44) 4 [1, 1] ⟨[(2, .one (.ptr 0 0)), (3, .one (.ptr 1 0)), (5, .one (.ptr 2 0))], 3, [(0, some (.cell [.of .bool x0, .of (.list (.int .u32)) x1])), (1, some (.cell [.of .bool x2, .of (.list (.int .u32)) x3])), (2, some (.cell [.of (.int .i64) x4, .of (.int .i64) x5]))]⟩
noncomputable def F44_J11 (x0 : Int) (x1 : Int) (x2 : Int) : Option (((Int × ((Int × Int) × Unit)) × Unit)) := partJ E Fn G h44 Try.f44 (E.sig 44) 11 [1, 1, 1, 1] ⟨[(5, .one (.ptr 0 0)), (7, .one (.of (.int .i64) x0))], 1, [(0, some (.cell [.of (.int .i64) x1, .of (.int .i64) x2]))]⟩
noncomputable def F14 (a0 : (Bool × List (Int))) : Option ((((Int × Int) × Unit) × Unit)) := callI E Fn G 14 (a0, ())
noncomputable def F14_J4 (x0 : Int) (x1 : Bool) (x2 : List (Int)) (x3 : Int) (x4 : Int) : Option ((((Int × Int) × Unit) × Unit)) := partJ E Fn G h14 Try.f14 (E.sig 14) 4 [1, 1, 1] ⟨[(1, .one (.ptr 0 0)), (2, .one (.ptr 1 0)), (3, .one (.of (.int .u64) x0))], 2, [(0, some (.cell [.of .bool x1, .of (.list (.int .u32)) x2])), (1, some (.cell [.of (.int .u64) x3, .of (.int .u64) x4]))]⟩
noncomputable def F14_L5 (x0 : Int) (x1 : Int) (x2 : Bool) (x3 : List (Int)) (x4 : Int) (x5 : Int) : Option ((((Int × Int) × Unit) × Unit)) := partL E Fn G h14 Try.f14 (E.sig 14) 5 [1, 1, 1, 0, 1, 0] ⟨[(1, .one (.ptr 0 0)), (2, .one (.ptr 1 0)), (3, .one (.of (.int .u64) x0)), (4, .one (.of (.int .i64) x1))], 2, [(0, some (.cell [.of .bool x2, .of (.list (.int .u32)) x3])), (1, some (.cell [.of (.int .u64) x4, .of (.int .u64) x5]))]⟩
noncomputable def F14_J7 (x0 : Int) (x1 : Int) (x2 : Bool) (x3 : List (Int)) (x4 : Int) (x5 : Int) : Option ((((Int × Int) × Unit) × Unit)) := partJ E Fn G h14 Try.f14 (E.sig 14) 7 [1, 1, 1, 0, 1, 0, 0, 1] ⟨[(1, .one (.ptr 0 0)), (2, .one (.ptr 1 0)), (3, .one (.of (.int .u64) x0)), (4, .one (.of (.int .i64) x1))], 2, [(0, some (.cell [.of .bool x2, .of (.list (.int .u32)) x3])), (1, some (.cell [.of (.int .u64) x4, .of (.int .u64) x5]))]⟩
noncomputable def F14_J8 (x0 : Int) (x1 : Int) (x2 : Int) : Option ((((Int × Int) × Unit) × Unit)) := partJ E Fn G h14 Try.f14 (E.sig 14) 8 [1, 1, 1, 1] ⟨[(2, .one (.ptr 0 0)), (3, .one (.of (.int .u64) x0))], 1, [(0, some (.cell [.of (.int .u64) x1, .of (.int .u64) x2]))]⟩
noncomputable def F42 (a0 : Int) : Option (((Int × Unit) × Unit)) := callI E Fn G 42 (a0, ())
noncomputable def F15 (a0 : (Int × Int)) : Option (((Int × Unit) × ((Int × Int) × Unit))) := callI E Fn G 15 (a0, ())
noncomputable def F18 (a0 : (Bool × List (Int))) : Option (((Bool × Unit) × Unit)) := callI E Fn G 18 (a0, ())
noncomputable def F25 (a0 : Int) : Option ((((Bool × List (Int)) × Unit) × Unit)) := callI E Fn G 25 (a0, ())
noncomputable def F25_L3 (x0 : Int) (x1 : Bool) (x2 : Bool) (x3 : List (Bool)) : Option ((((Bool × List (Int)) × Unit) × Unit)) := partL E Fn G h25 Try.f25 (E.sig 25) 3 [1, 1, 1, 0, 0] ⟨[(0, .one (.of (.int .i64) x0)), (2, .one (.ptr 0 0)), (3, .one (.view 1)), (4, .one (.of .bool x1))], 2, [(0, some (.cell [.of .bool x2, .raw (.slice none 0 0)])), (1, some (.row 4 .bool x3))]⟩
noncomputable def F25_J4 (x0 : Int) (x1 : Bool) (x2 : Bool) (x3 : List (Bool)) : Option ((((Bool × List (Int)) × Unit) × Unit)) := partJ E Fn G h25 Try.f25 (E.sig 25) 4 [1, 1, 1, 0, 0, 0, 1] ⟨[(0, .one (.of (.int .i64) x0)), (2, .one (.ptr 0 0)), (3, .one (.view 1)), (4, .one (.of .bool x1))], 2, [(0, some (.cell [.of .bool x2, .raw (.slice none 0 0)])), (1, some (.row 4 .bool x3))]⟩
noncomputable def F25_J6 (x0 : Bool) (x1 : Bool) (x2 : List (Bool)) : Option ((((Bool × List (Int)) × Unit) × Unit)) := partJ E Fn G h25 Try.f25 (E.sig 25) 6 [1, 1, 1, 1] ⟨[(2, .one (.ptr 0 0)), (3, .one (.view 1)), (4, .one (.of .bool x0))], 2, [(0, some (.cell [.of .bool x1, .raw (.slice none 0 0)])), (1, some (.row 4 .bool x2))]⟩
noncomputable def F49 (a0 : List (Bool)) : Option (((List (Int) × Unit) × Unit)) := callI E Fn G 49 (a0, ())
noncomputable def F49_L3 (x0 : List (Bool)) (x1 : Int) (x2 : List (Int)) : Option (((List (Int) × Unit) × Unit)) := partL E Fn G h49 Try.f49 (E.sig 49) 3 [1, 1, 0, 1, 0] ⟨[(0, .one (.of (.list .bool) x0)), (3, .one (.view 0)), (4, .one (.of (.int .i64) x1))], 1, [(0, some (.row 3 (.int .i64) x2))]⟩
noncomputable def F49_J5 (x0 : List (Bool)) (x1 : Int) (x2 : List (Int)) : Option (((List (Int) × Unit) × Unit)) := partJ E Fn G h49 Try.f49 (E.sig 49) 5 [1, 1, 0, 1, 0, 0, 1] ⟨[(0, .one (.of (.list .bool) x0)), (3, .one (.view 0)), (4, .one (.of (.int .i64) x1))], 1, [(0, some (.row 3 (.int .i64) x2))]⟩
noncomputable def F49_J13 (x0 : List (Int)) : Option (((List (Int) × Unit) × Unit)) := partJ E Fn G h49 Try.f49 (E.sig 49) 13 [1, 1, 1] ⟨[(3, .one (.view 0))], 1, [(0, some (.row 3 (.int .i64) x0))]⟩
noncomputable def F49_L7 (x0 : List (Bool)) (x1 : Int) (x2 : Int) (x3 : Int) (x4 : List (Int)) : Option (((List (Int) × Unit) × Unit)) := partL E Fn G h49 Try.f49 (E.sig 49) 7 [1, 1, 0, 1, 0, 0, 1, 0, 0, 1, 0, 1, 0] ⟨[(0, .one (.of (.list .bool) x0)), (3, .one (.view 0)), (4, .one (.of (.int .i64) x1)), (5, .one (.of (.int .i64) x2)), (6, .one (.of (.int .i64) x3))], 1, [(0, some (.row 3 (.int .i64) x4))]⟩
noncomputable def F49_J9 (x0 : List (Bool)) (x1 : Int) (x2 : Int) (x3 : Int) (x4 : List (Int)) : Option (((List (Int) × Unit) × Unit)) := partJ E Fn G h49 Try.f49 (E.sig 49) 9 [1, 1, 0, 1, 0, 0, 1, 0, 0, 1, 0, 1, 0, 0, 1] ⟨[(0, .one (.of (.list .bool) x0)), (3, .one (.view 0)), (4, .one (.of (.int .i64) x1)), (5, .one (.of (.int .i64) x2)), (6, .one (.of (.int .i64) x3))], 1, [(0, some (.row 3 (.int .i64) x4))]⟩
noncomputable def F49_J12 (x0 : List (Bool)) (x1 : Int) (x2 : Int) (x3 : List (Int)) : Option (((List (Int) × Unit) × Unit)) := partJ E Fn G h49 Try.f49 (E.sig 49) 12 [1, 1, 0, 1, 0, 0, 1, 0, 0, 1, 1] ⟨[(0, .one (.of (.list .bool) x0)), (3, .one (.view 0)), (4, .one (.of (.int .i64) x1)), (5, .one (.of (.int .i64) x2))], 1, [(0, some (.row 3 (.int .i64) x3))]⟩
noncomputable def F49_J8 (x0 : List (Bool)) (x1 : Int) (x2 : Int) (x3 : Int) (x4 : List (Int)) : Option (((List (Int) × Unit) × Unit)) := partJ E Fn G h49 Try.f49 (E.sig 49) 8 [1, 1, 0, 1, 0, 0, 1, 0, 0, 1, 0, 1, 0, 0, 1, 1] ⟨[(0, .one (.of (.list .bool) x0)), (3, .one (.view 0)), (4, .one (.of (.int .i64) x1)), (5, .one (.of (.int .i64) x2)), (6, .one (.of (.int .i64) x3))], 1, [(0, some (.row 3 (.int .i64) x4))]⟩
noncomputable def F49_J4 (x0 : List (Bool)) (x1 : Int) (x2 : List (Int)) : Option (((List (Int) × Unit) × Unit)) := partJ E Fn G h49 Try.f49 (E.sig 49) 4 [1, 1, 0, 1, 0, 0, 1, 1] ⟨[(0, .one (.of (.list .bool) x0)), (3, .one (.view 0)), (4, .one (.of (.int .i64) x1))], 1, [(0, some (.row 3 (.int .i64) x2))]⟩
noncomputable def F65 (a0 : List (Int)) : Option (((List (Int) × Unit) × Unit)) := callI E Fn G 65 (a0, ())
noncomputable def F65_L1 (x0 : List (Int)) : Option (((List (Int) × Unit) × Unit)) := partL E Fn G h65 Try.f65 (E.sig 65) 1 [1, 0, 0] ⟨[(0, .one (.of (.list (.int .i64)) x0))], 0, []⟩
noncomputable def F65_J2 (x0 : List (Int)) : Option (((List (Int) × Unit) × Unit)) := partJ E Fn G h65 Try.f65 (E.sig 65) 2 [1, 0, 0, 0, 1] ⟨[(0, .one (.of (.list (.int .i64)) x0))], 0, []⟩
noncomputable def F65_J3 (x0 : List (Int)) : Option (((List (Int) × Unit) × Unit)) := partJ E Fn G h65 Try.f65 (E.sig 65) 3 [1, 1] ⟨[(0, .one (.of (.list (.int .i64)) x0))], 0, []⟩
noncomputable def F33 (a0 : (Bool × List (Int))) (a1 : Int) : Option ((((Bool × List (Int)) × Unit) × Unit)) := callI E Fn G 33 (a0, a1, ())
noncomputable def F33_J3 (x0 : Int) (x1 : Bool) (x2 : List (Int)) (x3 : Bool) : Option ((((Bool × List (Int)) × Unit) × Unit)) := partJ E Fn G h33 Try.f33 (E.sig 33) 3 [1, 1] ⟨[(1, .one (.of (.int .i64) x0)), (2, .one (.ptr 0 0)), (4, .one (.ptr 1 0))], 2, [(0, some (.cell [.of .bool x1, .of (.list (.int .i64)) x2])), (1, some (.cell [.of .bool x3, .raw (.slice none 0 0)]))]⟩
noncomputable def F57 (a0 : List (Int)) (a1 : Int) : Option (((List (Int) × Unit) × Unit)) := callI E Fn G 57 (a0, a1, ())
noncomputable def F57_J6 (x0 : Int) (x1 : List (Bool)) : Option (((List (Int) × Unit) × Unit)) := partJ E Fn G h57 Try.f57 (E.sig 57) 6 [1, 1, 1] ⟨[(1, .one (.of (.int .i64) x0)), (5, .one (.of (.list .bool) x1))], 0, []⟩
noncomputable def F48 (a0 : List (Int)) : Option (((List (Bool) × Unit) × Unit)) := callI E Fn G 48 (a0, ())
noncomputable def F48_L3 (x0 : List (Int)) (x1 : Int) (x2 : List (Bool)) : Option (((List (Bool) × Unit) × Unit)) := partL E Fn G h48 Try.f48 (E.sig 48) 3 [1, 1, 0, 1, 0] ⟨[(0, .one (.of (.list (.int .i64)) x0)), (3, .one (.view 0)), (4, .one (.of (.int .i64) x1))], 1, [(0, some (.row 4 .bool x2))]⟩
noncomputable def F48_J5 (x0 : List (Int)) (x1 : Int) (x2 : List (Bool)) : Option (((List (Bool) × Unit) × Unit)) := partJ E Fn G h48 Try.f48 (E.sig 48) 5 [1, 1, 0, 1, 0, 0, 1] ⟨[(0, .one (.of (.list (.int .i64)) x0)), (3, .one (.view 0)), (4, .one (.of (.int .i64) x1))], 1, [(0, some (.row 4 .bool x2))]⟩
noncomputable def F48_L11 (x0 : List (Bool)) : Option (((List (Bool) × Unit) × Unit)) := partL E Fn G h48 Try.f48 (E.sig 48) 11 [1, 1, 1, 0, 0] ⟨[(3, .one (.view 0))], 1, [(0, some (.row 4 .bool x0))]⟩
noncomputable def F48_L7 (x0 : List (Int)) (x1 : Int) (x2 : Int) (x3 : Int) (x4 : List (Bool)) : Option (((List (Bool) × Unit) × Unit)) := partL E Fn G h48 Try.f48 (E.sig 48) 7 [1, 1, 0, 1, 0, 0, 1, 0, 0, 1, 1, 0] ⟨[(0, .one (.of (.list (.int .i64)) x0)), (3, .one (.view 0)), (4, .one (.of (.int .i64) x1)), (5, .one (.of (.int .i64) x2)), (6, .one (.of (.int .i64) x3))], 1, [(0, some (.row 4 .bool x4))]⟩
noncomputable def F48_J12 (x0 : List (Bool)) : Option (((List (Bool) × Unit) × Unit)) := partJ E Fn G h48 Try.f48 (E.sig 48) 12 [1, 1, 1, 0, 0, 0, 1] ⟨[(3, .one (.view 0))], 1, [(0, some (.row 4 .bool x0))]⟩
noncomputable def F48_J13 (x0 : List (Bool)) : Option (((List (Bool) × Unit) × Unit)) := partJ E Fn G h48 Try.f48 (E.sig 48) 13 [1, 1, 1, 1] ⟨[(3, .one (.view 0))], 1, [(0, some (.row 4 .bool x0))]⟩
noncomputable def F48_J9 (x0 : List (Int)) (x1 : Int) (x2 : Int) (x3 : Int) (x4 : List (Bool)) : Option (((List (Bool) × Unit) × Unit)) := partJ E Fn G h48 Try.f48 (E.sig 48) 9 [1, 1, 0, 1, 0, 0, 1, 0, 0, 1, 1, 0, 0, 1] ⟨[(0, .one (.of (.list (.int .i64)) x0)), (3, .one (.view 0)), (4, .one (.of (.int .i64) x1)), (5, .one (.of (.int .i64) x2)), (6, .one (.of (.int .i64) x3))], 1, [(0, some (.row 4 .bool x4))]⟩
noncomputable def F48_J4 (x0 : List (Int)) (x1 : Int) (x2 : List (Bool)) : Option (((List (Bool) × Unit) × Unit)) := partJ E Fn G h48 Try.f48 (E.sig 48) 4 [1, 1, 0, 1, 0, 0, 1, 1] ⟨[(0, .one (.of (.list (.int .i64)) x0)), (3, .one (.view 0)), (4, .one (.of (.int .i64) x1))], 1, [(0, some (.row 4 .bool x2))]⟩
noncomputable def F48_L11_1 (x0 : List (Bool)) : Option (((List (Bool) × Unit) × Unit)) := partL E Fn G h48 Try.f48 (E.sig 48) 11 [1, 1, 1, 0, 0] ⟨[(3, .one (.of (.list .bool) x0))], 0, []⟩
noncomputable def F48_J12_1 (x0 : List (Bool)) : Option (((List (Bool) × Unit) × Unit)) := partJ E Fn G h48 Try.f48 (E.sig 48) 12 [1, 1, 1, 0, 0, 0, 1] ⟨[(3, .one (.of (.list .bool) x0))], 0, []⟩
noncomputable def F48_J13_1 (x0 : List (Bool)) : Option (((List (Bool) × Unit) × Unit)) := partJ E Fn G h48 Try.f48 (E.sig 48) 13 [1, 1, 1, 1] ⟨[(3, .one (.of (.list .bool) x0))], 0, []⟩
noncomputable def F58 (a0 : Int) : Option (((List (Int) × Unit) × Unit)) := callI E Fn G 58 (a0, ())
noncomputable def F58_L2 (x0 : Int) (x1 : List (Int)) : Option (((List (Int) × Unit) × Unit)) := partL E Fn G h58 Try.f58 (E.sig 58) 2 [1, 1, 0, 0] ⟨[(0, .one (.of (.int .i64) x0)), (3, .one (.view 0))], 1, [(0, some (.row 3 (.int .i64) x1))]⟩
noncomputable def F58_J4 (x0 : Int) (x1 : List (Int)) : Option (((List (Int) × Unit) × Unit)) := partJ E Fn G h58 Try.f58 (E.sig 58) 4 [1, 1, 0, 0, 0, 1] ⟨[(0, .one (.of (.int .i64) x0)), (3, .one (.view 0))], 1, [(0, some (.row 3 (.int .i64) x1))]⟩
noncomputable def F58_J5 (x0 : List (Int)) : Option (((List (Int) × Unit) × Unit)) := partJ E Fn G h58 Try.f58 (E.sig 58) 5 [1, 1, 1] ⟨[(3, .one (.view 0))], 1, [(0, some (.row 3 (.int .i64) x0))]⟩
noncomputable def F54 (a0 : List (Int)) (a1 : List (Int)) : Option (((List (Int) × Unit) × Unit)) := callI E Fn G 54 (a0, a1, ())
noncomputable def F54_L4 (x0 : List (Int)) (x1 : List (Int)) (x2 : Int) (x3 : Int) (x4 : List (Int)) : Option (((List (Int) × Unit) × Unit)) := partL E Fn G h54 Try.f54 (E.sig 54) 4 [1, 1, 1, 0, 1, 0] ⟨[(0, .one (.of (.list (.int .i64)) x0)), (1, .one (.of (.list (.int .i64)) x1)), (5, .one (.view 0)), (6, .one (.of (.int .i64) x2)), (7, .one (.of (.int .i64) x3))], 1, [(0, some (.row 3 (.int .i64) x4))]⟩
noncomputable def F54_J6 (x0 : List (Int)) (x1 : List (Int)) (x2 : Int) (x3 : Int) (x4 : List (Int)) : Option (((List (Int) × Unit) × Unit)) := partJ E Fn G h54 Try.f54 (E.sig 54) 6 [1, 1, 1, 0, 1, 0, 0, 1] ⟨[(0, .one (.of (.list (.int .i64)) x0)), (1, .one (.of (.list (.int .i64)) x1)), (5, .one (.view 0)), (6, .one (.of (.int .i64) x2)), (7, .one (.of (.int .i64) x3))], 1, [(0, some (.row 3 (.int .i64) x4))]⟩
noncomputable def F54_J14 (x0 : List (Int)) : Option (((List (Int) × Unit) × Unit)) := partJ E Fn G h54 Try.f54 (E.sig 54) 14 [1, 1, 1, 1] ⟨[(5, .one (.view 0))], 1, [(0, some (.row 3 (.int .i64) x0))]⟩
noncomputable def F54_J9 (x0 : List (Int)) (x1 : List (Int)) (x2 : Int) (x3 : Int) (x4 : List (Int)) : Option (((List (Int) × Unit) × Unit)) := partJ E Fn G h54 Try.f54 (E.sig 54) 9 [1, 1, 1, 0, 1, 0, 0, 1, 0, 0, 1, 1] ⟨[(0, .one (.of (.list (.int .i64)) x0)), (1, .one (.of (.list (.int .i64)) x1)), (5, .one (.view 0)), (7, .one (.of (.int .i64) x2)), (8, .one (.of (.int .i64) x3))], 1, [(0, some (.row 3 (.int .i64) x4))]⟩
noncomputable def F54_J13 (x0 : List (Int)) (x1 : List (Int)) (x2 : Int) (x3 : Int) (x4 : Int) (x5 : List (Int)) : Option (((List (Int) × Unit) × Unit)) := partJ E Fn G h54 Try.f54 (E.sig 54) 13 [1, 1, 1, 0, 1, 0, 0, 1, 0, 0, 1, 1, 1, 1] ⟨[(0, .one (.of (.list (.int .i64)) x0)), (1, .one (.of (.list (.int .i64)) x1)), (5, .one (.view 0)), (6, .one (.of (.int .i64) x2)), (7, .one (.of (.int .i64) x3)), (8, .one (.of (.int .i64) x4))], 1, [(0, some (.row 3 (.int .i64) x5))]⟩
noncomputable def F54_J5 (x0 : List (Int)) (x1 : List (Int)) (x2 : Int) (x3 : Int) (x4 : List (Int)) : Option (((List (Int) × Unit) × Unit)) := partJ E Fn G h54 Try.f54 (E.sig 54) 5 [1, 1, 1, 0, 1, 0, 0, 1, 1] ⟨[(0, .one (.of (.list (.int .i64)) x0)), (1, .one (.of (.list (.int .i64)) x1)), (5, .one (.view 0)), (6, .one (.of (.int .i64) x2)), (7, .one (.of (.int .i64) x3))], 1, [(0, some (.row 3 (.int .i64) x4))]⟩
noncomputable def F53 (a0 : List (Int)) (a1 : List (Int)) : Option (((List (Int) × Unit) × Unit)) := callI E Fn G 53 (a0, a1, ())
noncomputable def F53_L4 (x0 : List (Int)) (x1 : List (Int)) (x2 : Int) (x3 : Int) (x4 : List (Int)) : Option (((List (Int) × Unit) × Unit)) := partL E Fn G h53 Try.f53 (E.sig 53) 4 [1, 1, 1, 0, 1, 0] ⟨[(0, .one (.of (.list (.int .i64)) x0)), (1, .one (.of (.list (.int .i64)) x1)), (5, .one (.view 0)), (6, .one (.of (.int .i64) x2)), (7, .one (.of (.int .i64) x3))], 1, [(0, some (.row 3 (.int .i64) x4))]⟩
noncomputable def F53_J6 (x0 : List (Int)) (x1 : List (Int)) (x2 : Int) (x3 : Int) (x4 : List (Int)) : Option (((List (Int) × Unit) × Unit)) := partJ E Fn G h53 Try.f53 (E.sig 53) 6 [1, 1, 1, 0, 1, 0, 0, 1] ⟨[(0, .one (.of (.list (.int .i64)) x0)), (1, .one (.of (.list (.int .i64)) x1)), (5, .one (.view 0)), (6, .one (.of (.int .i64) x2)), (7, .one (.of (.int .i64) x3))], 1, [(0, some (.row 3 (.int .i64) x4))]⟩
noncomputable def F53_J12 (x0 : List (Int)) : Option (((List (Int) × Unit) × Unit)) := partJ E Fn G h53 Try.f53 (E.sig 53) 12 [1, 1, 1, 1] ⟨[(5, .one (.view 0))], 1, [(0, some (.row 3 (.int .i64) x0))]⟩
noncomputable def F53_J8 (x0 : List (Int)) (x1 : List (Int)) (x2 : Int) (x3 : Int) (x4 : List (Int)) : Option (((List (Int) × Unit) × Unit)) := partJ E Fn G h53 Try.f53 (E.sig 53) 8 [1, 1, 1, 0, 1, 0, 0, 1, 0, 0, 1] ⟨[(0, .one (.of (.list (.int .i64)) x0)), (1, .one (.of (.list (.int .i64)) x1)), (5, .one (.view 0)), (6, .one (.of (.int .i64) x2)), (7, .one (.of (.int .i64) x3))], 1, [(0, some (.row 3 (.int .i64) x4))]⟩
noncomputable def F53_J10 (x0 : List (Int)) (x1 : List (Int)) (x2 : Int) (x3 : Int) (x4 : List (Int)) : Option (((List (Int) × Unit) × Unit)) := partJ E Fn G h53 Try.f53 (E.sig 53) 10 [1, 1, 1, 0, 1, 0, 0, 1, 0, 0, 1, 1] ⟨[(0, .one (.of (.list (.int .i64)) x0)), (1, .one (.of (.list (.int .i64)) x1)), (5, .one (.view 0)), (6, .one (.of (.int .i64) x2)), (7, .one (.of (.int .i64) x3))], 1, [(0, some (.row 3 (.int .i64) x4))]⟩
noncomputable def F53_J5 (x0 : List (Int)) (x1 : List (Int)) (x2 : Int) (x3 : Int) (x4 : List (Int)) : Option (((List (Int) × Unit) × Unit)) := partJ E Fn G h53 Try.f53 (E.sig 53) 5 [1, 1, 1, 0, 1, 0, 0, 1, 1] ⟨[(0, .one (.of (.list (.int .i64)) x0)), (1, .one (.of (.list (.int .i64)) x1)), (5, .one (.view 0)), (6, .one (.of (.int .i64) x2)), (7, .one (.of (.int .i64) x3))], 1, [(0, some (.row 3 (.int .i64) x4))]⟩
noncomputable def F34 (a0 : List (Int)) : Option (((List (Int) × Unit) × Unit)) := callI E Fn G 34 (a0, ())
noncomputable def F34_L3 (x0 : List (Int)) (x1 : Int) (x2 : List (Int)) : Option (((List (Int) × Unit) × Unit)) := partL E Fn G h34 Try.f34 (E.sig 34) 3 [1, 1, 0, 1, 0] ⟨[(0, .one (.of (.list (.int .i64)) x0)), (3, .one (.view 0)), (4, .one (.of (.int .i64) x1))], 1, [(0, some (.row 76 (.int .u32) x2))]⟩
noncomputable def F34_J5 (x0 : List (Int)) (x1 : Int) (x2 : List (Int)) : Option (((List (Int) × Unit) × Unit)) := partJ E Fn G h34 Try.f34 (E.sig 34) 5 [1, 1, 0, 1, 0, 0, 1] ⟨[(0, .one (.of (.list (.int .i64)) x0)), (3, .one (.view 0)), (4, .one (.of (.int .i64) x1))], 1, [(0, some (.row 76 (.int .u32) x2))]⟩
noncomputable def F34_J9 (x0 : List (Int)) : Option (((List (Int) × Unit) × Unit)) := partJ E Fn G h34 Try.f34 (E.sig 34) 9 [1, 1, 1] ⟨[(3, .one (.view 0))], 1, [(0, some (.row 76 (.int .u32) x0))]⟩
noncomputable def F34_J8 (x0 : List (Int)) (x1 : Int) (x2 : Int) (x3 : List (Int)) : Option (((List (Int) × Unit) × Unit)) := partJ E Fn G h34 Try.f34 (E.sig 34) 8 [1, 1, 0, 1, 0, 0, 1, 0, 0, 1, 1] ⟨[(0, .one (.of (.list (.int .i64)) x0)), (3, .one (.view 0)), (4, .one (.of (.int .i64) x1)), (5, .one (.of (.int .u32) x2))], 1, [(0, some (.row 76 (.int .u32) x3))]⟩
noncomputable def F34_J4 (x0 : List (Int)) (x1 : Int) (x2 : List (Int)) : Option (((List (Int) × Unit) × Unit)) := partJ E Fn G h34 Try.f34 (E.sig 34) 4 [1, 1, 0, 1, 0, 0, 1, 1] ⟨[(0, .one (.of (.list (.int .i64)) x0)), (3, .one (.view 0)), (4, .one (.of (.int .i64) x1))], 1, [(0, some (.row 76 (.int .u32) x2))]⟩
noncomputable def F10 (a0 : (Int × Int)) (a1 : Int) : Option ((((Int × Int) × ((Int × Int) × Unit)) × Unit)) := callI E Fn G 10 (a0, a1, ())
noncomputable def F10_J4 (x0 : Int) (x1 : Int) (x2 : Int) (x3 : Int) (x4 : Int) (x5 : Int) (x6 : Int) : Option ((((Int × Int) × ((Int × Int) × Unit)) × Unit)) := partJ E Fn G h10 Try.f10 (E.sig 10) 4 [1, 1] ⟨[(1, .one (.of (.int .u64) x0)), (2, .one (.ptr 0 0)), (4, .one (.ptr 1 0)), (5, .one (.ptr 2 0))], 3, [(0, some (.cell [.of (.int .u64) x1, .of (.int .u64) x2])), (1, some (.cell [.of (.int .u64) x3, .of (.int .u64) x4])), (2, some (.cell [.of (.int .i64) x5, .of (.int .i64) x6]))]⟩
noncomputable def F10_L6 (x0 : Int) (x1 : Int) (x2 : Int) (x3 : Int) (x4 : Int) (x5 : Int) (x6 : Int) (x7 : Int) (x8 : Int) (x9 : Int) (x10 : Int) : Option ((((Int × Int) × ((Int × Int) × Unit)) × Unit)) := partL E Fn G h10 Try.f10 (E.sig 10) 6 [1, 1, 1, 0, 1, 0] ⟨[(1, .one (.of (.int .u64) x0)), (2, .one (.ptr 0 0)), (4, .one (.ptr 1 0)), (5, .one (.ptr 2 0)), (8, .one (.of (.int .u64) x1)), (9, .one (.of (.int .u64) x2)), (10, .one (.of (.int .u64) x3)), (11, .one (.of (.int .u64) x4))], 3, [(0, some (.cell [.of (.int .u64) x5, .of (.int .u64) x6])), (1, some (.cell [.of (.int .u64) x7, .of (.int .u64) x8])), (2, some (.cell [.of (.int .i64) x9, .of (.int .i64) x10]))]⟩
noncomputable def F10_J8 (x0 : Int) (x1 : Int) (x2 : Int) (x3 : Int) (x4 : Int) (x5 : Int) (x6 : Int) (x7 : Int) (x8 : Int) (x9 : Int) (x10 : Int) : Option ((((Int × Int) × ((Int × Int) × Unit)) × Unit)) := partJ E Fn G h10 Try.f10 (E.sig 10) 8 [1, 1, 1, 0, 1, 0, 0, 1] ⟨[(1, .one (.of (.int .u64) x0)), (2, .one (.ptr 0 0)), (4, .one (.ptr 1 0)), (5, .one (.ptr 2 0)), (8, .one (.of (.int .u64) x1)), (9, .one (.of (.int .u64) x2)), (10, .one (.of (.int .u64) x3)), (11, .one (.of (.int .u64) x4))], 3, [(0, some (.cell [.of (.int .u64) x5, .of (.int .u64) x6])), (1, some (.cell [.of (.int .u64) x7, .of (.int .u64) x8])), (2, some (.cell [.of (.int .i64) x9, .of (.int .i64) x10]))]⟩
noncomputable def F10_J11 (x0 : Int) (x1 : Int) (x2 : Int) (x3 : Int) (x4 : Int) (x5 : Int) (x6 : Int) (x7 : Int) : Option ((((Int × Int) × ((Int × Int) × Unit)) × Unit)) := partJ E Fn G h10 Try.f10 (E.sig 10) 11 [1, 1, 1, 1] ⟨[(2, .one (.ptr 0 0)), (4, .one (.ptr 1 0)), (5, .one (.ptr 2 0)), (8, .one (.of (.int .u64) x0)), (9, .one (.of (.int .u64) x1))], 3, [(0, some (.cell [.of (.int .u64) x2, .of (.int .u64) x3])), (1, some (.cell [.of (.int .u64) x4, .of (.int .u64) x5])), (2, some (.cell [.of (.int .i64) x6, .of (.int .i64) x7]))]⟩
noncomputable def F10_J10 (x0 : Int) (x1 : Int) (x2 : Int) (x3 : Int) (x4 : Int) (x5 : Int) (x6 : Int) (x7 : Int) (x8 : Int) (x9 : Int) (x10 : Int) : Option ((((Int × Int) × ((Int × Int) × Unit)) × Unit)) := partJ E Fn G h10 Try.f10 (E.sig 10) 10 [1, 1, 1, 0, 1, 0, 0, 1, 0, 0, 1] ⟨[(1, .one (.of (.int .u64) x0)), (2, .one (.ptr 0 0)), (4, .one (.ptr 1 0)), (5, .one (.ptr 2 0)), (8, .one (.of (.int .u64) x1)), (9, .one (.of (.int .u64) x2)), (10, .one (.of (.int .u64) x3)), (11, .one (.of (.int .u64) x4))], 3, [(0, some (.cell [.of (.int .u64) x5, .of (.int .u64) x6])), (1, some (.cell [.of (.int .u64) x7, .of (.int .u64) x8])), (2, some (.cell [.of (.int .i64) x9, .of (.int .i64) x10]))]⟩
noncomputable def F10_J7 (x0 : Int) (x1 : Int) (x2 : Int) (x3 : Int) (x4 : Int) (x5 : Int) (x6 : Int) (x7 : Int) (x8 : Int) (x9 : Int) (x10 : Int) : Option ((((Int × Int) × ((Int × Int) × Unit)) × Unit)) := partJ E Fn G h10 Try.f10 (E.sig 10) 7 [1, 1, 1, 0, 1, 0, 0, 1, 1] ⟨[(1, .one (.of (.int .u64) x0)), (2, .one (.ptr 0 0)), (4, .one (.ptr 1 0)), (5, .one (.ptr 2 0)), (8, .one (.of (.int .u64) x1)), (9, .one (.of (.int .u64) x2)), (10, .one (.of (.int .u64) x3)), (11, .one (.of (.int .u64) x4))], 3, [(0, some (.cell [.of (.int .u64) x5, .of (.int .u64) x6])), (1, some (.cell [.of (.int .u64) x7, .of (.int .u64) x8])), (2, some (.cell [.of (.int .i64) x9, .of (.int .i64) x10]))]⟩
noncomputable def F12 (a0 : (Bool × List (Int))) : Option (((Bool × Unit) × Unit)) := callI E Fn G 12 (a0, ())
noncomputable def F20 (a0 : (Bool × List (Int))) : Option ((((Bool × List (Int)) × Unit) × Unit)) := callI E Fn G 20 (a0, ())
noncomputable def F50 (a0 : List (Int)) : Option (((List (Int) × Unit) × Unit)) := callI E Fn G 50 (a0, ())
noncomputable def F50_L3 (x0 : List (Int)) (x1 : Int) (x2 : List (Int)) : Option (((List (Int) × Unit) × Unit)) := partL E Fn G h50 Try.f50 (E.sig 50) 3 [1, 1, 0, 1, 0] ⟨[(0, .one (.of (.list (.int .u32)) x0)), (3, .one (.view 0)), (4, .one (.of (.int .i64) x1))], 1, [(0, some (.row 3 (.int .i64) x2))]⟩
noncomputable def F50_J5 (x0 : List (Int)) (x1 : Int) (x2 : List (Int)) : Option (((List (Int) × Unit) × Unit)) := partJ E Fn G h50 Try.f50 (E.sig 50) 5 [1, 1, 0, 1, 0, 0, 1] ⟨[(0, .one (.of (.list (.int .u32)) x0)), (3, .one (.view 0)), (4, .one (.of (.int .i64) x1))], 1, [(0, some (.row 3 (.int .i64) x2))]⟩
noncomputable def F50_J6 (x0 : List (Int)) : Option (((List (Int) × Unit) × Unit)) := partJ E Fn G h50 Try.f50 (E.sig 50) 6 [1, 1, 1] ⟨[(3, .one (.view 0))], 1, [(0, some (.row 3 (.int .i64) x0))]⟩
noncomputable def F22 (a0 : (Bool × List (Int))) (a1 : (Bool × List (Int))) : Option (((Int × Unit) × Unit)) := callI E Fn G 22 (a0, a1, ())
noncomputable def F22_J2 (x0 : Bool) (x1 : Bool) (x2 : Bool) (x3 : List (Int)) (x4 : Bool) (x5 : List (Int)) : Option (((Int × Unit) × Unit)) := partJ E Fn G h22 Try.f22 (E.sig 22) 2 [1, 1] ⟨[(2, .one (.ptr 0 0)), (3, .one (.ptr 1 0)), (5, .one (.of .bool x0)), (6, .one (.of .bool x1))], 2, [(0, some (.cell [.of .bool x2, .of (.list (.int .i64)) x3])), (1, some (.cell [.of .bool x4, .of (.list (.int .i64)) x5]))]⟩
noncomputable def F22_J8 (x0 : Bool) (x1 : List (Int)) (x2 : Bool) (x3 : List (Int)) : Option (((Int × Unit) × Unit)) := partJ E Fn G h22 Try.f22 (E.sig 22) 8 [1, 1, 1] ⟨[(2, .one (.ptr 0 0)), (3, .one (.ptr 1 0))], 2, [(0, some (.cell [.of .bool x0, .of (.list (.int .i64)) x1])), (1, some (.cell [.of .bool x2, .of (.list (.int .i64)) x3]))]⟩
noncomputable def F52 (a0 : List (Int)) (a1 : List (Int)) : Option (((Int × Unit) × Unit)) := callI E Fn G 52 (a0, a1, ())
noncomputable def F52_J4 : Option (((Int × Unit) × Unit)) := partJ E Fn G h52 Try.f52 (E.sig 52) 4 [1, 0, 1, 0, 1] ⟨[], 0, []⟩
noncomputable def F52_J5 (x0 : List (Int)) (x1 : List (Int)) : Option (((Int × Unit) × Unit)) := partJ E Fn G h52 Try.f52 (E.sig 52) 5 [1, 1] ⟨[(0, .one (.of (.list (.int .i64)) x0)), (1, .one (.of (.list (.int .i64)) x1))], 0, []⟩
noncomputable def F52_L6 (x0 : List (Int)) (x1 : List (Int)) (x2 : Int) : Option (((Int × Unit) × Unit)) := partL E Fn G h52 Try.f52 (E.sig 52) 6 [1, 1, 0, 1, 0] ⟨[(0, .one (.of (.list (.int .i64)) x0)), (1, .one (.of (.list (.int .i64)) x1)), (5, .one (.of (.int .i64) x2))], 0, []⟩
noncomputable def F52_J8 (x0 : List (Int)) (x1 : List (Int)) (x2 : Int) : Option (((Int × Unit) × Unit)) := partJ E Fn G h52 Try.f52 (E.sig 52) 8 [1, 1, 0, 1, 0, 0, 1] ⟨[(0, .one (.of (.list (.int .i64)) x0)), (1, .one (.of (.list (.int .i64)) x1)), (5, .one (.of (.int .i64) x2))], 0, []⟩
noncomputable def F52_J12 : Option (((Int × Unit) × Unit)) := partJ E Fn G h52 Try.f52 (E.sig 52) 12 [1, 1, 1] ⟨[], 0, []⟩
noncomputable def F52_J10 (x0 : List (Int)) (x1 : List (Int)) (x2 : Int) : Option (((Int × Unit) × Unit)) := partJ E Fn G h52 Try.f52 (E.sig 52) 10 [1, 1, 0, 1, 0, 0, 1, 0, 0, 1] ⟨[(0, .one (.of (.list (.int .i64)) x0)), (1, .one (.of (.list (.int .i64)) x1)), (5, .one (.of (.int .i64) x2))], 0, []⟩
noncomputable def F52_J7 (x0 : List (Int)) (x1 : List (Int)) (x2 : Int) : Option (((Int × Unit) × Unit)) := partJ E Fn G h52 Try.f52 (E.sig 52) 7 [1, 1, 0, 1, 0, 0, 1, 1] ⟨[(0, .one (.of (.list (.int .i64)) x0)), (1, .one (.of (.list (.int .i64)) x1)), (5, .one (.of (.int .i64) x2))], 0, []⟩
noncomputable def F17 (a0 : (Int × Int)) (a1 : (Bool × List (Int))) (a2 : (Bool × List (Int))) : Option ((((Bool × List (Int)) × ((Int × Int) × ((Int × Int) × Unit))) × Unit)) := callI E Fn G 17 (a0, a1, a2, ())
noncomputable def F17_J8 (x0 : Bool) (x1 : List (Int)) (x2 : Bool) (x3 : List (Int)) (x4 : Bool) (x5 : Int) (x6 : Int) (x7 : Int) (x8 : Int) (x9 : Int) (x10 : Int) : Option ((((Bool × List (Int)) × ((Int × Int) × ((Int × Int) × Unit))) × Unit)) := partJ E Fn G h17 Try.f17 (E.sig 17) 8 [1, 1, 1] ⟨[(4, .one (.ptr 0 0)), (5, .one (.ptr 1 0)), (6, .one (.ptr 2 0)), (7, .one (.ptr 3 0)), (8, .one (.ptr 4 0)), (9, .one (.raw (Value.pointer none))), (10, .one (.ptr 5 0))], 6, [(0, some (.cell [.of .bool x0, .of (.list (.int .u32)) x1])), (1, some (.cell [.of .bool x2, .of (.list (.int .u32)) x3])), (2, some (.cell [.of .bool x4, .raw (.slice none 0 0)])), (3, some (.cell [.of (.int .u64) x5, .of (.int .u64) x6])), (4, some (.cell [.of (.int .i64) x7, .of (.int .i64) x8])), (5, some (.cell [.of (.int .i64) x9, .of (.int .i64) x10]))]⟩
noncomputable def F17_J8_1 (x0 : Bool) (x1 : List (Int)) (x2 : Bool) (x3 : List (Int)) (x4 : Bool) (x5 : Int) (x6 : Int) (x7 : Int) (x8 : Int) (x9 : Int) (x10 : Int) (x11 : Int) (x12 : Int) : Option ((((Bool × List (Int)) × ((Int × Int) × ((Int × Int) × Unit))) × Unit)) := partJ E Fn G h17 Try.f17 (E.sig 17) 8 [1, 1, 1] ⟨[(4, .one (.ptr 0 0)), (5, .one (.ptr 1 0)), (6, .one (.ptr 2 0)), (7, .one (.ptr 3 0)), (8, .one (.ptr 4 0)), (9, .one (.ptr 5 0)), (10, .one (.ptr 6 0))], 7, [(0, some (.cell [.of .bool x0, .of (.list (.int .u32)) x1])), (1, some (.cell [.of .bool x2, .of (.list (.int .u32)) x3])), (2, some (.cell [.of .bool x4, .raw (.slice none 0 0)])), (3, some (.cell [.of (.int .u64) x5, .of (.int .u64) x6])), (4, some (.cell [.of (.int .i64) x7, .of (.int .i64) x8])), (5, some (.cell [.of (.int .u64) x9, .of (.int .u64) x10])), (6, some (.cell [.of (.int .i64) x11, .of (.int .i64) x12]))]⟩
noncomputable def F17_J11 (x0 : Bool) (x1 : List (Int)) (x2 : Bool) (x3 : List (Int)) (x4 : Bool) (x5 : Int) (x6 : Int) (x7 : Int) (x8 : Int) (x9 : Int) (x10 : Int) : Option ((((Bool × List (Int)) × ((Int × Int) × ((Int × Int) × Unit))) × Unit)) := partJ E Fn G h17 Try.f17 (E.sig 17) 11 [1, 1, 1, 1] ⟨[(4, .one (.ptr 0 0)), (5, .one (.ptr 1 0)), (6, .one (.ptr 2 0)), (7, .one (.ptr 3 0)), (8, .one (.ptr 4 0)), (9, .one (.raw (Value.pointer none))), (10, .one (.ptr 5 0))], 6, [(0, some (.cell [.of .bool x0, .of (.list (.int .u32)) x1])), (1, some (.cell [.of .bool x2, .of (.list (.int .u32)) x3])), (2, some (.cell [.of .bool x4, .raw (.slice none 0 0)])), (3, some (.cell [.of (.int .u64) x5, .of (.int .u64) x6])), (4, some (.cell [.of (.int .i64) x7, .of (.int .i64) x8])), (5, some (.cell [.of (.int .i64) x9, .of (.int .i64) x10]))]⟩
noncomputable def F17_J11_1 (x0 : Bool) (x1 : List (Int)) (x2 : Bool) (x3 : List (Int)) (x4 : Bool) (x5 : Int) (x6 : Int) (x7 : Int) (x8 : Int) (x9 : Int) (x10 : Int) (x11 : Int) (x12 : Int) : Option ((((Bool × List (Int)) × ((Int × Int) × ((Int × Int) × Unit))) × Unit)) := partJ E Fn G h17 Try.f17 (E.sig 17) 11 [1, 1, 1, 1] ⟨[(4, .one (.ptr 0 0)), (5, .one (.ptr 1 0)), (6, .one (.ptr 2 0)), (7, .one (.ptr 3 0)), (8, .one (.ptr 4 0)), (9, .one (.ptr 5 0)), (10, .one (.ptr 6 0))], 7, [(0, some (.cell [.of .bool x0, .of (.list (.int .u32)) x1])), (1, some (.cell [.of .bool x2, .of (.list (.int .u32)) x3])), (2, some (.cell [.of .bool x4, .raw (.slice none 0 0)])), (3, some (.cell [.of (.int .u64) x5, .of (.int .u64) x6])), (4, some (.cell [.of (.int .i64) x7, .of (.int .i64) x8])), (5, some (.cell [.of (.int .u64) x9, .of (.int .u64) x10])), (6, some (.cell [.of (.int .i64) x11, .of (.int .i64) x12]))]⟩
noncomputable def F17_J14 (x0 : Bool) (x1 : List (Int)) (x2 : Bool) (x3 : Int) (x4 : Int) (x5 : Int) (x6 : Int) (x7 : Int) (x8 : Int) (x9 : Bool) (x10 : List (Int)) : Option ((((Bool × List (Int)) × ((Int × Int) × ((Int × Int) × Unit))) × Unit)) := partJ E Fn G h17 Try.f17 (E.sig 17) 14 [1, 1, 1, 1, 1, 1] ⟨[(4, .one (.ptr 0 0)), (6, .one (.ptr 1 0)), (7, .one (.ptr 2 0)), (8, .one (.ptr 3 0)), (9, .one (.raw (Value.pointer none))), (10, .one (.ptr 4 0)), (13, .one (.ptr 5 0))], 6, [(0, some (.cell [.of .bool x0, .of (.list (.int .u32)) x1])), (1, some (.cell [.of .bool x2, .raw (.slice none 0 0)])), (2, some (.cell [.of (.int .u64) x3, .of (.int .u64) x4])), (3, some (.cell [.of (.int .i64) x5, .of (.int .i64) x6])), (4, some (.cell [.of (.int .i64) x7, .of (.int .i64) x8])), (5, some (.cell [.of .bool x9, .of (.list (.int .u32)) x10]))]⟩
noncomputable def F17_J14_1 (x0 : Bool) (x1 : List (Int)) (x2 : Bool) (x3 : Int) (x4 : Int) (x5 : Int) (x6 : Int) (x7 : Int) (x8 : Int) (x9 : Int) (x10 : Int) (x11 : Bool) (x12 : List (Int)) : Option ((((Bool × List (Int)) × ((Int × Int) × ((Int × Int) × Unit))) × Unit)) := partJ E Fn G h17 Try.f17 (E.sig 17) 14 [1, 1, 1, 1, 1, 1] ⟨[(4, .one (.ptr 0 0)), (6, .one (.ptr 1 0)), (7, .one (.ptr 2 0)), (8, .one (.ptr 3 0)), (9, .one (.ptr 4 0)), (10, .one (.ptr 5 0)), (13, .one (.ptr 6 0))], 7, [(0, some (.cell [.of .bool x0, .of (.list (.int .u32)) x1])), (1, some (.cell [.of .bool x2, .raw (.slice none 0 0)])), (2, some (.cell [.of (.int .u64) x3, .of (.int .u64) x4])), (3, some (.cell [.of (.int .i64) x5, .of (.int .i64) x6])), (4, some (.cell [.of (.int .u64) x7, .of (.int .u64) x8])), (5, some (.cell [.of (.int .i64) x9, .of (.int .i64) x10])), (6, some (.cell [.of .bool x11, .of (.list (.int .u32)) x12]))]⟩
noncomputable def F17_J16 (x0 : Bool) (x1 : List (Int)) (x2 : Bool) (x3 : Int) (x4 : Int) (x5 : Int) (x6 : Int) (x7 : Bool) (x8 : List (Int)) : Option ((((Bool × List (Int)) × ((Int × Int) × ((Int × Int) × Unit))) × Unit)) := partJ E Fn G h17 Try.f17 (E.sig 17) 16 [1, 1, 1, 1, 1, 1, 1] ⟨[(4, .one (.ptr 0 0)), (6, .one (.ptr 1 0)), (7, .one (.ptr 2 0)), (8, .one (.ptr 3 0)), (9, .one (.raw (Value.pointer none))), (13, .one (.ptr 4 0))], 5, [(0, some (.cell [.of .bool x0, .of (.list (.int .u32)) x1])), (1, some (.cell [.of .bool x2, .raw (.slice none 0 0)])), (2, some (.cell [.of (.int .u64) x3, .of (.int .u64) x4])), (3, some (.cell [.of (.int .i64) x5, .of (.int .i64) x6])), (4, some (.cell [.of .bool x7, .of (.list (.int .u32)) x8]))]⟩
noncomputable def F17_J16_1 (x0 : Bool) (x1 : List (Int)) (x2 : Bool) (x3 : Int) (x4 : Int) (x5 : Int) (x6 : Int) (x7 : Int) (x8 : Int) (x9 : Bool) (x10 : List (Int)) : Option ((((Bool × List (Int)) × ((Int × Int) × ((Int × Int) × Unit))) × Unit)) := partJ E Fn G h17 Try.f17 (E.sig 17) 16 [1, 1, 1, 1, 1, 1, 1] ⟨[(4, .one (.ptr 0 0)), (6, .one (.ptr 1 0)), (7, .one (.ptr 2 0)), (8, .one (.ptr 3 0)), (9, .one (.ptr 4 0)), (13, .one (.ptr 5 0))], 6, [(0, some (.cell [.of .bool x0, .of (.list (.int .u32)) x1])), (1, some (.cell [.of .bool x2, .raw (.slice none 0 0)])), (2, some (.cell [.of (.int .u64) x3, .of (.int .u64) x4])), (3, some (.cell [.of (.int .i64) x5, .of (.int .i64) x6])), (4, some (.cell [.of (.int .u64) x7, .of (.int .u64) x8])), (5, some (.cell [.of .bool x9, .of (.list (.int .u32)) x10]))]⟩
noncomputable def F46 (a0 : (Bool × List (Int))) (a1 : (Bool × List (Int))) : Option ((((Bool × List (Int)) × ((Int × Int) × Unit)) × Unit)) := callI E Fn G 46 (a0, a1, ())
noncomputable def F46_J4 (x0 : Bool) (x1 : List (Int)) (x2 : Bool) (x3 : List (Int)) (x4 : Bool) (x5 : Int) (x6 : Int) : Option ((((Bool × List (Int)) × ((Int × Int) × Unit)) × Unit)) := partJ E Fn G h46 Try.f46 (E.sig 46) 4 [1, 1] ⟨[(2, .one (.ptr 0 0)), (3, .one (.ptr 1 0)), (4, .one (.ptr 2 0)), (5, .one (.ptr 3 0))], 4, [(0, some (.cell [.of .bool x0, .of (.list (.int .u32)) x1])), (1, some (.cell [.of .bool x2, .of (.list (.int .u32)) x3])), (2, some (.cell [.of .bool x4, .raw (.slice none 0 0)])), (3, some (.cell [.of (.int .i64) x5, .of (.int .i64) x6]))]⟩
noncomputable def F35 (a0 : List ((Bool × List (Int)))) : Option ((((Int × Int) × Unit) × Unit)) := callI E Fn G 35 (a0, ())
noncomputable def F35_L2 (x0 : List ((Bool × List (Int)))) (x1 : Int) (x2 : Int) (x3 : Int) : Option ((((Int × Int) × Unit) × Unit)) := partL E Fn G h35 Try.f35 (E.sig 35) 2 [1, 0, 1, 0] ⟨[(0, .one (.of (.list (.pair .bool (.list (.int .u32)))) x0)), (2, .one (.ptr 0 0)), (3, .one (.of (.int .i64) x1))], 1, [(0, some (.cell [.of (.int .i64) x2, .of (.int .i64) x3]))]⟩
noncomputable def F35_J4 (x0 : List ((Bool × List (Int)))) (x1 : Int) (x2 : Int) (x3 : Int) : Option ((((Int × Int) × Unit) × Unit)) := partJ E Fn G h35 Try.f35 (E.sig 35) 4 [1, 0, 1, 0, 0, 1] ⟨[(0, .one (.of (.list (.pair .bool (.list (.int .u32)))) x0)), (2, .one (.ptr 0 0)), (3, .one (.of (.int .i64) x1))], 1, [(0, some (.cell [.of (.int .i64) x2, .of (.int .i64) x3]))]⟩
noncomputable def F35_J6 (x0 : Int) (x1 : Int) : Option ((((Int × Int) × Unit) × Unit)) := partJ E Fn G h35 Try.f35 (E.sig 35) 6 [1, 1] ⟨[(2, .one (.ptr 0 0))], 1, [(0, some (.cell [.of (.int .i64) x0, .of (.int .i64) x1]))]⟩
noncomputable def F35_J3 (x0 : List ((Bool × List (Int)))) (x1 : Int) (x2 : Int) (x3 : Int) : Option ((((Int × Int) × Unit) × Unit)) := partJ E Fn G h35 Try.f35 (E.sig 35) 3 [1, 0, 1, 0, 0, 1, 1] ⟨[(0, .one (.of (.list (.pair .bool (.list (.int .u32)))) x0)), (2, .one (.ptr 0 0)), (3, .one (.of (.int .i64) x1))], 1, [(0, some (.cell [.of (.int .i64) x2, .of (.int .i64) x3]))]⟩
noncomputable def F59 (a0 : Int) (a1 : Int) : Option ((((Int × Int) × Unit) × Unit)) := callI E Fn G 59 (a0, a1, ())
noncomputable def F31 (a0 : (Int × Int)) (a1 : List (Int)) : Option (((Int × ((Int × Int) × ((Int × Int) × Unit))) × Unit)) := callI E Fn G 31 (a0, a1, ())
noncomputable def F31_J4 (x0 : List (Int)) (x1 : Int) (x2 : Int) (x3 : Int) (x4 : Int) : Option (((Int × ((Int × Int) × ((Int × Int) × Unit))) × Unit)) := partJ E Fn G h31 Try.f31 (E.sig 31) 4 [1, 1, 1] ⟨[(1, .one (.of (.list (.int .i64)) x0)), (5, .one (.ptr 0 0)), (6, .one (.ptr 1 0)), (7, .one (.raw (Value.pointer none)))], 2, [(0, some (.cell [.of (.int .u64) x1, .of (.int .u64) x2])), (1, some (.cell [.of (.int .i64) x3, .of (.int .i64) x4]))]⟩
noncomputable def F31_J4_1 (x0 : List (Int)) (x1 : Int) (x2 : Int) (x3 : Int) (x4 : Int) (x5 : Int) (x6 : Int) : Option (((Int × ((Int × Int) × ((Int × Int) × Unit))) × Unit)) := partJ E Fn G h31 Try.f31 (E.sig 31) 4 [1, 1, 1] ⟨[(1, .one (.of (.list (.int .i64)) x0)), (5, .one (.ptr 0 0)), (6, .one (.ptr 1 0)), (7, .one (.ptr 2 0))], 3, [(0, some (.cell [.of (.int .u64) x1, .of (.int .u64) x2])), (1, some (.cell [.of (.int .i64) x3, .of (.int .i64) x4])), (2, some (.cell [.of (.int .u64) x5, .of (.int .u64) x6]))]⟩
noncomputable def F31_J6 (x0 : List (Int)) (x1 : Int) (x2 : Int) (x3 : Int) (x4 : Int) : Option (((Int × ((Int × Int) × ((Int × Int) × Unit))) × Unit)) := partJ E Fn G h31 Try.f31 (E.sig 31) 6 [1, 1, 1, 1] ⟨[(1, .one (.of (.list (.int .i64)) x0)), (5, .one (.ptr 0 0)), (6, .one (.ptr 1 0)), (7, .one (.raw (Value.pointer none)))], 2, [(0, some (.cell [.of (.int .u64) x1, .of (.int .u64) x2])), (1, some (.cell [.of (.int .i64) x3, .of (.int .i64) x4]))]⟩
noncomputable def F31_J6_1 (x0 : List (Int)) (x1 : Int) (x2 : Int) (x3 : Int) (x4 : Int) (x5 : Int) (x6 : Int) : Option (((Int × ((Int × Int) × ((Int × Int) × Unit))) × Unit)) := partJ E Fn G h31 Try.f31 (E.sig 31) 6 [1, 1, 1, 1] ⟨[(1, .one (.of (.list (.int .i64)) x0)), (5, .one (.ptr 0 0)), (6, .one (.ptr 1 0)), (7, .one (.ptr 2 0))], 3, [(0, some (.cell [.of (.int .u64) x1, .of (.int .u64) x2])), (1, some (.cell [.of (.int .i64) x3, .of (.int .i64) x4])), (2, some (.cell [.of (.int .u64) x5, .of (.int .u64) x6]))]⟩
noncomputable def F31_L8 (x0 : List (Int)) (x1 : Int) (x2 : List (Int)) (x3 : Int) (x4 : Int) (x5 : Int) (x6 : Int) (x7 : Int) (x8 : Int) : Option (((Int × ((Int × Int) × ((Int × Int) × Unit))) × Unit)) := partL E Fn G h31 Try.f31 (E.sig 31) 8 [1, 1, 1, 1, 1, 0, 1, 0] ⟨[(1, .one (.of (.list (.int .i64)) x0)), (5, .one (.ptr 0 0)), (6, .one (.ptr 1 0)), (7, .one (.raw (Value.pointer none))), (9, .one (.of (.int .i64) x1)), (29, .one (.of (.list (.int .i64)) x2)), (30, .one (.of (.int .i64) x3)), (31, .one (.of (.int .i64) x4))], 2, [(0, some (.cell [.of (.int .u64) x5, .of (.int .u64) x6])), (1, some (.cell [.of (.int .i64) x7, .of (.int .i64) x8]))]⟩
noncomputable def F31_L8_1 (x0 : List (Int)) (x1 : Int) (x2 : List (Int)) (x3 : Int) (x4 : Int) (x5 : Int) (x6 : Int) (x7 : Int) (x8 : Int) (x9 : Int) (x10 : Int) : Option (((Int × ((Int × Int) × ((Int × Int) × Unit))) × Unit)) := partL E Fn G h31 Try.f31 (E.sig 31) 8 [1, 1, 1, 1, 1, 0, 1, 0] ⟨[(1, .one (.of (.list (.int .i64)) x0)), (5, .one (.ptr 0 0)), (6, .one (.ptr 1 0)), (7, .one (.ptr 2 0)), (9, .one (.of (.int .i64) x1)), (29, .one (.of (.list (.int .i64)) x2)), (30, .one (.of (.int .i64) x3)), (31, .one (.of (.int .i64) x4))], 3, [(0, some (.cell [.of (.int .u64) x5, .of (.int .u64) x6])), (1, some (.cell [.of (.int .i64) x7, .of (.int .i64) x8])), (2, some (.cell [.of (.int .u64) x9, .of (.int .u64) x10]))]⟩
noncomputable def F31_J9 (x0 : List (Int)) (x1 : Int) (x2 : List (Int)) (x3 : Int) (x4 : Int) (x5 : Int) (x6 : Int) (x7 : Int) (x8 : Int) : Option (((Int × ((Int × Int) × ((Int × Int) × Unit))) × Unit)) := partJ E Fn G h31 Try.f31 (E.sig 31) 9 [1, 1, 1, 1, 1, 0, 1, 0, 0, 1, 1] ⟨[(1, .one (.of (.list (.int .i64)) x0)), (5, .one (.ptr 0 0)), (6, .one (.ptr 1 0)), (7, .one (.raw (Value.pointer none))), (9, .one (.of (.int .i64) x1)), (29, .one (.of (.list (.int .i64)) x2)), (30, .one (.of (.int .i64) x3)), (31, .one (.of (.int .i64) x4))], 2, [(0, some (.cell [.of (.int .u64) x5, .of (.int .u64) x6])), (1, some (.cell [.of (.int .i64) x7, .of (.int .i64) x8]))]⟩
noncomputable def F31_J14 (x0 : List (Int)) (x1 : Int) (x2 : Int) (x3 : Int) (x4 : Int) (x5 : Int) : Option (((Int × ((Int × Int) × ((Int × Int) × Unit))) × Unit)) := partJ E Fn G h31 Try.f31 (E.sig 31) 14 [1, 1, 1, 1, 1, 1] ⟨[(1, .one (.of (.list (.int .i64)) x0)), (5, .one (.ptr 0 0)), (6, .one (.ptr 1 0)), (7, .one (.raw (Value.pointer none))), (9, .one (.of (.int .i64) x1))], 2, [(0, some (.cell [.of (.int .u64) x2, .of (.int .u64) x3])), (1, some (.cell [.of (.int .i64) x4, .of (.int .i64) x5]))]⟩
noncomputable def F31_J9_1 (x0 : List (Int)) (x1 : Int) (x2 : List (Int)) (x3 : Int) (x4 : Int) (x5 : Int) (x6 : Int) (x7 : Int) (x8 : Int) (x9 : Int) (x10 : Int) : Option (((Int × ((Int × Int) × ((Int × Int) × Unit))) × Unit)) := partJ E Fn G h31 Try.f31 (E.sig 31) 9 [1, 1, 1, 1, 1, 0, 1, 0, 0, 1, 1] ⟨[(1, .one (.of (.list (.int .i64)) x0)), (5, .one (.ptr 0 0)), (6, .one (.ptr 1 0)), (7, .one (.ptr 2 0)), (9, .one (.of (.int .i64) x1)), (29, .one (.of (.list (.int .i64)) x2)), (30, .one (.of (.int .i64) x3)), (31, .one (.of (.int .i64) x4))], 3, [(0, some (.cell [.of (.int .u64) x5, .of (.int .u64) x6])), (1, some (.cell [.of (.int .i64) x7, .of (.int .i64) x8])), (2, some (.cell [.of (.int .u64) x9, .of (.int .u64) x10]))]⟩
noncomputable def F31_J14_1 (x0 : List (Int)) (x1 : Int) (x2 : Int) (x3 : Int) (x4 : Int) (x5 : Int) (x6 : Int) (x7 : Int) : Option (((Int × ((Int × Int) × ((Int × Int) × Unit))) × Unit)) := partJ E Fn G h31 Try.f31 (E.sig 31) 14 [1, 1, 1, 1, 1, 1] ⟨[(1, .one (.of (.list (.int .i64)) x0)), (5, .one (.ptr 0 0)), (6, .one (.ptr 1 0)), (7, .one (.ptr 2 0)), (9, .one (.of (.int .i64) x1))], 3, [(0, some (.cell [.of (.int .u64) x2, .of (.int .u64) x3])), (1, some (.cell [.of (.int .i64) x4, .of (.int .i64) x5])), (2, some (.cell [.of (.int .u64) x6, .of (.int .u64) x7]))]⟩
noncomputable def F31_J12 (x0 : List (Int)) (x1 : Int) (x2 : Int) (x3 : List (Int)) (x4 : Int) (x5 : Int) (x6 : Int) (x7 : Int) (x8 : Int) (x9 : Int) : Option (((Int × ((Int × Int) × ((Int × Int) × Unit))) × Unit)) := partJ E Fn G h31 Try.f31 (E.sig 31) 12 [1, 1, 1, 1, 1, 0, 1, 0, 0, 1, 1, 0, 0, 1, 1] ⟨[(1, .one (.of (.list (.int .i64)) x0)), (5, .one (.ptr 0 0)), (6, .one (.ptr 1 0)), (7, .one (.raw (Value.pointer none))), (9, .one (.of (.int .i64) x1)), (11, .one (.of (.int .i64) x2)), (29, .one (.of (.list (.int .i64)) x3)), (30, .one (.of (.int .i64) x4)), (31, .one (.of (.int .i64) x5))], 2, [(0, some (.cell [.of (.int .u64) x6, .of (.int .u64) x7])), (1, some (.cell [.of (.int .i64) x8, .of (.int .i64) x9]))]⟩
noncomputable def F31_J16 (x0 : List (Int)) (x1 : Int) (x2 : Int) (x3 : Int) (x4 : Int) (x5 : Int) : Option (((Int × ((Int × Int) × ((Int × Int) × Unit))) × Unit)) := partJ E Fn G h31 Try.f31 (E.sig 31) 16 [1, 1, 1, 1, 1, 1, 1] ⟨[(1, .one (.of (.list (.int .i64)) x0)), (5, .one (.ptr 0 0)), (6, .one (.ptr 1 0)), (7, .one (.raw (Value.pointer none))), (9, .one (.of (.int .i64) x1))], 2, [(0, some (.cell [.of (.int .u64) x2, .of (.int .u64) x3])), (1, some (.cell [.of (.int .i64) x4, .of (.int .i64) x5]))]⟩
noncomputable def F31_J12_1 (x0 : List (Int)) (x1 : Int) (x2 : Int) (x3 : List (Int)) (x4 : Int) (x5 : Int) (x6 : Int) (x7 : Int) (x8 : Int) (x9 : Int) (x10 : Int) (x11 : Int) : Option (((Int × ((Int × Int) × ((Int × Int) × Unit))) × Unit)) := partJ E Fn G h31 Try.f31 (E.sig 31) 12 [1, 1, 1, 1, 1, 0, 1, 0, 0, 1, 1, 0, 0, 1, 1] ⟨[(1, .one (.of (.list (.int .i64)) x0)), (5, .one (.ptr 0 0)), (6, .one (.ptr 1 0)), (7, .one (.ptr 2 0)), (9, .one (.of (.int .i64) x1)), (11, .one (.of (.int .i64) x2)), (29, .one (.of (.list (.int .i64)) x3)), (30, .one (.of (.int .i64) x4)), (31, .one (.of (.int .i64) x5))], 3, [(0, some (.cell [.of (.int .u64) x6, .of (.int .u64) x7])), (1, some (.cell [.of (.int .i64) x8, .of (.int .i64) x9])), (2, some (.cell [.of (.int .u64) x10, .of (.int .u64) x11]))]⟩
noncomputable def F31_J16_1 (x0 : List (Int)) (x1 : Int) (x2 : Int) (x3 : Int) (x4 : Int) (x5 : Int) (x6 : Int) (x7 : Int) : Option (((Int × ((Int × Int) × ((Int × Int) × Unit))) × Unit)) := partJ E Fn G h31 Try.f31 (E.sig 31) 16 [1, 1, 1, 1, 1, 1, 1] ⟨[(1, .one (.of (.list (.int .i64)) x0)), (5, .one (.ptr 0 0)), (6, .one (.ptr 1 0)), (7, .one (.ptr 2 0)), (9, .one (.of (.int .i64) x1))], 3, [(0, some (.cell [.of (.int .u64) x2, .of (.int .u64) x3])), (1, some (.cell [.of (.int .i64) x4, .of (.int .i64) x5])), (2, some (.cell [.of (.int .u64) x6, .of (.int .u64) x7]))]⟩
noncomputable def F31_J13 (x0 : List (Int)) (x1 : Int) (x2 : List (Int)) (x3 : Int) (x4 : Int) (x5 : Int) (x6 : Int) (x7 : Int) (x8 : Int) : Option (((Int × ((Int × Int) × ((Int × Int) × Unit))) × Unit)) := partJ E Fn G h31 Try.f31 (E.sig 31) 13 [1, 1, 1, 1, 1, 0, 1, 0, 0, 1, 1, 1] ⟨[(1, .one (.of (.list (.int .i64)) x0)), (5, .one (.ptr 0 0)), (6, .one (.ptr 1 0)), (7, .one (.raw (Value.pointer none))), (9, .one (.of (.int .i64) x1)), (29, .one (.of (.list (.int .i64)) x2)), (30, .one (.of (.int .i64) x3)), (31, .one (.of (.int .i64) x4))], 2, [(0, some (.cell [.of (.int .u64) x5, .of (.int .u64) x6])), (1, some (.cell [.of (.int .i64) x7, .of (.int .i64) x8]))]⟩
noncomputable def F31_J13_1 (x0 : List (Int)) (x1 : Int) (x2 : List (Int)) (x3 : Int) (x4 : Int) (x5 : Int) (x6 : Int) (x7 : Int) (x8 : Int) (x9 : Int) (x10 : Int) : Option (((Int × ((Int × Int) × ((Int × Int) × Unit))) × Unit)) := partJ E Fn G h31 Try.f31 (E.sig 31) 13 [1, 1, 1, 1, 1, 0, 1, 0, 0, 1, 1, 1] ⟨[(1, .one (.of (.list (.int .i64)) x0)), (5, .one (.ptr 0 0)), (6, .one (.ptr 1 0)), (7, .one (.ptr 2 0)), (9, .one (.of (.int .i64) x1)), (29, .one (.of (.list (.int .i64)) x2)), (30, .one (.of (.int .i64) x3)), (31, .one (.of (.int .i64) x4))], 3, [(0, some (.cell [.of (.int .u64) x5, .of (.int .u64) x6])), (1, some (.cell [.of (.int .i64) x7, .of (.int .i64) x8])), (2, some (.cell [.of (.int .u64) x9, .of (.int .u64) x10]))]⟩
noncomputable def F31_L18 (x0 : List (Int)) (x1 : Int) (x2 : Int) (x3 : Int) (x4 : Int) (x5 : Int) (x6 : Int) (x7 : Int) (x8 : Int) : Option (((Int × ((Int × Int) × ((Int × Int) × Unit))) × Unit)) := partL E Fn G h31 Try.f31 (E.sig 31) 18 [1, 1, 1, 1, 1, 1, 1, 1, 1, 0, 0] ⟨[(1, .one (.of (.list (.int .i64)) x0)), (5, .one (.ptr 0 0)), (6, .one (.ptr 1 0)), (7, .one (.ptr 2 0)), (12, .one (.of (.int .i64) x1)), (13, .one (.of (.int .i64) x2))], 3, [(0, some (.cell [.of (.int .u64) x3, .of (.int .u64) x4])), (1, some (.cell [.of (.int .i64) x5, .of (.int .i64) x6])), (2, some (.cell [.of (.int .u64) x7, .of (.int .u64) x8]))]⟩
noncomputable def F31_J19 (x0 : List (Int)) (x1 : Int) (x2 : Int) (x3 : Int) (x4 : Int) (x5 : Int) (x6 : Int) (x7 : Int) (x8 : Int) : Option (((Int × ((Int × Int) × ((Int × Int) × Unit))) × Unit)) := partJ E Fn G h31 Try.f31 (E.sig 31) 19 [1, 1, 1, 1, 1, 1, 1, 1, 1, 0, 0, 0, 1] ⟨[(1, .one (.of (.list (.int .i64)) x0)), (5, .one (.ptr 0 0)), (6, .one (.ptr 1 0)), (7, .one (.ptr 2 0)), (12, .one (.of (.int .i64) x1)), (13, .one (.of (.int .i64) x2))], 3, [(0, some (.cell [.of (.int .u64) x3, .of (.int .u64) x4])), (1, some (.cell [.of (.int .i64) x5, .of (.int .i64) x6])), (2, some (.cell [.of (.int .u64) x7, .of (.int .u64) x8]))]⟩
noncomputable def F31_J21 (x0 : Int) (x1 : Int) (x2 : Int) (x3 : Int) (x4 : Int) (x5 : Int) (x6 : Int) : Option (((Int × ((Int × Int) × ((Int × Int) × Unit))) × Unit)) := partJ E Fn G h31 Try.f31 (E.sig 31) 21 [1, 1, 1, 1, 1, 1, 1, 1, 1, 1] ⟨[(5, .one (.ptr 0 0)), (6, .one (.ptr 1 0)), (7, .one (.ptr 2 0)), (13, .one (.of (.int .i64) x0))], 3, [(0, some (.cell [.of (.int .u64) x1, .of (.int .u64) x2])), (1, some (.cell [.of (.int .i64) x3, .of (.int .i64) x4])), (2, some (.cell [.of (.int .u64) x5, .of (.int .u64) x6]))]⟩
noncomputable def F56 (a0 : (Int × Int)) (a1 : Int) : Option (((Int × Unit) × ((Int × Int) × Unit))) := callI E Fn G 56 (a0, a1, ())
noncomputable def F67 (a0 : (Bool × List (Int))) : Option (((Int × ((Int × Int) × Unit)) × Unit)) := callI E Fn G 67 (a0, ())
noncomputable def F67_J4 (x0 : Bool) (x1 : List (Int)) (x2 : Int) (x3 : Int) : Option (((Int × ((Int × Int) × Unit)) × Unit)) := partJ E Fn G h67 Try.f67 (E.sig 67) 4 [1, 1] ⟨[(1, .one (.ptr 0 0)), (3, .one (.ptr 1 0))], 2, [(0, some (.cell [.of .bool x0, .of (.list (.int .u32)) x1])), (1, some (.cell [.of (.int .i64) x2, .of (.int .i64) x3]))]⟩
noncomputable def F67_L6 (x0 : Int) (x1 : List (Int)) (x2 : Int) (x3 : Int) (x4 : Bool) (x5 : List (Int)) (x6 : Int) (x7 : Int) : Option (((Int × ((Int × Int) × Unit)) × Unit)) := partL E Fn G h67 Try.f67 (E.sig 67) 6 [1, 1, 1, 0, 1, 0] ⟨[(1, .one (.ptr 0 0)), (3, .one (.ptr 1 0)), (5, .one (.of (.int .u64) x0)), (17, .one (.of (.list (.int .u32)) x1)), (18, .one (.of (.int .i64) x2)), (19, .one (.of (.int .i64) x3))], 2, [(0, some (.cell [.of .bool x4, .of (.list (.int .u32)) x5])), (1, some (.cell [.of (.int .i64) x6, .of (.int .i64) x7]))]⟩
noncomputable def F67_J7 (x0 : Int) (x1 : List (Int)) (x2 : Int) (x3 : Int) (x4 : Bool) (x5 : List (Int)) (x6 : Int) (x7 : Int) : Option (((Int × ((Int × Int) × Unit)) × Unit)) := partJ E Fn G h67 Try.f67 (E.sig 67) 7 [1, 1, 1, 0, 1, 0, 0, 1, 1] ⟨[(1, .one (.ptr 0 0)), (3, .one (.ptr 1 0)), (5, .one (.of (.int .u64) x0)), (17, .one (.of (.list (.int .u32)) x1)), (18, .one (.of (.int .i64) x2)), (19, .one (.of (.int .i64) x3))], 2, [(0, some (.cell [.of .bool x4, .of (.list (.int .u32)) x5])), (1, some (.cell [.of (.int .i64) x6, .of (.int .i64) x7]))]⟩
noncomputable def F67_J12 (x0 : Int) (x1 : Bool) (x2 : List (Int)) (x3 : Int) (x4 : Int) : Option (((Int × ((Int × Int) × Unit)) × Unit)) := partJ E Fn G h67 Try.f67 (E.sig 67) 12 [1, 1, 1, 1] ⟨[(1, .one (.ptr 0 0)), (3, .one (.ptr 1 0)), (5, .one (.of (.int .u64) x0))], 2, [(0, some (.cell [.of .bool x1, .of (.list (.int .u32)) x2])), (1, some (.cell [.of (.int .i64) x3, .of (.int .i64) x4]))]⟩
noncomputable def F67_J10 (x0 : Int) (x1 : Int) (x2 : Int) (x3 : List (Int)) (x4 : Int) (x5 : Int) (x6 : Bool) (x7 : List (Int)) (x8 : Int) (x9 : Int) : Option (((Int × ((Int × Int) × Unit)) × Unit)) := partJ E Fn G h67 Try.f67 (E.sig 67) 10 [1, 1, 1, 0, 1, 0, 0, 1, 1, 0, 0, 1, 1] ⟨[(1, .one (.ptr 0 0)), (3, .one (.ptr 1 0)), (5, .one (.of (.int .u64) x0)), (6, .one (.of (.int .i64) x1)), (7, .one (.of (.int .u32) x2)), (17, .one (.of (.list (.int .u32)) x3)), (18, .one (.of (.int .i64) x4)), (19, .one (.of (.int .i64) x5))], 2, [(0, some (.cell [.of .bool x6, .of (.list (.int .u32)) x7])), (1, some (.cell [.of (.int .i64) x8, .of (.int .i64) x9]))]⟩
noncomputable def F67_J15 (x0 : Int) (x1 : Bool) (x2 : List (Int)) (x3 : Int) (x4 : Int) : Option (((Int × ((Int × Int) × Unit)) × Unit)) := partJ E Fn G h67 Try.f67 (E.sig 67) 15 [1, 1, 1, 1, 1, 1] ⟨[(1, .one (.ptr 0 0)), (3, .one (.ptr 1 0)), (8, .one (.of (.int .i64) x0))], 2, [(0, some (.cell [.of .bool x1, .of (.list (.int .u32)) x2])), (1, some (.cell [.of (.int .i64) x3, .of (.int .i64) x4]))]⟩
noncomputable def F67_J11 (x0 : Int) (x1 : List (Int)) (x2 : Int) (x3 : Int) (x4 : Bool) (x5 : List (Int)) (x6 : Int) (x7 : Int) : Option (((Int × ((Int × Int) × Unit)) × Unit)) := partJ E Fn G h67 Try.f67 (E.sig 67) 11 [1, 1, 1, 0, 1, 0, 0, 1, 1, 1] ⟨[(1, .one (.ptr 0 0)), (3, .one (.ptr 1 0)), (5, .one (.of (.int .u64) x0)), (17, .one (.of (.list (.int .u32)) x1)), (18, .one (.of (.int .i64) x2)), (19, .one (.of (.int .i64) x3))], 2, [(0, some (.cell [.of .bool x4, .of (.list (.int .u32)) x5])), (1, some (.cell [.of (.int .i64) x6, .of (.int .i64) x7]))]⟩
noncomputable def F67_J17 (x0 : Int) (x1 : Int) (x2 : Int) : Option (((Int × ((Int × Int) × Unit)) × Unit)) := partJ E Fn G h67 Try.f67 (E.sig 67) 17 [1, 1, 1, 1, 1, 1, 1] ⟨[(3, .one (.ptr 0 0)), (8, .one (.of (.int .i64) x0))], 1, [(0, some (.cell [.of (.int .i64) x1, .of (.int .i64) x2]))]⟩
noncomputable def F82 (a0 : List (Int)) : Option (((List (Int) × Unit) × Unit)) := callI E Fn G 82 (a0, ())
theorem F7_eq (a0 : (Int × Int)) (a1 : Int) (a2 : (Bool × List (Int))) (a3 : (Bool × List (Int))) (a4 : List (Int)) : F7 a0 a1 a2 a3 a4 =
 (F11).bind fun r0 =>
 if ((!r0.1.1) = true) then
  some ((false, ()), ())
 else
  F7_J3 a1 a4 a0.1 a0.2 a2.1 a2.2 a3.1 a3.2 := (callI_code (fn := Try.f7) (h := h7) (by kernel_rfl)).trans (by kernel_rfl)
theorem F7_J3_eq (x0 : Int) (x1 : List (Int)) (x2 : Int) (x3 : Int) (x4 : Bool) (x5 : List (Int)) (x6 : Bool) (x7 : List (Int)) : F7_J3 x0 x1 x2 x3 x4 x5 x6 x7 =
 if (((Int.tmod x3 (2 : Int)) == (0 : Int)) = true) then
  some ((true, ()), ())
 else
  F7_J5 x0 x1 x2 x3 x4 x5 x6 x7 := partJ_go.trans (by kernel_rfl)
theorem F7_J5_eq (x0 : Int) (x1 : List (Int)) (x2 : Int) (x3 : Int) (x4 : Bool) (x5 : List (Int)) (x6 : Bool) (x7 : List (Int)) : F7_J5 x0 x1 x2 x3 x4 x5 x6 x7 =
 if ((decide (x0 ≥ (0 : Int))) = true) then
  if ((decide (x0 < (4000 : Int))) = true) then
   (F25 (1 : Int)).bind fun r0 =>
   (F33 r0.1.1 x0).bind fun r1 =>
   (F34 r1.1.1.2).bind fun r2 =>
   (F16 (x2, x3) (false, r2.1.1)).bind fun r3 =>
   (F10 (x2, x3) (IntKind.wrap .u64 (quoI .i64 (IntKind.wrap .i64 (x0 + (31 : Int))) (32 : Int)))).bind fun r4 =>
   if ((r3.1.2.2.1.1 != (0 : Int)) = true) then
    some ((false, ()), ())
   else
    if ((r4.1.2.1.1 != (0 : Int)) = true) then
     some ((false, ()), ())
    else
     if ((!((decide (r3.1.2.1.1 = r4.1.1.1)) && ((decide (r3.1.2.1.2 = r4.1.1.2)) && true))) = true) then
      some ((false, ()), ())
     else
      (F12 r3.1.1).bind fun r5 =>
      if ((!r5.1.1) = true) then
       some ((false, ()), ())
      else
       if (r3.1.1.1 = true) then
        some ((false, ()), ())
       else
        (F20 r3.1.1).bind fun r6 =>
        (F22 r6.1.1 r1.1.1).bind fun r7 =>
        if ((decide (r7.1.1 ≥ (0 : Int))) = true) then
         some ((false, ()), ())
        else
         F7_J11 x1 x2 x3 x4 x5 x6 x7
  else
   F7_J11 x1 x2 x3 x4 x5 x6 x7
 else
  F7_J11 x1 x2 x3 x4 x5 x6 x7 := partJ_go.trans (by kernel_rfl)
theorem F7_J11_eq (x0 : List (Int)) (x1 : Int) (x2 : Int) (x3 : Bool) (x4 : List (Int)) (x5 : Bool) (x6 : List (Int)) : F7_J11 x0 x1 x2 x3 x4 x5 x6 =
 (F17 (x1, x2) (x3, x4) (x5, x6)).bind fun r0 =>
 if ((r0.1.2.2.1.1 == (0 : Int)) = true) then
  (F35 ((x3, x4) :: ((x5, x6) :: (r0.1.1 :: [])))).bind fun r1 =>
  if ((r1.1.1.1 != (0 : Int)) = true) then
   some ((false, ()), ())
  else
   (F20 r0.1.1).bind fun r2 =>
   (F20 (x3, x4)).bind fun r3 =>
   (F22 r2.1.1 r3.1.1).bind fun r4 =>
   if ((decide (r4.1.1 < (0 : Int))) = true) then
    some ((false, ()), ())
   else
    (F20 r0.1.1).bind fun r5 =>
    (F20 (x5, x6)).bind fun r6 =>
    (F22 r5.1.1 r6.1.1).bind fun r7 =>
    if ((decide (r7.1.1 > (0 : Int))) = true) then
     some ((false, ()), ())
    else
     F7_J14 x0 x1 x2
 else
  F7_J14 x0 x1 x2 := partJ_go.trans (by kernel_rfl)
theorem F7_J14_eq (x0 : List (Int)) (x1 : Int) (x2 : Int) : F7_J14 x0 x1 x2 =
 (F31 (x1, x2) x0).bind fun r0 =>
 if ((r0.1.2.2.1.1 != (0 : Int)) = true) then
  if ((r0.1.1 == (0 : Int)) = true) then
   some ((true, ()), ())
  else
   if ((r0.1.2.2.1.1 == (0 : Int)) = true) then
    if ((decide (r0.1.1 ≥ (0 : Int))) = true) then
     if ((decide (r0.1.1 < (((List.length x0) : Nat) : Int))) = true) then
      if ((0 : Int) ≤ r0.1.1) then
       if (r0.1.1 < (((List.length x0) : Nat) : Int)) then
        some (((decide ((List.getD x0 (Int.toNat r0.1.1) (0 : Int)) > (0 : Int))), ()), ())
       else
        none
      else
       none
     else
      some ((false, ()), ())
    else
     some ((false, ()), ())
   else
    some ((false, ()), ())
 else
  if ((r0.1.2.2.1.1 == (0 : Int)) = true) then
   if ((decide (r0.1.1 ≥ (0 : Int))) = true) then
    if ((decide (r0.1.1 < (((List.length x0) : Nat) : Int))) = true) then
     if ((0 : Int) ≤ r0.1.1) then
      if (r0.1.1 < (((List.length x0) : Nat) : Int)) then
       some (((decide ((List.getD x0 (Int.toNat r0.1.1) (0 : Int)) > (0 : Int))), ()), ())
      else
       none
     else
      none
    else
     some ((false, ()), ())
   else
    some ((false, ()), ())
  else
   some ((false, ()), ()) := partJ_go.trans (by kernel_rfl)
theorem F11_eq : F11 =
 (F41 (0 : Int)).bind fun r0 =>
 (F8 r0.1.1.2.1).bind fun r1 =>
 (F9 r1.1.1).bind fun r2 =>
 (F41 (1 : Int)).bind fun r3 =>
 (F16 r1.1.1 r3.1.1.2.1).bind fun r4 =>
 (F41 (0 : Int)).bind fun r5 =>
 (F14 r5.1.1.2.1).bind fun r6 =>
 (F15 r6.1.1).bind fun r7 =>
 if ((r1.1.2.1.1 == (0 : Int)) = true) then
  if ((r2.1.2.2.1.1 == (0 : Int)) = true) then
   if ((r4.1.2.2.1.1 == (0 : Int)) = true) then
    if ((r1.1.1.1 == (0 : Int)) = true) then
     if ((r2.1.1 == r7.1.1) = true) then
      if (((decide (r2.1.2.1.1 = r7.2.1.1)) && ((decide (r2.1.2.1.2 = r7.2.1.2)) && true)) = true) then
       (F18 r4.1.1).bind fun r8 =>
       if (r8.1.1 = true) then
        some ((((decide (r4.1.2.1.1 = r1.1.1.1)) && ((decide (r4.1.2.1.2 = r1.1.1.2)) && true)), ()), ())
       else
        some ((false, ()), ())
      else
       some ((false, ()), ())
     else
      some ((false, ()), ())
    else
     some ((false, ()), ())
   else
    some ((false, ()), ())
  else
   some ((false, ()), ())
 else
  some ((false, ()), ()) := (callI_code (fn := Try.f11) (h := h11) (by kernel_rfl)).trans (by kernel_rfl)
theorem F41_eq (a0 : Int) : F41 a0 =
 (F47 a0).bind fun r0 =>
 some ((((2 : Int), (r0.1.1, ((false, ([] : List Int)), ([], (0 : Int))))), ()), ()) := (callI_code (fn := Try.f41) (h := h41) (by kernel_rfl)).trans (by kernel_rfl)
theorem F47_eq (a0 : Int) : F47 a0 =
 if ((decide (a0 < (0 : Int))) = true) then
  F47_J4 a0 (IntKind.wrap .u64 ((0 : Int) - (IntKind.wrap .u64 a0))) false
 else
  F47_J4 a0 (IntKind.wrap .u64 a0) false := (callI_code (fn := Try.f47) (h := h47) (by kernel_rfl)).trans (by kernel_rfl)
theorem F47_J4_eq (x0 : Int) (x1 : Int) (x2 : Bool) : F47_J4 x0 x1 x2 =
 F47_L5 x0 x2 ((IntKind.wrap .u32 x1) :: ((IntKind.wrap .u32 (shrI .u64 x1 32)) :: ([] : List Int))) := partJ_go.trans (by kernel_rfl)
theorem F47_L5_eq (x0 : Int) (x1 : Bool) (x2 : List (Int)) : F47_L5 x0 x1 x2 =
 if ((decide ((((List.length x2) : Nat) : Int) > (0 : Int))) = true) then
  if ((0 : Int) ≤ (IntKind.wrap .i64 ((((List.length x2) : Nat) : Int) - (1 : Int)))) then
   if ((IntKind.wrap .i64 ((((List.length x2) : Nat) : Int) - (1 : Int))) < (((List.length x2) : Nat) : Int)) then
    if (((List.getD x2 (Int.toNat (IntKind.wrap .i64 ((((List.length x2) : Nat) : Int) - (1 : Int)))) (0 : Int)) == (0 : Int)) = true) then
     F47_J6 x0 x1 x2
    else
     F47_J7 x0 x1 x2
   else
    none
  else
   none
 else
  F47_J7 x0 x1 x2 := partL_go.trans (loopI_eq.trans (by kernel_rfl))
theorem F47_J6_eq (x0 : Int) (x1 : Bool) (x2 : List (Int)) : F47_J6 x0 x1 x2 =
 if (((0 : Int) ≤ (0 : Int)) ∧ (((0 : Int) ≤ (IntKind.wrap .i64 ((((List.length x2) : Nat) : Int) - (1 : Int)))) ∧ ((IntKind.wrap .i64 ((((List.length x2) : Nat) : Int) - (1 : Int))) ≤ (((List.length x2) : Nat) : Int)))) then
  F47_L5_1 x0 (List.drop 0 (List.take (Int.toNat (IntKind.wrap .i64 ((((List.length x2) : Nat) : Int) - (1 : Int)))) x2)) x1
 else
  none := partJ_go.trans (by kernel_rfl)
theorem F47_J7_eq (x0 : Int) (x1 : Bool) (x2 : List (Int)) : F47_J7 x0 x1 x2 =
 some ((((decide (x0 < (0 : Int))), x2), ()), ()) := partJ_go.trans (by kernel_rfl)
theorem F47_L5_1_eq (x0 : Int) (x1 : List (Int)) (x2 : Bool) : F47_L5_1 x0 x1 x2 =
 if ((decide ((((List.length x1) : Nat) : Int) > (0 : Int))) = true) then
  if ((0 : Int) ≤ (IntKind.wrap .i64 ((((List.length x1) : Nat) : Int) - (1 : Int)))) then
   if ((IntKind.wrap .i64 ((((List.length x1) : Nat) : Int) - (1 : Int))) < (((List.length x1) : Nat) : Int)) then
    if (((List.getD x1 (Int.toNat (IntKind.wrap .i64 ((((List.length x1) : Nat) : Int) - (1 : Int)))) (0 : Int)) == (0 : Int)) = true) then
     F47_J6_1 x0 x1 x2
    else
     F47_J7_1 x0 x1 x2
   else
    none
  else
   none
 else
  F47_J7_1 x0 x1 x2 := partL_go.trans (loopI_eq.trans (by kernel_rfl))
theorem F47_J6_1_eq (x0 : Int) (x1 : List (Int)) (x2 : Bool) : F47_J6_1 x0 x1 x2 =
 if (((0 : Int) ≤ (0 : Int)) ∧ (((0 : Int) ≤ (IntKind.wrap .i64 ((((List.length x1) : Nat) : Int) - (1 : Int)))) ∧ ((IntKind.wrap .i64 ((((List.length x1) : Nat) : Int) - (1 : Int))) ≤ (((List.length x1) : Nat) : Int)))) then
  F47_L5_1 x0 (List.drop 0 (List.take (Int.toNat (IntKind.wrap .i64 ((((List.length x1) : Nat) : Int) - (1 : Int)))) x1)) x2
 else
  none := partJ_go.trans (by kernel_rfl)
theorem F47_J7_1_eq (x0 : Int) (x1 : List (Int)) (x2 : Bool) : F47_J7_1 x0 x1 x2 =
 some ((((decide (x0 < (0 : Int))), x1), ()), ()) := partJ_go.trans (by kernel_rfl)
theorem F8_eq (a0 : (Bool × List (Int))) : F8 a0 =
 (F36 a0).bind fun r0 =>
 if ((!r0.1.1) = true) then
  (F37 (6 : Int) (-1 : Int)).bind fun r1 =>
  some ((((0 : Int), (0 : Int)), (r1.1.1, ())), ())
 else
  F8_J3 a0.1 a0.2 (0 : Int) (0 : Int) (0 : Int) (0 : Int) := (callI_code (fn := Try.f8) (h := h8) (by kernel_rfl)).trans (by kernel_rfl)
theorem F8_J3_eq (x0 : Bool) (x1 : List (Int)) (x2 : Int) (x3 : Int) (x4 : Int) (x5 : Int) : F8_J3 x0 x1 x2 x3 x4 x5 =
 if (x0 = true) then
  F8_J6 (bitI .xor .u64 ((18446744073709551616 : Int) - (1 : Int)) (IntKind.wrap .u64 (((List.length x1) : Nat) : Int))) x0 x1 x2 x3 x4 x5
 else
  F8_J6 (IntKind.wrap .u64 (((List.length x1) : Nat) : Int)) x0 x1 x2 x3 x4 x5 := partJ_go.trans (by kernel_rfl)
theorem F8_J6_eq (x0 : Int) (x1 : Bool) (x2 : List (Int)) (x3 : Int) (x4 : Int) (x5 : Int) (x6 : Int) : F8_J6 x0 x1 x2 x3 x4 x5 x6 =
 F8_L7 x0 x2 (((List.length x2) : Nat) : Int) (0 : Int) x3 x4 x5 x6 := partJ_go.trans (by kernel_rfl)
theorem F8_L7_eq (x0 : Int) (x1 : List (Int)) (x2 : Int) (x3 : Int) (x4 : Int) (x5 : Int) (x6 : Int) (x7 : Int) : F8_L7 x0 x1 x2 x3 x4 x5 x6 x7 =
 if ((decide (x3 < x2)) = true) then
  F8_J8 x0 x1 x2 x3 x4 x5 x6 x7
 else
  F8_J11 x0 x4 x5 x6 x7 := partL_go.trans (loopI_eq.trans (by kernel_rfl))
theorem F8_J8_eq (x0 : Int) (x1 : List (Int)) (x2 : Int) (x3 : Int) (x4 : Int) (x5 : Int) (x6 : Int) (x7 : Int) : F8_J8 x0 x1 x2 x3 x4 x5 x6 x7 =
 if ((0 : Int) ≤ x3) then
  if (x3 < (((List.length x1) : Nat) : Int)) then
   (F38 (IntKind.wrap .u64 ((IntKind.wrap .u64 ((IntKind.wrap .u64 (x0 * (6364136223846793005 : Int))) + (IntKind.wrap .u64 (List.getD x1 (Int.toNat x3) (0 : Int))))) + (1 : Int)))).bind fun r0 =>
   F8_L7 r0.1.1 x1 x2 (IntKind.wrap .i64 (x3 + (1 : Int))) x4 x5 x6 x7
  else
   none
 else
  none := partJ_go.trans (by kernel_rfl)
theorem F8_J11_eq (x0 : Int) (x1 : Int) (x2 : Int) (x3 : Int) (x4 : Int) : F8_J11 x0 x1 x2 x3 x4 =
 some (((x0, (1442695040888963407 : Int)), (((0 : Int), (0 : Int)), ())), ()) := partJ_go.trans (by kernel_rfl)
theorem F36_eq (a0 : (Bool × List (Int))) : F36 a0 =
 if ((decide ((((List.length a0.2) : Nat) : Int) ≤ (128 : Int))) = true) then
  if (((((List.length a0.2) : Nat) : Int) == (0 : Int)) = true) then
   if ((!a0.1) = true) then
    some ((true, ()), ())
   else
    if ((decide ((((List.length a0.2) : Nat) : Int) > (0 : Int))) = true) then
     if ((0 : Int) ≤ (IntKind.wrap .i64 ((((List.length a0.2) : Nat) : Int) - (1 : Int)))) then
      if ((IntKind.wrap .i64 ((((List.length a0.2) : Nat) : Int) - (1 : Int))) < (((List.length a0.2) : Nat) : Int)) then
       some ((((List.getD a0.2 (Int.toNat (IntKind.wrap .i64 ((((List.length a0.2) : Nat) : Int) - (1 : Int)))) (0 : Int)) != (0 : Int)), ()), ())
      else
       none
     else
      none
    else
     some ((false, ()), ())
  else
   if ((decide ((((List.length a0.2) : Nat) : Int) > (0 : Int))) = true) then
    if ((0 : Int) ≤ (IntKind.wrap .i64 ((((List.length a0.2) : Nat) : Int) - (1 : Int)))) then
     if ((IntKind.wrap .i64 ((((List.length a0.2) : Nat) : Int) - (1 : Int))) < (((List.length a0.2) : Nat) : Int)) then
      some ((((List.getD a0.2 (Int.toNat (IntKind.wrap .i64 ((((List.length a0.2) : Nat) : Int) - (1 : Int)))) (0 : Int)) != (0 : Int)), ()), ())
     else
      none
    else
     none
   else
    some ((false, ()), ())
 else
  some ((false, ()), ()) := (callI_code (fn := Try.f36) (h := h36) (by kernel_rfl)).trans (by kernel_rfl)
theorem F37_eq (a0 : Int) (a1 : Int) : F37 a0 a1 =
 some (((a0, a1), ()), ()) := (callI_code (fn := Try.f37) (h := h37) (by kernel_rfl)).trans (by kernel_rfl)
theorem F38_eq (a0 : Int) : F38 a0 =
 some (((bitI .xor .u64 (IntKind.wrap .u64 ((bitI .xor .u64 (IntKind.wrap .u64 ((bitI .xor .u64 a0 (shrI .u64 a0 30)) * (13787848793156543929 : Int))) (shrI .u64 (IntKind.wrap .u64 ((bitI .xor .u64 a0 (shrI .u64 a0 30)) * (13787848793156543929 : Int))) 27)) * (10723151780598845931 : Int))) (shrI .u64 (IntKind.wrap .u64 ((bitI .xor .u64 (IntKind.wrap .u64 ((bitI .xor .u64 a0 (shrI .u64 a0 30)) * (13787848793156543929 : Int))) (shrI .u64 (IntKind.wrap .u64 ((bitI .xor .u64 a0 (shrI .u64 a0 30)) * (13787848793156543929 : Int))) 27)) * (10723151780598845931 : Int))) 31)), ()), ()) := (callI_code (fn := Try.f38) (h := h38) (by kernel_rfl)).trans (by kernel_rfl)
theorem F9_eq (a0 : (Int × Int)) : F9 a0 =
 (F39 a0).bind fun r0 =>
 match r0.1.1 with
 | none =>
  if ((r0.1.2.1.1 != (0 : Int)) = true) then
   some (((0 : Int), (((0 : Int), (0 : Int)), (r0.1.2.1, ()))), ())
  else
   F9_J4 (0 : Int) (0 : Int) (0 : Int) (0 : Int)
 | some y1 =>
  if ((r0.1.2.1.1 != (0 : Int)) = true) then
   some (((0 : Int), (((0 : Int), (0 : Int)), (r0.1.2.1, ()))), ())
  else
   F9_J4_1 (0 : Int) (0 : Int) (0 : Int) (0 : Int) y1.1 y1.2 := (callI_code (fn := Try.f9) (h := h9) (by kernel_rfl)).trans (by kernel_rfl)
theorem F9_J4_eq (x0 : Int) (x1 : Int) (x2 : Int) (x3 : Int) : F9_J4 x0 x1 x2 x3 =
 none := partJ_go.trans (by kernel_rfl)
theorem F9_J4_1_eq (x0 : Int) (x1 : Int) (x2 : Int) (x3 : Int) (x4 : Int) (x5 : Int) : F9_J4_1 x0 x1 x2 x3 x4 x5 =
 (F40 (x4, x5)).bind fun r0 =>
 some ((r0.1.1, (r0.2.1, (((0 : Int), (0 : Int)), ()))), ()) := partJ_go.trans (by kernel_rfl)
theorem F39_eq (a0 : (Int × Int)) : F39 a0 =
 if (((Int.tmod a0.2 (2 : Int)) == (0 : Int)) = true) then
  (F37 (6 : Int) (-1 : Int)).bind fun r0 =>
  some ((none, (r0.1.1, ())), ())
 else
  F39_J3 a0.1 a0.2 (0 : Int) (0 : Int) := (callI_code (fn := Try.f39) (h := h39) (by kernel_rfl)).trans (by kernel_rfl)
theorem F39_J3_eq (x0 : Int) (x1 : Int) (x2 : Int) (x3 : Int) : F39_J3 x0 x1 x2 x3 =
 some (((some (x0, x1)), (((0 : Int), (0 : Int)), ())), ()) := partJ_go.trans (by kernel_rfl)
theorem F40_eq (a0 : (Int × Int)) : F40 a0 =
 (F38 (IntKind.wrap .u64 ((IntKind.wrap .u64 (a0.1 * (6364136223846793005 : Int))) + a0.2))).bind fun r0 =>
 some ((r0.1.1, ()), (((IntKind.wrap .u64 ((IntKind.wrap .u64 (a0.1 * (6364136223846793005 : Int))) + a0.2)), a0.2), ())) := (callI_code (fn := Try.f40) (h := h40) (by kernel_rfl)).trans (by kernel_rfl)
theorem F16_eq (a0 : (Int × Int)) (a1 : (Bool × List (Int))) : F16 a0 a1 =
 (F39 a0).bind fun r0 =>
 match r0.1.1 with
 | none =>
  if ((r0.1.2.1.1 != (0 : Int)) = true) then
   some (((false, ([] : List Int)), (((0 : Int), (0 : Int)), (r0.1.2.1, ()))), ())
  else
   (F36 a1).bind fun r2 =>
   if ((!r2.1.1) = true) then
    (F37 (6 : Int) (-2 : Int)).bind fun r3 =>
    some (((false, ([] : List Int)), (((0 : Int), (0 : Int)), (r3.1.1, ()))), ())
   else
    if (a1.1 = true) then
     (F37 (4 : Int) (-2 : Int)).bind fun r4 =>
     some (((false, ([] : List Int)), (((0 : Int), (0 : Int)), (r4.1.1, ()))), ())
    else
     if (((((List.length a1.2) : Nat) : Int) == (0 : Int)) = true) then
      (F37 (4 : Int) (-2 : Int)).bind fun r5 =>
      some (((false, ([] : List Int)), (((0 : Int), (0 : Int)), (r5.1.1, ()))), ())
     else
      F16_J8 a1.1 a1.2 false (0 : Int) (0 : Int) (0 : Int) (0 : Int)
 | some y1 =>
  if ((r0.1.2.1.1 != (0 : Int)) = true) then
   some (((false, ([] : List Int)), (((0 : Int), (0 : Int)), (r0.1.2.1, ()))), ())
  else
   (F36 a1).bind fun r6 =>
   if ((!r6.1.1) = true) then
    (F37 (6 : Int) (-2 : Int)).bind fun r7 =>
    some (((false, ([] : List Int)), (((0 : Int), (0 : Int)), (r7.1.1, ()))), ())
   else
    if (a1.1 = true) then
     (F37 (4 : Int) (-2 : Int)).bind fun r8 =>
     some (((false, ([] : List Int)), (((0 : Int), (0 : Int)), (r8.1.1, ()))), ())
    else
     if (((((List.length a1.2) : Nat) : Int) == (0 : Int)) = true) then
      (F37 (4 : Int) (-2 : Int)).bind fun r9 =>
      some (((false, ([] : List Int)), (((0 : Int), (0 : Int)), (r9.1.1, ()))), ())
     else
      F16_J8_1 a1.1 a1.2 false (0 : Int) (0 : Int) (0 : Int) (0 : Int) y1.1 y1.2 := (callI_code (fn := Try.f16) (h := h16) (by kernel_rfl)).trans (by kernel_rfl)
theorem F16_J8_eq (x0 : Bool) (x1 : List (Int)) (x2 : Bool) (x3 : Int) (x4 : Int) (x5 : Int) (x6 : Int) : F16_J8 x0 x1 x2 x3 x4 x5 x6 =
 none := partJ_go.trans (by kernel_rfl)
theorem F16_J8_1_eq (x0 : Bool) (x1 : List (Int)) (x2 : Bool) (x3 : Int) (x4 : Int) (x5 : Int) (x6 : Int) (x7 : Int) (x8 : Int) : F16_J8_1 x0 x1 x2 x3 x4 x5 x6 x7 x8 =
 (F43 (x7, x8) (x0, x1)).bind fun r0 =>
 some ((r0.1.1, (r0.2.1, (((0 : Int), (0 : Int)), ()))), ()) := partJ_go.trans (by kernel_rfl)
theorem F43_eq (a0 : (Int × Int)) (a1 : (Bool × List (Int))) : F43 a0 a1 =
 (F47 (1 : Int)).bind fun r0 =>
 (F45 a1 r0.1.1).bind fun r1 =>
 (F60 r1.1.1).bind fun r2 =>
 F43_L3 r2.1.1 a0.1 a0.2 a1.1 a1.2 false := (callI_code (fn := Try.f43) (h := h43) (by kernel_rfl)).trans (by kernel_rfl)
theorem F43_L3_eq (x0 : Int) (x1 : Int) (x2 : Int) (x3 : Bool) (x4 : List (Int)) (x5 : Bool) : F43_L3 x0 x1 x2 x3 x4 x5 =
 (F61 (x1, x2) x0).bind fun r0 =>
 (F44 r0.1.1 (x3, x4)).bind fun r1 =>
 if ((decide (r1.1.1 < (0 : Int))) = true) then
  some ((r0.1.1, ()), (r0.2.1, ()))
 else
  F43_L3 x0 r0.2.1.1 r0.2.1.2 x3 x4 x5 := partL_go.trans (loopI_eq.trans (by kernel_rfl))
theorem F45_eq (a0 : (Bool × List (Int))) (a1 : (Bool × List (Int))) : F45 a0 a1 =
 (F62 (a0 :: (a1 :: []))).bind fun r0 =>
 if ((r0.1.1.1 != (0 : Int)) = true) then
  some (((false, ([] : List Int)), (r0.1.1, ())), ())
 else
  F45_J4 a0.1 a0.2 a1.1 a1.2 false (0 : Int) (0 : Int) := (callI_code (fn := Try.f45) (h := h45) (by kernel_rfl)).trans (by kernel_rfl)
theorem F45_J4_eq (x0 : Bool) (x1 : List (Int)) (x2 : Bool) (x3 : List (Int)) (x4 : Bool) (x5 : Int) (x6 : Int) : F45_J4 x0 x1 x2 x3 x4 x5 x6 =
 (F64 (x0, x1) ((!x2), x3)).bind fun r0 =>
 some ((r0.1.1, (r0.1.2.1, ())), ()) := partJ_go.trans (by kernel_rfl)
theorem F62_eq (a0 : List ((Bool × List (Int)))) : F62 a0 =
 F62_L2 a0 (((List.length a0) : Nat) : Int) (0 : Int) (0 : Int) (0 : Int) := (callI_code (fn := Try.f62) (h := h62) (by kernel_rfl)).trans (by kernel_rfl)
theorem F62_L2_eq (x0 : List ((Bool × List (Int)))) (x1 : Int) (x2 : Int) (x3 : Int) (x4 : Int) : F62_L2 x0 x1 x2 x3 x4 =
 if ((decide (x2 < x1)) = true) then
  F62_J3 x0 x1 x2 x3 x4
 else
  F62_J7 x3 x4 := partL_go.trans (loopI_eq.trans (by kernel_rfl))
theorem F62_J3_eq (x0 : List ((Bool × List (Int)))) (x1 : Int) (x2 : Int) (x3 : Int) (x4 : Int) : F62_J3 x0 x1 x2 x3 x4 =
 if ((0 : Int) ≤ x2) then
  if (x2 < (((List.length x0) : Nat) : Int)) then
   (F36 (List.getD x0 (Int.toNat x2) (false, ([] : List (Int))))).bind fun r0 =>
   if ((!r0.1.1) = true) then
    (F69 (6 : Int) (IntKind.wrap .i64 ((-1 : Int) - x2))).bind fun r1 =>
    some ((r1.1.1, ()), ())
   else
    F62_J6 x0 x1 x2 x3 x4
  else
   none
 else
  none := partJ_go.trans (by kernel_rfl)
theorem F62_J7_eq (x0 : Int) (x1 : Int) : F62_J7 x0 x1 =
 some ((((0 : Int), (0 : Int)), ()), ()) := partJ_go.trans (by kernel_rfl)
theorem F62_J6_eq (x0 : List ((Bool × List (Int)))) (x1 : Int) (x2 : Int) (x3 : Int) (x4 : Int) : F62_J6 x0 x1 x2 x3 x4 =
 F62_L2 x0 x1 (IntKind.wrap .i64 (x2 + (1 : Int))) x3 x4 := partJ_go.trans (by kernel_rfl)
theorem F69_eq (a0 : Int) (a1 : Int) : F69 a0 a1 =
 some (((a0, a1), ()), ()) := (callI_code (fn := Try.f69) (h := h69) (by kernel_rfl)).trans (by kernel_rfl)
theorem F64_eq (a0 : (Bool × List (Int))) (a1 : (Bool × List (Int))) : F64 a0 a1 =
 if ((a0.1 == a1.1) = true) then
  (F72 a0.2 a1.2).bind fun r0 =>
  (F73 a0.1 r0.1.1).bind fun r1 =>
  some ((r1.1.1, (r1.1.2.1, ())), ())
 else
  F64_J4 a0.1 a0.2 a1.1 a1.2 false (0 : Int) (0 : Int) := (callI_code (fn := Try.f64) (h := h64) (by kernel_rfl)).trans (by kernel_rfl)
theorem F64_J4_eq (x0 : Bool) (x1 : List (Int)) (x2 : Bool) (x3 : List (Int)) (x4 : Bool) (x5 : Int) (x6 : Int) : F64_J4 x0 x1 x2 x3 x4 x5 x6 =
 (F63 x1 x3).bind fun r0 =>
 if ((decide (r0.1.1 < (0 : Int))) = true) then
  F64_J7 x2 x3 x0 x1 x4 x5 x6
 else
  F64_J7 x0 x1 x2 x3 x4 x5 x6 := partJ_go.trans (by kernel_rfl)
theorem F64_J7_eq (x0 : Bool) (x1 : List (Int)) (x2 : Bool) (x3 : List (Int)) (x4 : Bool) (x5 : Int) (x6 : Int) : F64_J7 x0 x1 x2 x3 x4 x5 x6 =
 (F74 x1 x3).bind fun r0 =>
 (F73 x0 r0.1.1).bind fun r1 =>
 some ((r1.1.1, (r1.1.2.1, ())), ()) := partJ_go.trans (by kernel_rfl)
theorem F72_eq (a0 : List (Int)) (a1 : List (Int)) : F72 a0 a1 =
 (F70 a0 a1).bind fun r0 =>
 if ((r0.1.1.1 != (0 : Int)) = true) then
  some ((([] : List Int), (r0.1.1, ())), ())
 else
  F72_J4 a0 a1 (0 : Int) (0 : Int) := (callI_code (fn := Try.f72) (h := h72) (by kernel_rfl)).trans (by kernel_rfl)
theorem F72_J4_eq (x0 : List (Int)) (x1 : List (Int)) (x2 : Int) (x3 : Int) : F72_J4 x0 x1 x2 x3 =
 (F79 x0 x1).bind fun r0 =>
 (F78 r0.1.1).bind fun r1 =>
 some ((r1.1.1, (r1.1.2.1, ())), ()) := partJ_go.trans (by kernel_rfl)
theorem F70_eq (a0 : List (Int)) (a1 : List (Int)) : F70 a0 a1 =
 (F75 a0).bind fun r0 =>
 if ((!r0.1.1) = true) then
  (F76 (6 : Int) (-1 : Int)).bind fun r1 =>
  some ((r1.1.1, ()), ())
 else
  (F75 a1).bind fun r2 =>
  if ((!r2.1.1) = true) then
   (F76 (6 : Int) (-2 : Int)).bind fun r3 =>
   some ((r3.1.1, ()), ())
  else
   F70_J5 (0 : Int) (0 : Int) := (callI_code (fn := Try.f70) (h := h70) (by kernel_rfl)).trans (by kernel_rfl)
theorem F70_J5_eq (x0 : Int) (x1 : Int) : F70_J5 x0 x1 =
 some ((((0 : Int), (0 : Int)), ()), ()) := partJ_go.trans (by kernel_rfl)
theorem F75_eq (a0 : List (Int)) : F75 a0 =
 if ((decide ((((List.length a0) : Nat) : Int) ≤ (600 : Int))) = true) then
  if (((((List.length a0) : Nat) : Int) == (0 : Int)) = true) then
   some ((true, ()), ())
  else
   if ((0 : Int) ≤ (IntKind.wrap .i64 ((((List.length a0) : Nat) : Int) - (1 : Int)))) then
    if ((IntKind.wrap .i64 ((((List.length a0) : Nat) : Int) - (1 : Int))) < (((List.length a0) : Nat) : Int)) then
     some ((((List.getD a0 (Int.toNat (IntKind.wrap .i64 ((((List.length a0) : Nat) : Int) - (1 : Int)))) (0 : Int)) != (0 : Int)), ()), ())
    else
     none
   else
    none
 else
  some ((false, ()), ()) := (callI_code (fn := Try.f75) (h := h75) (by kernel_rfl)).trans (by kernel_rfl)
theorem F76_eq (a0 : Int) (a1 : Int) : F76 a0 a1 =
 some (((a0, a1), ()), ()) := (callI_code (fn := Try.f76) (h := h76) (by kernel_rfl)).trans (by kernel_rfl)
theorem F79_eq (a0 : List (Int)) (a1 : List (Int)) : F79 a0 a1 =
 if ((decide ((((List.length a0) : Nat) : Int) < (((List.length a1) : Nat) : Int))) = true) then
  F79_J3 a1 a0
 else
  F79_J3 a0 a1 := (callI_code (fn := Try.f79) (h := h79) (by kernel_rfl)).trans (by kernel_rfl)
theorem F79_J3_eq (x0 : List (Int)) (x1 : List (Int)) : F79_J3 x0 x1 =
 if (((0 : Int) ≤ (0 : Int)) ∧ ((0 : Int) ≤ (IntKind.wrap .i64 ((((List.length x0) : Nat) : Int) + (1 : Int))))) then
  if (((Int.toNat (IntKind.wrap .i64 ((((List.length x0) : Nat) : Int) + (1 : Int)))) * 4) ≤ 281474976710656) then
   F79_L6 x1 (0 : Int) x0 (((List.length x0) : Nat) : Int) (0 : Int) (List.replicate 0 (0 : Int))
  else
   none
 else
  none := partJ_go.trans (by kernel_rfl)
theorem F79_L6_eq (x0 : List (Int)) (x1 : Int) (x2 : List (Int)) (x3 : Int) (x4 : Int) (x5 : List (Int)) : F79_L6 x0 x1 x2 x3 x4 x5 =
 if ((decide (x4 < x3)) = true) then
  F79_J7 x0 x1 x2 x3 x4 x5
 else
  F79_J14 x1 x5 := partL_go.trans (loopI_eq.trans (by kernel_rfl))
theorem F79_J7_eq (x0 : List (Int)) (x1 : Int) (x2 : List (Int)) (x3 : Int) (x4 : Int) (x5 : List (Int)) : F79_J7 x0 x1 x2 x3 x4 x5 =
 if ((0 : Int) ≤ x4) then
  if (x4 < (((List.length x2) : Nat) : Int)) then
   if ((decide (x4 < (((List.length x0) : Nat) : Int))) = true) then
    if ((0 : Int) ≤ x4) then
     if (x4 < (((List.length x0) : Nat) : Int)) then
      F79_J11 x0 (IntKind.wrap .u64 ((IntKind.wrap .u64 (x1 + (IntKind.wrap .u64 (List.getD x2 (Int.toNat x4) (0 : Int))))) + (IntKind.wrap .u64 (List.getD x0 (Int.toNat x4) (0 : Int))))) x2 x3 x4 x5
     else
      none
    else
     none
   else
    F79_J11 x0 (IntKind.wrap .u64 (x1 + (IntKind.wrap .u64 (List.getD x2 (Int.toNat x4) (0 : Int))))) x2 x3 x4 x5
  else
   none
 else
  none := partJ_go.trans (by kernel_rfl)
theorem F79_J14_eq (x0 : Int) (x1 : List (Int)) : F79_J14 x0 x1 =
 if ((((List.length x1) + (List.length ((IntKind.wrap .u32 x0) :: ([] : List Int)))) * 4) ≤ 140737488355328) then
  (F81 (x1 ++ ((IntKind.wrap .u32 x0) :: ([] : List Int)))).bind fun r0 =>
  some ((r0.1.1, ()), ())
 else
  none := partJ_go.trans (by kernel_rfl)
theorem F79_J11_eq (x0 : List (Int)) (x1 : Int) (x2 : List (Int)) (x3 : Int) (x4 : Int) (x5 : List (Int)) : F79_J11 x0 x1 x2 x3 x4 x5 =
 if ((((List.length x5) + (List.length ((IntKind.wrap .u32 x1) :: ([] : List Int)))) * 4) ≤ 140737488355328) then
  F79_J13 x0 (shrI .u64 x1 32) x2 x3 x4 (x5 ++ ((IntKind.wrap .u32 x1) :: ([] : List Int)))
 else
  none := partJ_go.trans (by kernel_rfl)
theorem F79_J13_eq (x0 : List (Int)) (x1 : Int) (x2 : List (Int)) (x3 : Int) (x4 : Int) (x5 : List (Int)) : F79_J13 x0 x1 x2 x3 x4 x5 =
 F79_L6 x0 x1 x2 x3 (IntKind.wrap .i64 (x4 + (1 : Int))) x5 := partJ_go.trans (by kernel_rfl)
theorem F81_eq (a0 : List (Int)) : F81 a0 =
 F81_L1 a0 := (callI_code (fn := Try.f81) (h := h81) (by kernel_rfl)).trans (by kernel_rfl)
theorem F81_L1_eq (x0 : List (Int)) : F81_L1 x0 =
 if ((decide ((((List.length x0) : Nat) : Int) > (0 : Int))) = true) then
  if ((0 : Int) ≤ (IntKind.wrap .i64 ((((List.length x0) : Nat) : Int) - (1 : Int)))) then
   if ((IntKind.wrap .i64 ((((List.length x0) : Nat) : Int) - (1 : Int))) < (((List.length x0) : Nat) : Int)) then
    if (((List.getD x0 (Int.toNat (IntKind.wrap .i64 ((((List.length x0) : Nat) : Int) - (1 : Int)))) (0 : Int)) == (0 : Int)) = true) then
     F81_J2 x0
    else
     F81_J3 x0
   else
    none
  else
   none
 else
  F81_J3 x0 := partL_go.trans (loopI_eq.trans (by kernel_rfl))
theorem F81_J2_eq (x0 : List (Int)) : F81_J2 x0 =
 if (((0 : Int) ≤ (0 : Int)) ∧ (((0 : Int) ≤ (IntKind.wrap .i64 ((((List.length x0) : Nat) : Int) - (1 : Int)))) ∧ ((IntKind.wrap .i64 ((((List.length x0) : Nat) : Int) - (1 : Int))) ≤ (((List.length x0) : Nat) : Int)))) then
  F81_L1 (List.drop 0 (List.take (Int.toNat (IntKind.wrap .i64 ((((List.length x0) : Nat) : Int) - (1 : Int)))) x0))
 else
  none := partJ_go.trans (by kernel_rfl)
theorem F81_J3_eq (x0 : List (Int)) : F81_J3 x0 =
 some ((x0, ()), ()) := partJ_go.trans (by kernel_rfl)
theorem F78_eq (a0 : List (Int)) : F78 a0 =
 (F81 a0).bind fun r0 =>
 if ((decide ((((List.length r0.1.1) : Nat) : Int) > (600 : Int))) = true) then
  (F76 (14 : Int) (-1 : Int)).bind fun r1 =>
  some ((([] : List Int), (r1.1.1, ())), ())
 else
  F78_J4 r0.1.1 (0 : Int) (0 : Int) := (callI_code (fn := Try.f78) (h := h78) (by kernel_rfl)).trans (by kernel_rfl)
theorem F78_J4_eq (x0 : List (Int)) (x1 : Int) (x2 : Int) : F78_J4 x0 x1 x2 =
 some ((x0, (((0 : Int), (0 : Int)), ())), ()) := partJ_go.trans (by kernel_rfl)
theorem F73_eq (a0 : Bool) (a1 : List (Int)) : F73 a0 a1 =
 if ((decide ((((List.length a1) : Nat) : Int) > (128 : Int))) = true) then
  (F69 (14 : Int) (-1 : Int)).bind fun r0 =>
  some (((false, ([] : List Int)), (r0.1.1, ())), ())
 else
  F73_J3 a0 a1 false (0 : Int) (0 : Int) := (callI_code (fn := Try.f73) (h := h73) (by kernel_rfl)).trans (by kernel_rfl)
theorem F73_J3_eq (x0 : Bool) (x1 : List (Int)) (x2 : Bool) (x3 : Int) (x4 : Int) : F73_J3 x0 x1 x2 x3 x4 =
 if (x0 = true) then
  some ((((decide ((((List.length x1) : Nat) : Int) > (0 : Int))), x1), (((0 : Int), (0 : Int)), ())), ())
 else
  some (((false, x1), (((0 : Int), (0 : Int)), ())), ()) := partJ_go.trans (by kernel_rfl)
theorem F63_eq (a0 : List (Int)) (a1 : List (Int)) : F63 a0 a1 =
 (F70 a0 a1).bind fun r0 =>
 if ((r0.1.1.1 != (0 : Int)) = true) then
  some (((0 : Int), (r0.1.1, ())), ())
 else
  F63_J4 a0 a1 (0 : Int) (0 : Int) := (callI_code (fn := Try.f63) (h := h63) (by kernel_rfl)).trans (by kernel_rfl)
theorem F63_J4_eq (x0 : List (Int)) (x1 : List (Int)) (x2 : Int) (x3 : Int) : F63_J4 x0 x1 x2 x3 =
 (F71 x0 x1).bind fun r0 =>
 some (((if ((1 : Int) < (if (r0.1.1 < (-1 : Int)) then (-1 : Int) else r0.1.1)) then (1 : Int) else (if (r0.1.1 < (-1 : Int)) then (-1 : Int) else r0.1.1)), (((0 : Int), (0 : Int)), ())), ()) := partJ_go.trans (by kernel_rfl)
theorem F71_eq (a0 : List (Int)) (a1 : List (Int)) : F71 a0 a1 =
 if (((((List.length a0) : Nat) : Int) != (((List.length a1) : Nat) : Int)) = true) then
  some (((IntKind.wrap .i64 ((((List.length a0) : Nat) : Int) - (((List.length a1) : Nat) : Int))), ()), ())
 else
  F71_J3 a0 a1 := (callI_code (fn := Try.f71) (h := h71) (by kernel_rfl)).trans (by kernel_rfl)
theorem F71_J3_eq (x0 : List (Int)) (x1 : List (Int)) : F71_J3 x0 x1 =
 F71_L4 x0 x1 (IntKind.wrap .i64 ((((List.length x0) : Nat) : Int) - (1 : Int))) := partJ_go.trans (by kernel_rfl)
theorem F71_L4_eq (x0 : List (Int)) (x1 : List (Int)) (x2 : Int) : F71_L4 x0 x1 x2 =
 if ((decide (x2 ≥ (0 : Int))) = true) then
  F71_J6 x0 x1 x2
 else
  F71_J10 := partL_go.trans (loopI_eq.trans (by kernel_rfl))
theorem F71_J6_eq (x0 : List (Int)) (x1 : List (Int)) (x2 : Int) : F71_J6 x0 x1 x2 =
 if ((0 : Int) ≤ x2) then
  if (x2 < (((List.length x0) : Nat) : Int)) then
   if ((0 : Int) ≤ x2) then
    if (x2 < (((List.length x1) : Nat) : Int)) then
     if (((List.getD x0 (Int.toNat x2) (0 : Int)) != (List.getD x1 (Int.toNat x2) (0 : Int))) = true) then
      if ((0 : Int) ≤ x2) then
       if (x2 < (((List.length x0) : Nat) : Int)) then
        if ((0 : Int) ≤ x2) then
         if (x2 < (((List.length x1) : Nat) : Int)) then
          if ((decide ((List.getD x0 (Int.toNat x2) (0 : Int)) < (List.getD x1 (Int.toNat x2) (0 : Int)))) = true) then
           some (((-1 : Int), ()), ())
          else
           F71_J9
         else
          none
        else
         none
       else
        none
      else
       none
     else
      F71_J5 x0 x1 x2
    else
     none
   else
    none
  else
   none
 else
  none := partJ_go.trans (by kernel_rfl)
theorem F71_J10_eq : F71_J10 =
 some (((0 : Int), ()), ()) := partJ_go.trans (by kernel_rfl)
theorem F71_J9_eq : F71_J9 =
 some (((1 : Int), ()), ()) := partJ_go.trans (by kernel_rfl)
theorem F71_J5_eq (x0 : List (Int)) (x1 : List (Int)) (x2 : Int) : F71_J5 x0 x1 x2 =
 F71_L4 x0 x1 (IntKind.wrap .i64 (x2 - (1 : Int))) := partJ_go.trans (by kernel_rfl)
theorem F74_eq (a0 : List (Int)) (a1 : List (Int)) : F74 a0 a1 =
 (F70 a0 a1).bind fun r0 =>
 if ((r0.1.1.1 != (0 : Int)) = true) then
  some ((([] : List Int), (r0.1.1, ())), ())
 else
  F74_J4 a0 a1 (0 : Int) (0 : Int) := (callI_code (fn := Try.f74) (h := h74) (by kernel_rfl)).trans (by kernel_rfl)
theorem F74_J4_eq (x0 : List (Int)) (x1 : List (Int)) (x2 : Int) (x3 : Int) : F74_J4 x0 x1 x2 x3 =
 (F71 x0 x1).bind fun r0 =>
 if ((decide (r0.1.1 < (0 : Int))) = true) then
  (F76 (4 : Int) (-2 : Int)).bind fun r1 =>
  some ((([] : List Int), (r1.1.1, ())), ())
 else
  F74_J6 x0 x1 x2 x3 := partJ_go.trans (by kernel_rfl)
theorem F74_J6_eq (x0 : List (Int)) (x1 : List (Int)) (x2 : Int) (x3 : Int) : F74_J6 x0 x1 x2 x3 =
 (F80 x0 x1).bind fun r0 =>
 some ((r0.1.1, (((0 : Int), (0 : Int)), ())), ()) := partJ_go.trans (by kernel_rfl)
theorem F80_eq (a0 : List (Int)) (a1 : List (Int)) : F80 a0 a1 =
 (F82 a0).bind fun r0 =>
 match r0.1.1 with
 | [] =>
  F80_L4 a1 ([] : List Int) (0 : Int) (((List.length ([] : List Int)) : Nat) : Int) (0 : Int)
 | _ :: _ =>
  F80_L4_1 a1 (0 : Int) (((List.length r0.1.1) : Nat) : Int) (0 : Int) r0.1.1 := (callI_code (fn := Try.f80) (h := h80) (by kernel_rfl)).trans (by kernel_rfl)
theorem F80_L4_eq (x0 : List (Int)) (x1 : List (Int)) (x2 : Int) (x3 : Int) (x4 : Int) : F80_L4 x0 x1 x2 x3 x4 =
 if ((decide (x4 < x3)) = true) then
  F80_J5 x0 x1 x2 x3 x4
 else
  F80_J11 x1 := partL_go.trans (loopI_eq.trans (by kernel_rfl))
theorem F80_L4_1_eq (x0 : List (Int)) (x1 : Int) (x2 : Int) (x3 : Int) (x4 : List (Int)) : F80_L4_1 x0 x1 x2 x3 x4 =
 if ((decide (x3 < x2)) = true) then
  F80_J5_1 x0 x1 x2 x3 x4
 else
  F80_J11_1 x4 := partL_go.trans (loopI_eq.trans (by kernel_rfl))
theorem F80_J5_eq (x0 : List (Int)) (x1 : List (Int)) (x2 : Int) (x3 : Int) (x4 : Int) : F80_J5 x0 x1 x2 x3 x4 =
 if ((decide (x4 < (((List.length x0) : Nat) : Int))) = true) then
  if ((0 : Int) ≤ x4) then
   if (x4 < (((List.length x0) : Nat) : Int)) then
    F80_J9 x0 x1 x2 x4 (List.getD x0 (Int.toNat x4) (0 : Int)) x3 x4
   else
    none
  else
   none
 else
  F80_J9 x0 x1 x2 x4 (0 : Int) x3 x4 := partJ_go.trans (by kernel_rfl)
theorem F80_J11_eq (x0 : List (Int)) : F80_J11 x0 =
 (F81 x0).bind fun r0 =>
 some ((r0.1.1, ()), ()) := partJ_go.trans (by kernel_rfl)
theorem F80_J5_1_eq (x0 : List (Int)) (x1 : Int) (x2 : Int) (x3 : Int) (x4 : List (Int)) : F80_J5_1 x0 x1 x2 x3 x4 =
 if ((decide (x3 < (((List.length x0) : Nat) : Int))) = true) then
  if ((0 : Int) ≤ x3) then
   if (x3 < (((List.length x0) : Nat) : Int)) then
    F80_J9_1 x0 x1 x3 (List.getD x0 (Int.toNat x3) (0 : Int)) x2 x3 x4
   else
    none
  else
   none
 else
  F80_J9_1 x0 x1 x3 (0 : Int) x2 x3 x4 := partJ_go.trans (by kernel_rfl)
theorem F80_J11_1_eq (x0 : List (Int)) : F80_J11_1 x0 =
 (F81 x0).bind fun r0 =>
 some ((r0.1.1, ()), ()) := partJ_go.trans (by kernel_rfl)
theorem F80_J9_eq (x0 : List (Int)) (x1 : List (Int)) (x2 : Int) (x3 : Int) (x4 : Int) (x5 : Int) (x6 : Int) : F80_J9 x0 x1 x2 x3 x4 x5 x6 =
 if ((0 : Int) ≤ x3) then
  if (x3 < (((List.length x1) : Nat) : Int)) then
   (F83 (List.getD x1 (Int.toNat x3) (0 : Int)) x4 x2).bind fun r0 =>
   if ((0 : Int) ≤ x3) then
    if (x3 < (((List.length x1) : Nat) : Int)) then
     none
    else
     none
   else
    none
  else
   none
 else
  none := partJ_go.trans (by kernel_rfl)
theorem F80_J9_1_eq (x0 : List (Int)) (x1 : Int) (x2 : Int) (x3 : Int) (x4 : Int) (x5 : Int) (x6 : List (Int)) : F80_J9_1 x0 x1 x2 x3 x4 x5 x6 =
 if ((0 : Int) ≤ x2) then
  if (x2 < (((List.length x6) : Nat) : Int)) then
   (F83 (List.getD x6 (Int.toNat x2) (0 : Int)) x3 x1).bind fun r0 =>
   if ((0 : Int) ≤ x2) then
    if (x2 < (((List.length x6) : Nat) : Int)) then
     F80_J10 x0 r0.1.2.1 x4 x5 (List.set x6 (Int.toNat x2) r0.1.1)
    else
     none
   else
    none
  else
   none
 else
  none := partJ_go.trans (by kernel_rfl)
theorem F80_J10_eq (x0 : List (Int)) (x1 : Int) (x2 : Int) (x3 : Int) (x4 : List (Int)) : F80_J10 x0 x1 x2 x3 x4 =
 F80_L4_1 x0 x1 x2 (IntKind.wrap .i64 (x3 + (1 : Int))) x4 := partJ_go.trans (by kernel_rfl)
theorem F83_eq (a0 : Int) (a1 : Int) (a2 : Int) : F83 a0 a1 a2 =
 some (((IntKind.wrap .u32 ((IntKind.wrap .u32 (a0 - a1)) - a2)), ((shrI .u32 (bitI .or .u32 (bitI .and .u32 (bitI .xor .u32 ((4294967296 : Int) - (1 : Int)) a0) a1) (bitI .and .u32 (bitI .xor .u32 ((4294967296 : Int) - (1 : Int)) (bitI .xor .u32 a0 a1)) (IntKind.wrap .u32 ((IntKind.wrap .u32 (a0 - a1)) - a2)))) 31), ())), ()) := (callI_code (fn := Try.f83) (h := h83) (by kernel_rfl)).trans (by kernel_rfl)
theorem F60_eq (a0 : (Bool × List (Int))) : F60 a0 =
 (F62 (a0 :: [])).bind fun r0 =>
 if ((r0.1.1.1 != (0 : Int)) = true) then
  some (((0 : Int), (r0.1.1, ())), ())
 else
  F60_J4 a0.1 a0.2 (0 : Int) (0 : Int) := (callI_code (fn := Try.f60) (h := h60) (by kernel_rfl)).trans (by kernel_rfl)
theorem F60_J4_eq (x0 : Bool) (x1 : List (Int)) (x2 : Int) (x3 : Int) : F60_J4 x0 x1 x2 x3 =
 (F68 x1).bind fun r0 =>
 some ((r0.1.1, (r0.1.2.1, ())), ()) := partJ_go.trans (by kernel_rfl)
theorem F68_eq (a0 : List (Int)) : F68 a0 =
 (F75 a0).bind fun r0 =>
 if ((!r0.1.1) = true) then
  (F76 (6 : Int) (-1 : Int)).bind fun r1 =>
  some (((0 : Int), (r1.1.1, ())), ())
 else
  F68_J3 a0 (0 : Int) (0 : Int) := (callI_code (fn := Try.f68) (h := h68) (by kernel_rfl)).trans (by kernel_rfl)
theorem F68_J3_eq (x0 : List (Int)) (x1 : Int) (x2 : Int) : F68_J3 x0 x1 x2 =
 if (((((List.length x0) : Nat) : Int) == (0 : Int)) = true) then
  some (((0 : Int), (((0 : Int), (0 : Int)), ())), ())
 else
  F68_J5 x0 x1 x2 := partJ_go.trans (by kernel_rfl)
theorem F68_J5_eq (x0 : List (Int)) (x1 : Int) (x2 : Int) : F68_J5 x0 x1 x2 =
 if ((0 : Int) ≤ (IntKind.wrap .i64 ((((List.length x0) : Nat) : Int) - (1 : Int)))) then
  if ((IntKind.wrap .i64 ((((List.length x0) : Nat) : Int) - (1 : Int))) < (((List.length x0) : Nat) : Int)) then
   (F77 (List.getD x0 (Int.toNat (IntKind.wrap .i64 ((((List.length x0) : Nat) : Int) - (1 : Int)))) (0 : Int))).bind fun r0 =>
   some (((IntKind.wrap .i64 ((IntKind.wrap .i64 ((32 : Int) * (IntKind.wrap .i64 ((((List.length x0) : Nat) : Int) - (1 : Int))))) + r0.1.1)), (((0 : Int), (0 : Int)), ())), ())
  else
   none
 else
  none := partJ_go.trans (by kernel_rfl)
theorem F77_eq (a0 : Int) : F77 a0 =
 if ((decide (a0 ≥ (65536 : Int))) = true) then
  F77_J4 (shrI .u32 a0 16) (16 : Int)
 else
  F77_J4 a0 (0 : Int) := (callI_code (fn := Try.f77) (h := h77) (by kernel_rfl)).trans (by kernel_rfl)
theorem F77_J4_eq (x0 : Int) (x1 : Int) : F77_J4 x0 x1 =
 if ((decide (x0 ≥ (256 : Int))) = true) then
  F77_J7 (shrI .u32 x0 8) (IntKind.wrap .i64 (x1 + (8 : Int)))
 else
  F77_J7 x0 x1 := partJ_go.trans (by kernel_rfl)
theorem F77_J7_eq (x0 : Int) (x1 : Int) : F77_J7 x0 x1 =
 if ((0 : Int) ≤ (IntKind.wrap .u8 x0)) then
  if ((IntKind.wrap .u8 x0) < (((List.length (0 :: (1 :: (2 :: (2 :: (3 :: (3 :: (3 :: (3 :: (4 :: (4 :: (4 :: (4 :: (4 :: (4 :: (4 :: (4 :: (5 :: (5 :: (5 :: (5 :: (5 :: (5 :: (5 :: (5 :: (5 :: (5 :: (5 :: (5 :: (5 :: (5 :: (5 :: (5 :: (6 :: (6 :: (6 :: (6 :: (6 :: (6 :: (6 :: (6 :: (6 :: (6 :: (6 :: (6 :: (6 :: (6 :: (6 :: (6 :: (6 :: (6 :: (6 :: (6 :: (6 :: (6 :: (6 :: (6 :: (6 :: (6 :: (6 :: (6 :: (6 :: (6 :: (6 :: (6 :: (7 :: (7 :: (7 :: (7 :: (7 :: (7 :: (7 :: (7 :: (7 :: (7 :: (7 :: (7 :: (7 :: (7 :: (7 :: (7 :: (7 :: (7 :: (7 :: (7 :: (7 :: (7 :: (7 :: (7 :: (7 :: (7 :: (7 :: (7 :: (7 :: (7 :: (7 :: (7 :: (7 :: (7 :: (7 :: (7 :: (7 :: (7 :: (7 :: (7 :: (7 :: (7 :: (7 :: (7 :: (7 :: (7 :: (7 :: (7 :: (7 :: (7 :: (7 :: (7 :: (7 :: (7 :: (7 :: (7 :: (7 :: (7 :: (7 :: (7 :: (7 :: (7 :: (7 :: (7 :: (8 :: (8 :: (8 :: (8 :: (8 :: (8 :: (8 :: (8 :: (8 :: (8 :: (8 :: (8 :: (8 :: (8 :: (8 :: (8 :: (8 :: (8 :: (8 :: (8 :: (8 :: (8 :: (8 :: (8 :: (8 :: (8 :: (8 :: (8 :: (8 :: (8 :: (8 :: (8 :: (8 :: (8 :: (8 :: (8 :: (8 :: (8 :: (8 :: (8 :: (8 :: (8 :: (8 :: (8 :: (8 :: (8 :: (8 :: (8 :: (8 :: (8 :: (8 :: (8 :: (8 :: (8 :: (8 :: (8 :: (8 :: (8 :: (8 :: (8 :: (8 :: (8 :: (8 :: (8 :: (8 :: (8 :: (8 :: (8 :: (8 :: (8 :: (8 :: (8 :: (8 :: (8 :: (8 :: (8 :: (8 :: (8 :: (8 :: (8 :: (8 :: (8 :: (8 :: (8 :: (8 :: (8 :: (8 :: (8 :: (8 :: (8 :: (8 :: (8 :: (8 :: (8 :: (8 :: (8 :: (8 :: (8 :: (8 :: (8 :: (8 :: (8 :: (8 :: (8 :: (8 :: (8 :: (8 :: (8 :: (8 :: (8 :: (8 :: (8 :: (8 :: (8 :: (8 :: (8 :: (8 :: (8 :: (8 :: (8 :: (8 :: (8 :: (8 :: (8 :: (8 :: (8 :: (8 :: (8 :: []))))))))))))))))))))))))))))))))))))))))))))))))))))))))))))))))))))))))))))))))))))))))))))))))))))))))))))))))))))))))))))))))))))))))))))))))))))))))))))))))))))))))))))))))))))))))))))))))))))))))))))))))))))))))))))))))))))))))))))))))))))))))))))))))) : Nat) : Int)) then
   some (((IntKind.wrap .i64 (x1 + (IntKind.wrap .i64 (((UInt8.toNat (List.getD (0 :: (1 :: (2 :: (2 :: (3 :: (3 :: (3 :: (3 :: (4 :: (4 :: (4 :: (4 :: (4 :: (4 :: (4 :: (4 :: (5 :: (5 :: (5 :: (5 :: (5 :: (5 :: (5 :: (5 :: (5 :: (5 :: (5 :: (5 :: (5 :: (5 :: (5 :: (5 :: (6 :: (6 :: (6 :: (6 :: (6 :: (6 :: (6 :: (6 :: (6 :: (6 :: (6 :: (6 :: (6 :: (6 :: (6 :: (6 :: (6 :: (6 :: (6 :: (6 :: (6 :: (6 :: (6 :: (6 :: (6 :: (6 :: (6 :: (6 :: (6 :: (6 :: (6 :: (6 :: (7 :: (7 :: (7 :: (7 :: (7 :: (7 :: (7 :: (7 :: (7 :: (7 :: (7 :: (7 :: (7 :: (7 :: (7 :: (7 :: (7 :: (7 :: (7 :: (7 :: (7 :: (7 :: (7 :: (7 :: (7 :: (7 :: (7 :: (7 :: (7 :: (7 :: (7 :: (7 :: (7 :: (7 :: (7 :: (7 :: (7 :: (7 :: (7 :: (7 :: (7 :: (7 :: (7 :: (7 :: (7 :: (7 :: (7 :: (7 :: (7 :: (7 :: (7 :: (7 :: (7 :: (7 :: (7 :: (7 :: (7 :: (7 :: (7 :: (7 :: (7 :: (7 :: (7 :: (7 :: (8 :: (8 :: (8 :: (8 :: (8 :: (8 :: (8 :: (8 :: (8 :: (8 :: (8 :: (8 :: (8 :: (8 :: (8 :: (8 :: (8 :: (8 :: (8 :: (8 :: (8 :: (8 :: (8 :: (8 :: (8 :: (8 :: (8 :: (8 :: (8 :: (8 :: (8 :: (8 :: (8 :: (8 :: (8 :: (8 :: (8 :: (8 :: (8 :: (8 :: (8 :: (8 :: (8 :: (8 :: (8 :: (8 :: (8 :: (8 :: (8 :: (8 :: (8 :: (8 :: (8 :: (8 :: (8 :: (8 :: (8 :: (8 :: (8 :: (8 :: (8 :: (8 :: (8 :: (8 :: (8 :: (8 :: (8 :: (8 :: (8 :: (8 :: (8 :: (8 :: (8 :: (8 :: (8 :: (8 :: (8 :: (8 :: (8 :: (8 :: (8 :: (8 :: (8 :: (8 :: (8 :: (8 :: (8 :: (8 :: (8 :: (8 :: (8 :: (8 :: (8 :: (8 :: (8 :: (8 :: (8 :: (8 :: (8 :: (8 :: (8 :: (8 :: (8 :: (8 :: (8 :: (8 :: (8 :: (8 :: (8 :: (8 :: (8 :: (8 :: (8 :: (8 :: (8 :: (8 :: (8 :: (8 :: (8 :: (8 :: (8 :: (8 :: (8 :: (8 :: (8 :: (8 :: (8 :: (8 :: [])))))))))))))))))))))))))))))))))))))))))))))))))))))))))))))))))))))))))))))))))))))))))))))))))))))))))))))))))))))))))))))))))))))))))))))))))))))))))))))))))))))))))))))))))))))))))))))))))))))))))))))))))))))))))))))))))))))))))))))))))))))))))))))))) (Int.toNat (IntKind.wrap .u8 x0)) 0)) : Nat) : Int)))), ()), ())
  else
   none
 else
  none := partJ_go.trans (by kernel_rfl)
theorem F61_eq (a0 : (Int × Int)) (a1 : Int) : F61 a0 a1 =
 F61_L2 a1 a0.1 a0.2 false ([] : List Int) := (callI_code (fn := Try.f61) (h := h61) (by kernel_rfl)).trans (by kernel_rfl)
theorem F61_L2_eq (x0 : Int) (x1 : Int) (x2 : Int) (x3 : Bool) (x4 : List (Int)) : F61_L2 x0 x1 x2 x3 x4 =
 if ((decide (x0 > (0 : Int))) = true) then
  F61_J4 x0 x1 x2 x3 x4
 else
  F61_L8 x1 x2 x3 x4 := partL_go.trans (loopI_eq.trans (by kernel_rfl))
theorem F61_J4_eq (x0 : Int) (x1 : Int) (x2 : Int) (x3 : Bool) (x4 : List (Int)) : F61_J4 x0 x1 x2 x3 x4 =
 (F40 (x1, x2)).bind fun r0 =>
 if ((decide (x0 < (32 : Int))) = true) then
  if ((IntKind.wrap .i64 ((32 : Int) - x0)) < (0 : Int)) then
   none
  else
   F61_J7 x0 (shrI .u32 (IntKind.wrap .u32 (shrI .u64 r0.1.1 32)) (Int.toNat (IntKind.wrap .i64 ((32 : Int) - x0)))) r0.2.1.1 r0.2.1.2 x3 x4
 else
  F61_J7 x0 (IntKind.wrap .u32 (shrI .u64 r0.1.1 32)) r0.2.1.1 r0.2.1.2 x3 x4 := partJ_go.trans (by kernel_rfl)
theorem F61_L8_eq (x0 : Int) (x1 : Int) (x2 : Bool) (x3 : List (Int)) : F61_L8 x0 x1 x2 x3 =
 if ((decide ((((List.length x3) : Nat) : Int) > (0 : Int))) = true) then
  if ((0 : Int) ≤ (IntKind.wrap .i64 ((((List.length x3) : Nat) : Int) - (1 : Int)))) then
   if ((IntKind.wrap .i64 ((((List.length x3) : Nat) : Int) - (1 : Int))) < (((List.length x3) : Nat) : Int)) then
    if (((List.getD x3 (Int.toNat (IntKind.wrap .i64 ((((List.length x3) : Nat) : Int) - (1 : Int)))) (0 : Int)) == (0 : Int)) = true) then
     F61_J9 x0 x1 x2 x3
    else
     F61_J10 x0 x1 x2 x3
   else
    none
  else
   none
 else
  F61_J10 x0 x1 x2 x3 := partL_go.trans (loopI_eq.trans (by kernel_rfl))
theorem F61_J7_eq (x0 : Int) (x1 : Int) (x2 : Int) (x3 : Int) (x4 : Bool) (x5 : List (Int)) : F61_J7 x0 x1 x2 x3 x4 x5 =
 if ((((List.length x5) + (List.length (x1 :: ([] : List Int)))) * 4) ≤ 140737488355328) then
  F61_J3 x0 x2 x3 x4 (x5 ++ (x1 :: ([] : List Int)))
 else
  none := partJ_go.trans (by kernel_rfl)
theorem F61_J9_eq (x0 : Int) (x1 : Int) (x2 : Bool) (x3 : List (Int)) : F61_J9 x0 x1 x2 x3 =
 if (((0 : Int) ≤ (0 : Int)) ∧ (((0 : Int) ≤ (IntKind.wrap .i64 ((((List.length x3) : Nat) : Int) - (1 : Int)))) ∧ ((IntKind.wrap .i64 ((((List.length x3) : Nat) : Int) - (1 : Int))) ≤ (((List.length x3) : Nat) : Int)))) then
  F61_L8_1 (List.drop 0 (List.take (Int.toNat (IntKind.wrap .i64 ((((List.length x3) : Nat) : Int) - (1 : Int)))) x3)) x0 x1 x2
 else
  none := partJ_go.trans (by kernel_rfl)
theorem F61_J10_eq (x0 : Int) (x1 : Int) (x2 : Bool) (x3 : List (Int)) : F61_J10 x0 x1 x2 x3 =
 some (((false, x3), ()), ((x0, x1), ())) := partJ_go.trans (by kernel_rfl)
theorem F61_J3_eq (x0 : Int) (x1 : Int) (x2 : Int) (x3 : Bool) (x4 : List (Int)) : F61_J3 x0 x1 x2 x3 x4 =
 F61_L2 (IntKind.wrap .i64 (x0 - (32 : Int))) x1 x2 x3 x4 := partJ_go.trans (by kernel_rfl)
theorem F61_L8_1_eq (x0 : List (Int)) (x1 : Int) (x2 : Int) (x3 : Bool) : F61_L8_1 x0 x1 x2 x3 =
 if ((decide ((((List.length x0) : Nat) : Int) > (0 : Int))) = true) then
  if ((0 : Int) ≤ (IntKind.wrap .i64 ((((List.length x0) : Nat) : Int) - (1 : Int)))) then
   if ((IntKind.wrap .i64 ((((List.length x0) : Nat) : Int) - (1 : Int))) < (((List.length x0) : Nat) : Int)) then
    if (((List.getD x0 (Int.toNat (IntKind.wrap .i64 ((((List.length x0) : Nat) : Int) - (1 : Int)))) (0 : Int)) == (0 : Int)) = true) then
     F61_J9_1 x0 x1 x2 x3
    else
     F61_J10_1 x0 x1 x2 x3
   else
    none
  else
   none
 else
  F61_J10_1 x0 x1 x2 x3 := partL_go.trans (loopI_eq.trans (by kernel_rfl))
theorem F61_J9_1_eq (x0 : List (Int)) (x1 : Int) (x2 : Int) (x3 : Bool) : F61_J9_1 x0 x1 x2 x3 =
 if (((0 : Int) ≤ (0 : Int)) ∧ (((0 : Int) ≤ (IntKind.wrap .i64 ((((List.length x0) : Nat) : Int) - (1 : Int)))) ∧ ((IntKind.wrap .i64 ((((List.length x0) : Nat) : Int) - (1 : Int))) ≤ (((List.length x0) : Nat) : Int)))) then
  F61_L8_1 (List.drop 0 (List.take (Int.toNat (IntKind.wrap .i64 ((((List.length x0) : Nat) : Int) - (1 : Int)))) x0)) x1 x2 x3
 else
  none := partJ_go.trans (by kernel_rfl)
theorem F61_J10_1_eq (x0 : List (Int)) (x1 : Int) (x2 : Int) (x3 : Bool) : F61_J10_1 x0 x1 x2 x3 =
 some (((false, x0), ()), ((x1, x2), ())) := partJ_go.trans (by kernel_rfl)
theorem F44_eq (a0 : (Bool × List (Int))) (a1 : (Bool × List (Int))) : F44 a0 a1 =
 (F62 (a0 :: (a1 :: []))).bind fun r0 =>
 if ((r0.1.1.1 != (0 : Int)) = true) then
  some (((0 : Int), (r0.1.1, ())), ())
 else
  F44_J4 a0.1 a0.2 a1.1 a1.2 (0 : Int) (0 : Int) := (callI_code (fn := Try.f44) (h := h44) (by kernel_rfl)).trans (by kernel_rfl)
theorem F44_J4_eq (x0 : Bool) (x1 : List (Int)) (x2 : Bool) (x3 : List (Int)) (x4 : Int) (x5 : Int) : F44_J4 x0 x1 x2 x3 x4 x5 =
 (F63 x1 x3).bind fun r0 =>
 if (x0 = true) then
  if (x2 = true) then
   some (((IntKind.wrap .i64 ((0 : Int) - r0.1.1)), (((0 : Int), (0 : Int)), ())), ())
  else
   if (x0 = true) then
    some (((-1 : Int), (((0 : Int), (0 : Int)), ())), ())
   else
    if (x2 = true) then
     some (((1 : Int), (((0 : Int), (0 : Int)), ())), ())
    else
     F44_J11 r0.1.1 x4 x5
 else
  if (x0 = true) then
   some (((-1 : Int), (((0 : Int), (0 : Int)), ())), ())
  else
   if (x2 = true) then
    some (((1 : Int), (((0 : Int), (0 : Int)), ())), ())
   else
    F44_J11 r0.1.1 x4 x5 := partJ_go.trans (by kernel_rfl)
theorem F44_J11_eq (x0 : Int) (x1 : Int) (x2 : Int) : F44_J11 x0 x1 x2 =
 some ((x0, (((0 : Int), (0 : Int)), ())), ()) := partJ_go.trans (by kernel_rfl)
theorem F14_eq (a0 : (Bool × List (Int))) : F14 a0 =
 if (a0.1 = true) then
  F14_J4 (bitI .xor .u64 ((18446744073709551616 : Int) - (1 : Int)) (IntKind.wrap .u64 (((List.length a0.2) : Nat) : Int))) a0.1 a0.2 (0 : Int) (0 : Int)
 else
  F14_J4 (IntKind.wrap .u64 (((List.length a0.2) : Nat) : Int)) a0.1 a0.2 (0 : Int) (0 : Int) := (callI_code (fn := Try.f14) (h := h14) (by kernel_rfl)).trans (by kernel_rfl)
theorem F14_J4_eq (x0 : Int) (x1 : Bool) (x2 : List (Int)) (x3 : Int) (x4 : Int) : F14_J4 x0 x1 x2 x3 x4 =
 F14_L5 x0 (0 : Int) x1 x2 x3 x4 := partJ_go.trans (by kernel_rfl)
theorem F14_L5_eq (x0 : Int) (x1 : Int) (x2 : Bool) (x3 : List (Int)) (x4 : Int) (x5 : Int) : F14_L5 x0 x1 x2 x3 x4 x5 =
 if ((decide (x1 < (((List.length x3) : Nat) : Int))) = true) then
  F14_J7 x0 x1 x2 x3 x4 x5
 else
  F14_J8 x0 x4 x5 := partL_go.trans (loopI_eq.trans (by kernel_rfl))
theorem F14_J7_eq (x0 : Int) (x1 : Int) (x2 : Bool) (x3 : List (Int)) (x4 : Int) (x5 : Int) : F14_J7 x0 x1 x2 x3 x4 x5 =
 if ((0 : Int) ≤ x1) then
  if (x1 < (((List.length x3) : Nat) : Int)) then
   (F42 (IntKind.wrap .u64 ((IntKind.wrap .u64 ((IntKind.wrap .u64 (x0 * (6364136223846793005 : Int))) + (IntKind.wrap .u64 (List.getD x3 (Int.toNat x1) (0 : Int))))) + (1 : Int)))).bind fun r0 =>
   F14_L5 r0.1.1 (IntKind.wrap .i64 (x1 + (1 : Int))) x2 x3 x4 x5
  else
   none
 else
  none := partJ_go.trans (by kernel_rfl)
theorem F14_J8_eq (x0 : Int) (x1 : Int) (x2 : Int) : F14_J8 x0 x1 x2 =
 some (((x0, (1442695040888963407 : Int)), ()), ()) := partJ_go.trans (by kernel_rfl)
theorem F42_eq (a0 : Int) : F42 a0 =
 some (((bitI .xor .u64 (IntKind.wrap .u64 ((bitI .xor .u64 (IntKind.wrap .u64 ((bitI .xor .u64 a0 (quoI .u64 a0 (1073741824 : Int))) * (13787848793156543929 : Int))) (quoI .u64 (IntKind.wrap .u64 ((bitI .xor .u64 a0 (quoI .u64 a0 (1073741824 : Int))) * (13787848793156543929 : Int))) (134217728 : Int))) * (10723151780598845931 : Int))) (quoI .u64 (IntKind.wrap .u64 ((bitI .xor .u64 (IntKind.wrap .u64 ((bitI .xor .u64 a0 (quoI .u64 a0 (1073741824 : Int))) * (13787848793156543929 : Int))) (quoI .u64 (IntKind.wrap .u64 ((bitI .xor .u64 a0 (quoI .u64 a0 (1073741824 : Int))) * (13787848793156543929 : Int))) (134217728 : Int))) * (10723151780598845931 : Int))) (2147483648 : Int))), ()), ()) := (callI_code (fn := Try.f42) (h := h42) (by kernel_rfl)).trans (by kernel_rfl)
theorem F15_eq (a0 : (Int × Int)) : F15 a0 =
 (F42 (IntKind.wrap .u64 ((IntKind.wrap .u64 (a0.1 * (6364136223846793005 : Int))) + a0.2))).bind fun r0 =>
 some ((r0.1.1, ()), (((IntKind.wrap .u64 ((IntKind.wrap .u64 (a0.1 * (6364136223846793005 : Int))) + a0.2)), a0.2), ())) := (callI_code (fn := Try.f15) (h := h15) (by kernel_rfl)).trans (by kernel_rfl)
theorem F18_eq (a0 : (Bool × List (Int))) : F18 a0 =
 if ((!a0.1) = true) then
  some ((((((List.length a0.2) : Nat) : Int) == (0 : Int)), ()), ())
 else
  some ((false, ()), ()) := (callI_code (fn := Try.f18) (h := h18) (by kernel_rfl)).trans (by kernel_rfl)
theorem F25_eq (a0 : Int) : F25 a0 =
 F25_L3 a0 (decide (a0 < (0 : Int))) false ([] : List Bool) := (callI_code (fn := Try.f25) (h := h25) (by kernel_rfl)).trans (by kernel_rfl)
theorem F25_L3_eq (x0 : Int) (x1 : Bool) (x2 : Bool) (x3 : List (Bool)) : F25_L3 x0 x1 x2 x3 =
 if ((x0 != (0 : Int)) = true) then
  F25_J4 x0 x1 x2 x3
 else
  F25_J6 x1 x2 x3 := partL_go.trans (loopI_eq.trans (by kernel_rfl))
theorem F25_J4_eq (x0 : Int) (x1 : Bool) (x2 : Bool) (x3 : List (Bool)) : F25_J4 x0 x1 x2 x3 =
 if ((((List.length x3) + (List.length (((Int.tmod x0 (2 : Int)) != (0 : Int)) :: ([] : List Bool)))) * 1) ≤ 140737488355328) then
  F25_L3 (quoI .i64 x0 (2 : Int)) x1 x2 (x3 ++ (((Int.tmod x0 (2 : Int)) != (0 : Int)) :: ([] : List Bool)))
 else
  none := partJ_go.trans (by kernel_rfl)
theorem F25_J6_eq (x0 : Bool) (x1 : Bool) (x2 : List (Bool)) : F25_J6 x0 x1 x2 =
 (F49 x2).bind fun r0 =>
 some (((x0, r0.1.1), ()), ()) := partJ_go.trans (by kernel_rfl)
theorem F49_eq (a0 : List (Bool)) : F49 a0 =
 F49_L3 a0 (0 : Int) ([] : List Int) := (callI_code (fn := Try.f49) (h := h49) (by kernel_rfl)).trans (by kernel_rfl)
theorem F49_L3_eq (x0 : List (Bool)) (x1 : Int) (x2 : List (Int)) : F49_L3 x0 x1 x2 =
 if ((decide (x1 < (((List.length x0) : Nat) : Int))) = true) then
  F49_J5 x0 x1 x2
 else
  F49_J13 x2 := partL_go.trans (loopI_eq.trans (by kernel_rfl))
theorem F49_J5_eq (x0 : List (Bool)) (x1 : Int) (x2 : List (Int)) : F49_J5 x0 x1 x2 =
 F49_L7 x0 x1 (0 : Int) (15 : Int) x2 := partJ_go.trans (by kernel_rfl)
theorem F49_J13_eq (x0 : List (Int)) : F49_J13 x0 =
 (F65 x0).bind fun r0 =>
 some ((r0.1.1, ()), ()) := partJ_go.trans (by kernel_rfl)
theorem F49_L7_eq (x0 : List (Bool)) (x1 : Int) (x2 : Int) (x3 : Int) (x4 : List (Int)) : F49_L7 x0 x1 x2 x3 x4 =
 if ((decide (x3 ≥ (0 : Int))) = true) then
  F49_J9 x0 x1 x2 x3 x4
 else
  F49_J12 x0 x1 x2 x4 := partL_go.trans (loopI_eq.trans (by kernel_rfl))
theorem F49_J9_eq (x0 : List (Bool)) (x1 : Int) (x2 : Int) (x3 : Int) (x4 : List (Int)) : F49_J9 x0 x1 x2 x3 x4 =
 if ((decide ((IntKind.wrap .i64 (x1 + x3)) < (((List.length x0) : Nat) : Int))) = true) then
  if ((0 : Int) ≤ (IntKind.wrap .i64 (x1 + x3))) then
   if ((IntKind.wrap .i64 (x1 + x3)) < (((List.length x0) : Nat) : Int)) then
    if ((List.getD x0 (Int.toNat (IntKind.wrap .i64 (x1 + x3))) false) = true) then
     F49_J8 x0 x1 (IntKind.wrap .i64 ((IntKind.wrap .i64 (x2 * (2 : Int))) + (1 : Int))) x3 x4
    else
     F49_J8 x0 x1 (IntKind.wrap .i64 (x2 * (2 : Int))) x3 x4
   else
    none
  else
   none
 else
  F49_J8 x0 x1 (IntKind.wrap .i64 (x2 * (2 : Int))) x3 x4 := partJ_go.trans (by kernel_rfl)
theorem F49_J12_eq (x0 : List (Bool)) (x1 : Int) (x2 : Int) (x3 : List (Int)) : F49_J12 x0 x1 x2 x3 =
 if ((((List.length x3) + (List.length (x2 :: ([] : List Int)))) * 8) ≤ 140737488355328) then
  F49_J4 x0 x1 (x3 ++ (x2 :: ([] : List Int)))
 else
  none := partJ_go.trans (by kernel_rfl)
theorem F49_J8_eq (x0 : List (Bool)) (x1 : Int) (x2 : Int) (x3 : Int) (x4 : List (Int)) : F49_J8 x0 x1 x2 x3 x4 =
 F49_L7 x0 x1 x2 (IntKind.wrap .i64 (x3 - (1 : Int))) x4 := partJ_go.trans (by kernel_rfl)
theorem F49_J4_eq (x0 : List (Bool)) (x1 : Int) (x2 : List (Int)) : F49_J4 x0 x1 x2 =
 F49_L3 x0 (IntKind.wrap .i64 (x1 + (16 : Int))) x2 := partJ_go.trans (by kernel_rfl)
theorem F65_eq (a0 : List (Int)) : F65 a0 =
 F65_L1 a0 := (callI_code (fn := Try.f65) (h := h65) (by kernel_rfl)).trans (by kernel_rfl)
theorem F65_L1_eq (x0 : List (Int)) : F65_L1 x0 =
 if ((decide ((((List.length x0) : Nat) : Int) > (0 : Int))) = true) then
  if ((0 : Int) ≤ (IntKind.wrap .i64 ((((List.length x0) : Nat) : Int) - (1 : Int)))) then
   if ((IntKind.wrap .i64 ((((List.length x0) : Nat) : Int) - (1 : Int))) < (((List.length x0) : Nat) : Int)) then
    if (((List.getD x0 (Int.toNat (IntKind.wrap .i64 ((((List.length x0) : Nat) : Int) - (1 : Int)))) (0 : Int)) == (0 : Int)) = true) then
     F65_J2 x0
    else
     F65_J3 x0
   else
    none
  else
   none
 else
  F65_J3 x0 := partL_go.trans (loopI_eq.trans (by kernel_rfl))
theorem F65_J2_eq (x0 : List (Int)) : F65_J2 x0 =
 if (((0 : Int) ≤ (0 : Int)) ∧ (((0 : Int) ≤ (IntKind.wrap .i64 ((((List.length x0) : Nat) : Int) - (1 : Int)))) ∧ ((IntKind.wrap .i64 ((((List.length x0) : Nat) : Int) - (1 : Int))) ≤ (((List.length x0) : Nat) : Int)))) then
  F65_L1 (List.drop 0 (List.take (Int.toNat (IntKind.wrap .i64 ((((List.length x0) : Nat) : Int) - (1 : Int)))) x0))
 else
  none := partJ_go.trans (by kernel_rfl)
theorem F65_J3_eq (x0 : List (Int)) : F65_J3 x0 =
 some ((x0, ()), ()) := partJ_go.trans (by kernel_rfl)
theorem F33_eq (a0 : (Bool × List (Int))) (a1 : Int) : F33 a0 a1 =
 if ((!a0.1) = true) then
  (F57 a0.2 a1).bind fun r0 =>
  some (((a0.1, r0.1.1), ()), ())
 else
  if ((decide (a1 ≥ (0 : Int))) = true) then
   (F57 a0.2 a1).bind fun r1 =>
   some (((a0.1, r1.1.1), ()), ())
  else
   F33_J3 a1 a0.1 a0.2 false := (callI_code (fn := Try.f33) (h := h33) (by kernel_rfl)).trans (by kernel_rfl)
theorem F33_J3_eq (x0 : Int) (x1 : Bool) (x2 : List (Int)) (x3 : Bool) : F33_J3 x0 x1 x2 x3 =
 (F58 (1 : Int)).bind fun r0 =>
 (F54 x2 r0.1.1).bind fun r1 =>
 (F57 r1.1.1 x0).bind fun r2 =>
 (F58 (1 : Int)).bind fun r3 =>
 (F53 r2.1.1 r3.1.1).bind fun r4 =>
 some (((true, r4.1.1), ()), ()) := partJ_go.trans (by kernel_rfl)
theorem F57_eq (a0 : List (Int)) (a1 : Int) : F57 a0 a1 =
 (F48 a0).bind fun r0 =>
 if (((((List.length r0.1.1) : Nat) : Int) == (0 : Int)) = true) then
  some ((([] : List Int), ()), ())
 else
  if ((decide (a1 ≤ (IntKind.wrap .i64 ((0 : Int) - (((List.length r0.1.1) : Nat) : Int))))) = true) then
   some ((([] : List Int), ()), ())
  else
   if ((decide (a1 < (0 : Int))) = true) then
    if (((0 : Int) ≤ (IntKind.wrap .i64 ((0 : Int) - a1))) ∧ (((IntKind.wrap .i64 ((0 : Int) - a1)) ≤ (((List.length r0.1.1) : Nat) : Int)) ∧ ((((List.length r0.1.1) : Nat) : Int) ≤ (((List.length r0.1.1) : Nat) : Int)))) then
     (F49 (List.drop (Int.toNat (IntKind.wrap .i64 ((0 : Int) - a1))) (List.take (Int.toNat (((List.length r0.1.1) : Nat) : Int)) r0.1.1))).bind fun r1 =>
     some ((r1.1.1, ()), ())
    else
     none
   else
    F57_J6 a1 r0.1.1 := (callI_code (fn := Try.f57) (h := h57) (by kernel_rfl)).trans (by kernel_rfl)
theorem F57_J6_eq (x0 : Int) (x1 : List (Bool)) : F57_J6 x0 x1 =
 if (((0 : Int) ≤ x0) ∧ (x0 ≤ x0)) then
  if (((Int.toNat x0) * 1) ≤ 281474976710656) then
   if ((((List.length (List.replicate (Int.toNat x0) false)) + (List.length x1)) * 1) ≤ 140737488355328) then
    (F49 ((List.replicate (Int.toNat x0) false) ++ x1)).bind fun r0 =>
    some ((r0.1.1, ()), ())
   else
    none
  else
   none
 else
  none := partJ_go.trans (by kernel_rfl)
theorem F48_eq (a0 : List (Int)) : F48 a0 =
 F48_L3 a0 (0 : Int) ([] : List Bool) := (callI_code (fn := Try.f48) (h := h48) (by kernel_rfl)).trans (by kernel_rfl)
theorem F48_L3_eq (x0 : List (Int)) (x1 : Int) (x2 : List (Bool)) : F48_L3 x0 x1 x2 =
 if ((decide (x1 < (((List.length x0) : Nat) : Int))) = true) then
  F48_J5 x0 x1 x2
 else
  F48_L11 x2 := partL_go.trans (loopI_eq.trans (by kernel_rfl))
theorem F48_J5_eq (x0 : List (Int)) (x1 : Int) (x2 : List (Bool)) : F48_J5 x0 x1 x2 =
 if ((0 : Int) ≤ x1) then
  if (x1 < (((List.length x0) : Nat) : Int)) then
   F48_L7 x0 x1 (List.getD x0 (Int.toNat x1) (0 : Int)) (0 : Int) x2
  else
   none
 else
  none := partJ_go.trans (by kernel_rfl)
theorem F48_L11_eq (x0 : List (Bool)) : F48_L11 x0 =
 if ((decide ((((List.length x0) : Nat) : Int) > (0 : Int))) = true) then
  if ((0 : Int) ≤ (IntKind.wrap .i64 ((((List.length x0) : Nat) : Int) - (1 : Int)))) then
   if ((IntKind.wrap .i64 ((((List.length x0) : Nat) : Int) - (1 : Int))) < (((List.length x0) : Nat) : Int)) then
    if ((!(List.getD x0 (Int.toNat (IntKind.wrap .i64 ((((List.length x0) : Nat) : Int) - (1 : Int)))) false)) = true) then
     F48_J12 x0
    else
     F48_J13 x0
   else
    none
  else
   none
 else
  F48_J13 x0 := partL_go.trans (loopI_eq.trans (by kernel_rfl))
theorem F48_L7_eq (x0 : List (Int)) (x1 : Int) (x2 : Int) (x3 : Int) (x4 : List (Bool)) : F48_L7 x0 x1 x2 x3 x4 =
 if ((decide (x3 < (16 : Int))) = true) then
  F48_J9 x0 x1 x2 x3 x4
 else
  F48_J4 x0 x1 x4 := partL_go.trans (loopI_eq.trans (by kernel_rfl))
theorem F48_J12_eq (x0 : List (Bool)) : F48_J12 x0 =
 if (((0 : Int) ≤ (0 : Int)) ∧ (((0 : Int) ≤ (IntKind.wrap .i64 ((((List.length x0) : Nat) : Int) - (1 : Int)))) ∧ ((IntKind.wrap .i64 ((((List.length x0) : Nat) : Int) - (1 : Int))) ≤ (((List.length x0) : Nat) : Int)))) then
  F48_L11_1 (List.drop 0 (List.take (Int.toNat (IntKind.wrap .i64 ((((List.length x0) : Nat) : Int) - (1 : Int)))) x0))
 else
  none := partJ_go.trans (by kernel_rfl)
theorem F48_J13_eq (x0 : List (Bool)) : F48_J13 x0 =
 some ((x0, ()), ()) := partJ_go.trans (by kernel_rfl)
theorem F48_J9_eq (x0 : List (Int)) (x1 : Int) (x2 : Int) (x3 : Int) (x4 : List (Bool)) : F48_J9 x0 x1 x2 x3 x4 =
 if ((((List.length x4) + (List.length (((Int.tmod x2 (2 : Int)) == (1 : Int)) :: ([] : List Bool)))) * 1) ≤ 140737488355328) then
  F48_L7 x0 x1 (quoI .i64 x2 (2 : Int)) (IntKind.wrap .i64 (x3 + (1 : Int))) (x4 ++ (((Int.tmod x2 (2 : Int)) == (1 : Int)) :: ([] : List Bool)))
 else
  none := partJ_go.trans (by kernel_rfl)
theorem F48_J4_eq (x0 : List (Int)) (x1 : Int) (x2 : List (Bool)) : F48_J4 x0 x1 x2 =
 F48_L3 x0 (IntKind.wrap .i64 (x1 + (1 : Int))) x2 := partJ_go.trans (by kernel_rfl)
theorem F48_L11_1_eq (x0 : List (Bool)) : F48_L11_1 x0 =
 if ((decide ((((List.length x0) : Nat) : Int) > (0 : Int))) = true) then
  if ((0 : Int) ≤ (IntKind.wrap .i64 ((((List.length x0) : Nat) : Int) - (1 : Int)))) then
   if ((IntKind.wrap .i64 ((((List.length x0) : Nat) : Int) - (1 : Int))) < (((List.length x0) : Nat) : Int)) then
    if ((!(List.getD x0 (Int.toNat (IntKind.wrap .i64 ((((List.length x0) : Nat) : Int) - (1 : Int)))) false)) = true) then
     F48_J12_1 x0
    else
     F48_J13_1 x0
   else
    none
  else
   none
 else
  F48_J13_1 x0 := partL_go.trans (loopI_eq.trans (by kernel_rfl))
theorem F48_J12_1_eq (x0 : List (Bool)) : F48_J12_1 x0 =
 if (((0 : Int) ≤ (0 : Int)) ∧ (((0 : Int) ≤ (IntKind.wrap .i64 ((((List.length x0) : Nat) : Int) - (1 : Int)))) ∧ ((IntKind.wrap .i64 ((((List.length x0) : Nat) : Int) - (1 : Int))) ≤ (((List.length x0) : Nat) : Int)))) then
  F48_L11_1 (List.drop 0 (List.take (Int.toNat (IntKind.wrap .i64 ((((List.length x0) : Nat) : Int) - (1 : Int)))) x0))
 else
  none := partJ_go.trans (by kernel_rfl)
theorem F48_J13_1_eq (x0 : List (Bool)) : F48_J13_1 x0 =
 some ((x0, ()), ()) := partJ_go.trans (by kernel_rfl)
theorem F58_eq (a0 : Int) : F58 a0 =
 F58_L2 a0 ([] : List Int) := (callI_code (fn := Try.f58) (h := h58) (by kernel_rfl)).trans (by kernel_rfl)
theorem F58_L2_eq (x0 : Int) (x1 : List (Int)) : F58_L2 x0 x1 =
 if ((decide (x0 > (0 : Int))) = true) then
  F58_J4 x0 x1
 else
  F58_J5 x1 := partL_go.trans (loopI_eq.trans (by kernel_rfl))
theorem F58_J4_eq (x0 : Int) (x1 : List (Int)) : F58_J4 x0 x1 =
 if ((((List.length x1) + (List.length ((Int.tmod x0 (65536 : Int)) :: ([] : List Int)))) * 8) ≤ 140737488355328) then
  F58_L2 (quoI .i64 x0 (65536 : Int)) (x1 ++ ((Int.tmod x0 (65536 : Int)) :: ([] : List Int)))
 else
  none := partJ_go.trans (by kernel_rfl)
theorem F58_J5_eq (x0 : List (Int)) : F58_J5 x0 =
 some ((x0, ()), ()) := partJ_go.trans (by kernel_rfl)
theorem F54_eq (a0 : List (Int)) (a1 : List (Int)) : F54 a0 a1 =
 F54_L4 a0 a1 (0 : Int) (0 : Int) ([] : List Int) := (callI_code (fn := Try.f54) (h := h54) (by kernel_rfl)).trans (by kernel_rfl)
theorem F54_L4_eq (x0 : List (Int)) (x1 : List (Int)) (x2 : Int) (x3 : Int) (x4 : List (Int)) : F54_L4 x0 x1 x2 x3 x4 =
 if ((decide (x3 < (((List.length x0) : Nat) : Int))) = true) then
  F54_J6 x0 x1 x2 x3 x4
 else
  F54_J14 x4 := partL_go.trans (loopI_eq.trans (by kernel_rfl))
theorem F54_J6_eq (x0 : List (Int)) (x1 : List (Int)) (x2 : Int) (x3 : Int) (x4 : List (Int)) : F54_J6 x0 x1 x2 x3 x4 =
 if ((0 : Int) ≤ x3) then
  if (x3 < (((List.length x0) : Nat) : Int)) then
   if ((decide (x3 < (((List.length x1) : Nat) : Int))) = true) then
    if ((0 : Int) ≤ x3) then
     if (x3 < (((List.length x1) : Nat) : Int)) then
      F54_J9 x0 x1 x3 (IntKind.wrap .i64 ((IntKind.wrap .i64 ((List.getD x0 (Int.toNat x3) (0 : Int)) - x2)) - (List.getD x1 (Int.toNat x3) (0 : Int)))) x4
     else
      none
    else
     none
   else
    F54_J9 x0 x1 x3 (IntKind.wrap .i64 ((List.getD x0 (Int.toNat x3) (0 : Int)) - x2)) x4
  else
   none
 else
  none := partJ_go.trans (by kernel_rfl)
theorem F54_J14_eq (x0 : List (Int)) : F54_J14 x0 =
 (F65 x0).bind fun r0 =>
 some ((r0.1.1, ()), ()) := partJ_go.trans (by kernel_rfl)
theorem F54_J9_eq (x0 : List (Int)) (x1 : List (Int)) (x2 : Int) (x3 : Int) (x4 : List (Int)) : F54_J9 x0 x1 x2 x3 x4 =
 if ((decide (x3 < (0 : Int))) = true) then
  F54_J13 x0 x1 (1 : Int) x2 (IntKind.wrap .i64 (x3 + (65536 : Int))) x4
 else
  F54_J13 x0 x1 (0 : Int) x2 x3 x4 := partJ_go.trans (by kernel_rfl)
theorem F54_J13_eq (x0 : List (Int)) (x1 : List (Int)) (x2 : Int) (x3 : Int) (x4 : Int) (x5 : List (Int)) : F54_J13 x0 x1 x2 x3 x4 x5 =
 if ((((List.length x5) + (List.length (x4 :: ([] : List Int)))) * 8) ≤ 140737488355328) then
  F54_J5 x0 x1 x2 x3 (x5 ++ (x4 :: ([] : List Int)))
 else
  none := partJ_go.trans (by kernel_rfl)
theorem F54_J5_eq (x0 : List (Int)) (x1 : List (Int)) (x2 : Int) (x3 : Int) (x4 : List (Int)) : F54_J5 x0 x1 x2 x3 x4 =
 F54_L4 x0 x1 x2 (IntKind.wrap .i64 (x3 + (1 : Int))) x4 := partJ_go.trans (by kernel_rfl)
theorem F53_eq (a0 : List (Int)) (a1 : List (Int)) : F53 a0 a1 =
 F53_L4 a0 a1 (0 : Int) (0 : Int) ([] : List Int) := (callI_code (fn := Try.f53) (h := h53) (by kernel_rfl)).trans (by kernel_rfl)
theorem F53_L4_eq (x0 : List (Int)) (x1 : List (Int)) (x2 : Int) (x3 : Int) (x4 : List (Int)) : F53_L4 x0 x1 x2 x3 x4 =
 if ((decide (x3 < (((List.length x0) : Nat) : Int))) = true) then
  F53_J6 x0 x1 x2 x3 x4
 else
  if ((decide (x3 < (((List.length x1) : Nat) : Int))) = true) then
   F53_J6 x0 x1 x2 x3 x4
  else
   if ((decide (x2 > (0 : Int))) = true) then
    F53_J6 x0 x1 x2 x3 x4
   else
    F53_J12 x4 := partL_go.trans (loopI_eq.trans (by kernel_rfl))
theorem F53_J6_eq (x0 : List (Int)) (x1 : List (Int)) (x2 : Int) (x3 : Int) (x4 : List (Int)) : F53_J6 x0 x1 x2 x3 x4 =
 if ((decide (x3 < (((List.length x0) : Nat) : Int))) = true) then
  if ((0 : Int) ≤ x3) then
   if (x3 < (((List.length x0) : Nat) : Int)) then
    F53_J8 x0 x1 (IntKind.wrap .i64 (x2 + (List.getD x0 (Int.toNat x3) (0 : Int)))) x3 x4
   else
    none
  else
   none
 else
  F53_J8 x0 x1 x2 x3 x4 := partJ_go.trans (by kernel_rfl)
theorem F53_J12_eq (x0 : List (Int)) : F53_J12 x0 =
 (F65 x0).bind fun r0 =>
 some ((r0.1.1, ()), ()) := partJ_go.trans (by kernel_rfl)
theorem F53_J8_eq (x0 : List (Int)) (x1 : List (Int)) (x2 : Int) (x3 : Int) (x4 : List (Int)) : F53_J8 x0 x1 x2 x3 x4 =
 if ((decide (x3 < (((List.length x1) : Nat) : Int))) = true) then
  if ((0 : Int) ≤ x3) then
   if (x3 < (((List.length x1) : Nat) : Int)) then
    F53_J10 x0 x1 (IntKind.wrap .i64 (x2 + (List.getD x1 (Int.toNat x3) (0 : Int)))) x3 x4
   else
    none
  else
   none
 else
  F53_J10 x0 x1 x2 x3 x4 := partJ_go.trans (by kernel_rfl)
theorem F53_J10_eq (x0 : List (Int)) (x1 : List (Int)) (x2 : Int) (x3 : Int) (x4 : List (Int)) : F53_J10 x0 x1 x2 x3 x4 =
 if ((((List.length x4) + (List.length ((Int.tmod x2 (65536 : Int)) :: ([] : List Int)))) * 8) ≤ 140737488355328) then
  F53_J5 x0 x1 (quoI .i64 x2 (65536 : Int)) x3 (x4 ++ ((Int.tmod x2 (65536 : Int)) :: ([] : List Int)))
 else
  none := partJ_go.trans (by kernel_rfl)
theorem F53_J5_eq (x0 : List (Int)) (x1 : List (Int)) (x2 : Int) (x3 : Int) (x4 : List (Int)) : F53_J5 x0 x1 x2 x3 x4 =
 F53_L4 x0 x1 x2 (IntKind.wrap .i64 (x3 + (1 : Int))) x4 := partJ_go.trans (by kernel_rfl)
theorem F34_eq (a0 : List (Int)) : F34 a0 =
 F34_L3 a0 (0 : Int) ([] : List Int) := (callI_code (fn := Try.f34) (h := h34) (by kernel_rfl)).trans (by kernel_rfl)
theorem F34_L3_eq (x0 : List (Int)) (x1 : Int) (x2 : List (Int)) : F34_L3 x0 x1 x2 =
 if ((decide (x1 < (((List.length x0) : Nat) : Int))) = true) then
  F34_J5 x0 x1 x2
 else
  F34_J9 x2 := partL_go.trans (loopI_eq.trans (by kernel_rfl))
theorem F34_J5_eq (x0 : List (Int)) (x1 : Int) (x2 : List (Int)) : F34_J5 x0 x1 x2 =
 if ((0 : Int) ≤ x1) then
  if (x1 < (((List.length x0) : Nat) : Int)) then
   if ((decide ((IntKind.wrap .i64 (x1 + (1 : Int))) < (((List.length x0) : Nat) : Int))) = true) then
    if ((0 : Int) ≤ (IntKind.wrap .i64 (x1 + (1 : Int)))) then
     if ((IntKind.wrap .i64 (x1 + (1 : Int))) < (((List.length x0) : Nat) : Int)) then
      F34_J8 x0 x1 (IntKind.wrap .u32 ((IntKind.wrap .u32 (List.getD x0 (Int.toNat x1) (0 : Int))) + (IntKind.wrap .u32 ((IntKind.wrap .u32 (List.getD x0 (Int.toNat (IntKind.wrap .i64 (x1 + (1 : Int)))) (0 : Int))) * (65536 : Int))))) x2
     else
      none
    else
     none
   else
    F34_J8 x0 x1 (IntKind.wrap .u32 (List.getD x0 (Int.toNat x1) (0 : Int))) x2
  else
   none
 else
  none := partJ_go.trans (by kernel_rfl)
theorem F34_J9_eq (x0 : List (Int)) : F34_J9 x0 =
 some ((x0, ()), ()) := partJ_go.trans (by kernel_rfl)
theorem F34_J8_eq (x0 : List (Int)) (x1 : Int) (x2 : Int) (x3 : List (Int)) : F34_J8 x0 x1 x2 x3 =
 if ((((List.length x3) + (List.length (x2 :: ([] : List Int)))) * 4) ≤ 140737488355328) then
  F34_J4 x0 x1 (x3 ++ (x2 :: ([] : List Int)))
 else
  none := partJ_go.trans (by kernel_rfl)
theorem F34_J4_eq (x0 : List (Int)) (x1 : Int) (x2 : List (Int)) : F34_J4 x0 x1 x2 =
 F34_L3 x0 (IntKind.wrap .i64 (x1 + (2 : Int))) x2 := partJ_go.trans (by kernel_rfl)
theorem F10_eq (a0 : (Int × Int)) (a1 : Int) : F10 a0 a1 =
 (F39 a0).bind fun r0 =>
 match r0.1.1 with
 | none =>
  if ((r0.1.2.1.1 != (0 : Int)) = true) then
   some ((((0 : Int), (0 : Int)), (r0.1.2.1, ())), ())
  else
   F10_J4 a1 a0.1 a0.2 (0 : Int) (0 : Int) (0 : Int) (0 : Int)
 | some y1 =>
  if ((r0.1.2.1.1 != (0 : Int)) = true) then
   some ((((0 : Int), (0 : Int)), (r0.1.2.1, ())), ())
  else
   F10_J4 a1 a0.1 a0.2 (0 : Int) (0 : Int) (0 : Int) (0 : Int) := (callI_code (fn := Try.f10) (h := h10) (by kernel_rfl)).trans (by kernel_rfl)
theorem F10_J4_eq (x0 : Int) (x1 : Int) (x2 : Int) (x3 : Int) (x4 : Int) (x5 : Int) (x6 : Int) : F10_J4 x0 x1 x2 x3 x4 x5 x6 =
 F10_L6 x0 (1 : Int) (0 : Int) (6364136223846793005 : Int) x2 x1 x2 x3 x4 x5 x6 := partJ_go.trans (by kernel_rfl)
theorem F10_L6_eq (x0 : Int) (x1 : Int) (x2 : Int) (x3 : Int) (x4 : Int) (x5 : Int) (x6 : Int) (x7 : Int) (x8 : Int) (x9 : Int) (x10 : Int) : F10_L6 x0 x1 x2 x3 x4 x5 x6 x7 x8 x9 x10 =
 if ((decide (x0 > (0 : Int))) = true) then
  F10_J8 x0 x1 x2 x3 x4 x5 x6 x7 x8 x9 x10
 else
  F10_J11 x1 x2 x5 x6 x7 x8 x9 x10 := partL_go.trans (loopI_eq.trans (by kernel_rfl))
theorem F10_J8_eq (x0 : Int) (x1 : Int) (x2 : Int) (x3 : Int) (x4 : Int) (x5 : Int) (x6 : Int) (x7 : Int) (x8 : Int) (x9 : Int) (x10 : Int) : F10_J8 x0 x1 x2 x3 x4 x5 x6 x7 x8 x9 x10 =
 if (((bitI .and .u64 x0 (1 : Int)) == (1 : Int)) = true) then
  F10_J10 x0 (IntKind.wrap .u64 (x1 * x3)) (IntKind.wrap .u64 ((IntKind.wrap .u64 (x2 * x3)) + x4)) x3 x4 x5 x6 x7 x8 x9 x10
 else
  F10_J10 x0 x1 x2 x3 x4 x5 x6 x7 x8 x9 x10 := partJ_go.trans (by kernel_rfl)
theorem F10_J11_eq (x0 : Int) (x1 : Int) (x2 : Int) (x3 : Int) (x4 : Int) (x5 : Int) (x6 : Int) (x7 : Int) : F10_J11 x0 x1 x2 x3 x4 x5 x6 x7 =
 some ((((IntKind.wrap .u64 ((IntKind.wrap .u64 (x2 * x0)) + x1)), x3), (((0 : Int), (0 : Int)), ())), ()) := partJ_go.trans (by kernel_rfl)
theorem F10_J10_eq (x0 : Int) (x1 : Int) (x2 : Int) (x3 : Int) (x4 : Int) (x5 : Int) (x6 : Int) (x7 : Int) (x8 : Int) (x9 : Int) (x10 : Int) : F10_J10 x0 x1 x2 x3 x4 x5 x6 x7 x8 x9 x10 =
 F10_J7 x0 x1 x2 (IntKind.wrap .u64 (x3 * x3)) (IntKind.wrap .u64 ((IntKind.wrap .u64 (x4 * x3)) + x4)) x5 x6 x7 x8 x9 x10 := partJ_go.trans (by kernel_rfl)
theorem F10_J7_eq (x0 : Int) (x1 : Int) (x2 : Int) (x3 : Int) (x4 : Int) (x5 : Int) (x6 : Int) (x7 : Int) (x8 : Int) (x9 : Int) (x10 : Int) : F10_J7 x0 x1 x2 x3 x4 x5 x6 x7 x8 x9 x10 =
 F10_L6 (shrI .u64 x0 1) x1 x2 x3 x4 x5 x6 x7 x8 x9 x10 := partJ_go.trans (by kernel_rfl)
theorem F12_eq (a0 : (Bool × List (Int))) : F12 a0 =
 if ((decide ((((List.length a0.2) : Nat) : Int) ≤ (128 : Int))) = true) then
  if (((((List.length a0.2) : Nat) : Int) == (0 : Int)) = true) then
   if ((!a0.1) = true) then
    some ((true, ()), ())
   else
    if ((decide ((((List.length a0.2) : Nat) : Int) > (0 : Int))) = true) then
     if ((0 : Int) ≤ (IntKind.wrap .i64 ((((List.length a0.2) : Nat) : Int) - (1 : Int)))) then
      if ((IntKind.wrap .i64 ((((List.length a0.2) : Nat) : Int) - (1 : Int))) < (((List.length a0.2) : Nat) : Int)) then
       some ((((List.getD a0.2 (Int.toNat (IntKind.wrap .i64 ((((List.length a0.2) : Nat) : Int) - (1 : Int)))) (0 : Int)) != (0 : Int)), ()), ())
      else
       none
     else
      none
    else
     some ((false, ()), ())
  else
   if ((decide ((((List.length a0.2) : Nat) : Int) > (0 : Int))) = true) then
    if ((0 : Int) ≤ (IntKind.wrap .i64 ((((List.length a0.2) : Nat) : Int) - (1 : Int)))) then
     if ((IntKind.wrap .i64 ((((List.length a0.2) : Nat) : Int) - (1 : Int))) < (((List.length a0.2) : Nat) : Int)) then
      some ((((List.getD a0.2 (Int.toNat (IntKind.wrap .i64 ((((List.length a0.2) : Nat) : Int) - (1 : Int)))) (0 : Int)) != (0 : Int)), ()), ())
     else
      none
    else
     none
   else
    some ((false, ()), ())
 else
  some ((false, ()), ()) := (callI_code (fn := Try.f12) (h := h12) (by kernel_rfl)).trans (by kernel_rfl)
theorem F20_eq (a0 : (Bool × List (Int))) : F20 a0 =
 (F50 a0.2).bind fun r0 =>
 some (((a0.1, r0.1.1), ()), ()) := (callI_code (fn := Try.f20) (h := h20) (by kernel_rfl)).trans (by kernel_rfl)
theorem F50_eq (a0 : List (Int)) : F50 a0 =
 F50_L3 a0 (0 : Int) ([] : List Int) := (callI_code (fn := Try.f50) (h := h50) (by kernel_rfl)).trans (by kernel_rfl)
theorem F50_L3_eq (x0 : List (Int)) (x1 : Int) (x2 : List (Int)) : F50_L3 x0 x1 x2 =
 if ((decide (x1 < (((List.length x0) : Nat) : Int))) = true) then
  F50_J5 x0 x1 x2
 else
  F50_J6 x2 := partL_go.trans (loopI_eq.trans (by kernel_rfl))
theorem F50_J5_eq (x0 : List (Int)) (x1 : Int) (x2 : List (Int)) : F50_J5 x0 x1 x2 =
 if ((0 : Int) ≤ x1) then
  if (x1 < (((List.length x0) : Nat) : Int)) then
   if ((0 : Int) ≤ x1) then
    if (x1 < (((List.length x0) : Nat) : Int)) then
     if ((((List.length x2) + (List.length ((IntKind.wrap .i64 (Int.tmod (List.getD x0 (Int.toNat x1) (0 : Int)) (65536 : Int))) :: ((IntKind.wrap .i64 (quoI .u32 (List.getD x0 (Int.toNat x1) (0 : Int)) (65536 : Int))) :: ([] : List Int))))) * 8) ≤ 140737488355328) then
      F50_L3 x0 (IntKind.wrap .i64 (x1 + (1 : Int))) (x2 ++ ((IntKind.wrap .i64 (Int.tmod (List.getD x0 (Int.toNat x1) (0 : Int)) (65536 : Int))) :: ((IntKind.wrap .i64 (quoI .u32 (List.getD x0 (Int.toNat x1) (0 : Int)) (65536 : Int))) :: ([] : List Int))))
     else
      none
    else
     none
   else
    none
  else
   none
 else
  none := partJ_go.trans (by kernel_rfl)
theorem F50_J6_eq (x0 : List (Int)) : F50_J6 x0 =
 (F65 x0).bind fun r0 =>
 some ((r0.1.1, ()), ()) := partJ_go.trans (by kernel_rfl)
theorem F22_eq (a0 : (Bool × List (Int))) (a1 : (Bool × List (Int))) : F22 a0 a1 =
 if (a0.1 = true) then
  if (a1.1 = true) then
   F22_J2 (decide ((((List.length a0.2) : Nat) : Int) > (0 : Int))) (decide ((((List.length a1.2) : Nat) : Int) > (0 : Int))) a0.1 a0.2 a1.1 a1.2
  else
   F22_J2 (decide ((((List.length a0.2) : Nat) : Int) > (0 : Int))) false a0.1 a0.2 a1.1 a1.2
 else
  if (a1.1 = true) then
   F22_J2 false (decide ((((List.length a1.2) : Nat) : Int) > (0 : Int))) a0.1 a0.2 a1.1 a1.2
  else
   F22_J2 false false a0.1 a0.2 a1.1 a1.2 := (callI_code (fn := Try.f22) (h := h22) (by kernel_rfl)).trans (by kernel_rfl)
theorem F22_J2_eq (x0 : Bool) (x1 : Bool) (x2 : Bool) (x3 : List (Int)) (x4 : Bool) (x5 : List (Int)) : F22_J2 x0 x1 x2 x3 x4 x5 =
 if (x0 = true) then
  if (x1 = true) then
   (F52 x5 x3).bind fun r0 =>
   some ((r0.1.1, ()), ())
  else
   if (x0 = true) then
    some (((-1 : Int), ()), ())
   else
    if (x1 = true) then
     some (((1 : Int), ()), ())
    else
     F22_J8 x2 x3 x4 x5
 else
  if (x0 = true) then
   some (((-1 : Int), ()), ())
  else
   if (x1 = true) then
    some (((1 : Int), ()), ())
   else
    F22_J8 x2 x3 x4 x5 := partJ_go.trans (by kernel_rfl)
theorem F22_J8_eq (x0 : Bool) (x1 : List (Int)) (x2 : Bool) (x3 : List (Int)) : F22_J8 x0 x1 x2 x3 =
 (F52 x1 x3).bind fun r0 =>
 some ((r0.1.1, ()), ()) := partJ_go.trans (by kernel_rfl)
theorem F52_eq (a0 : List (Int)) (a1 : List (Int)) : F52 a0 a1 =
 if (((((List.length a0) : Nat) : Int) != (((List.length a1) : Nat) : Int)) = true) then
  if ((decide ((((List.length a0) : Nat) : Int) < (((List.length a1) : Nat) : Int))) = true) then
   some (((-1 : Int), ()), ())
  else
   F52_J4
 else
  F52_J5 a0 a1 := (callI_code (fn := Try.f52) (h := h52) (by kernel_rfl)).trans (by kernel_rfl)
theorem F52_J4_eq : F52_J4 =
 some (((1 : Int), ()), ()) := partJ_go.trans (by kernel_rfl)
theorem F52_J5_eq (x0 : List (Int)) (x1 : List (Int)) : F52_J5 x0 x1 =
 F52_L6 x0 x1 (IntKind.wrap .i64 ((((List.length x0) : Nat) : Int) - (1 : Int))) := partJ_go.trans (by kernel_rfl)
theorem F52_L6_eq (x0 : List (Int)) (x1 : List (Int)) (x2 : Int) : F52_L6 x0 x1 x2 =
 if ((decide (x2 ≥ (0 : Int))) = true) then
  F52_J8 x0 x1 x2
 else
  F52_J12 := partL_go.trans (loopI_eq.trans (by kernel_rfl))
theorem F52_J8_eq (x0 : List (Int)) (x1 : List (Int)) (x2 : Int) : F52_J8 x0 x1 x2 =
 if ((0 : Int) ≤ x2) then
  if (x2 < (((List.length x0) : Nat) : Int)) then
   if ((0 : Int) ≤ x2) then
    if (x2 < (((List.length x1) : Nat) : Int)) then
     if ((decide ((List.getD x0 (Int.toNat x2) (0 : Int)) < (List.getD x1 (Int.toNat x2) (0 : Int)))) = true) then
      some (((-1 : Int), ()), ())
     else
      F52_J10 x0 x1 x2
    else
     none
   else
    none
  else
   none
 else
  none := partJ_go.trans (by kernel_rfl)
theorem F52_J12_eq : F52_J12 =
 some (((0 : Int), ()), ()) := partJ_go.trans (by kernel_rfl)
theorem F52_J10_eq (x0 : List (Int)) (x1 : List (Int)) (x2 : Int) : F52_J10 x0 x1 x2 =
 if ((0 : Int) ≤ x2) then
  if (x2 < (((List.length x0) : Nat) : Int)) then
   if ((0 : Int) ≤ x2) then
    if (x2 < (((List.length x1) : Nat) : Int)) then
     if ((decide ((List.getD x0 (Int.toNat x2) (0 : Int)) > (List.getD x1 (Int.toNat x2) (0 : Int)))) = true) then
      some (((1 : Int), ()), ())
     else
      F52_J7 x0 x1 x2
    else
     none
   else
    none
  else
   none
 else
  none := partJ_go.trans (by kernel_rfl)
theorem F52_J7_eq (x0 : List (Int)) (x1 : List (Int)) (x2 : Int) : F52_J7 x0 x1 x2 =
 F52_L6 x0 x1 (IntKind.wrap .i64 (x2 - (1 : Int))) := partJ_go.trans (by kernel_rfl)
theorem F17_eq (a0 : (Int × Int)) (a1 : (Bool × List (Int))) (a2 : (Bool × List (Int))) : F17 a0 a1 a2 =
 (F39 a0).bind fun r0 =>
 match r0.1.1 with
 | none =>
  if ((r0.1.2.1.1 != (0 : Int)) = true) then
   some (((false, ([] : List Int)), (((0 : Int), (0 : Int)), (r0.1.2.1, ()))), ())
  else
   (F36 a1).bind fun r2 =>
   if ((!r2.1.1) = true) then
    (F37 (6 : Int) (-2 : Int)).bind fun r3 =>
    some (((false, ([] : List Int)), (((0 : Int), (0 : Int)), (r3.1.1, ()))), ())
   else
    (F36 a2).bind fun r4 =>
    if ((!r4.1.1) = true) then
     (F37 (6 : Int) (-3 : Int)).bind fun r5 =>
     some (((false, ([] : List Int)), (((0 : Int), (0 : Int)), (r5.1.1, ()))), ())
    else
     F17_J8 a1.1 a1.2 a2.1 a2.2 false (0 : Int) (0 : Int) (0 : Int) (0 : Int) r0.1.2.1.1 r0.1.2.1.2
 | some y1 =>
  if ((r0.1.2.1.1 != (0 : Int)) = true) then
   some (((false, ([] : List Int)), (((0 : Int), (0 : Int)), (r0.1.2.1, ()))), ())
  else
   (F36 a1).bind fun r6 =>
   if ((!r6.1.1) = true) then
    (F37 (6 : Int) (-2 : Int)).bind fun r7 =>
    some (((false, ([] : List Int)), (((0 : Int), (0 : Int)), (r7.1.1, ()))), ())
   else
    (F36 a2).bind fun r8 =>
    if ((!r8.1.1) = true) then
     (F37 (6 : Int) (-3 : Int)).bind fun r9 =>
     some (((false, ([] : List Int)), (((0 : Int), (0 : Int)), (r9.1.1, ()))), ())
    else
     F17_J8_1 a1.1 a1.2 a2.1 a2.2 false (0 : Int) (0 : Int) (0 : Int) (0 : Int) y1.1 y1.2 r0.1.2.1.1 r0.1.2.1.2 := (callI_code (fn := Try.f17) (h := h17) (by kernel_rfl)).trans (by kernel_rfl)
theorem F17_J8_eq (x0 : Bool) (x1 : List (Int)) (x2 : Bool) (x3 : List (Int)) (x4 : Bool) (x5 : Int) (x6 : Int) (x7 : Int) (x8 : Int) (x9 : Int) (x10 : Int) : F17_J8 x0 x1 x2 x3 x4 x5 x6 x7 x8 x9 x10 =
 (F44 (x2, x3) (x0, x1)).bind fun r0 =>
 if ((decide (r0.1.1 < (0 : Int))) = true) then
  (F37 (4 : Int) (-3 : Int)).bind fun r1 =>
  some (((false, ([] : List Int)), (((0 : Int), (0 : Int)), (r1.1.1, ()))), ())
 else
  F17_J11 x0 x1 x2 x3 x4 x5 x6 x7 x8 x9 x10 := partJ_go.trans (by kernel_rfl)
theorem F17_J8_1_eq (x0 : Bool) (x1 : List (Int)) (x2 : Bool) (x3 : List (Int)) (x4 : Bool) (x5 : Int) (x6 : Int) (x7 : Int) (x8 : Int) (x9 : Int) (x10 : Int) (x11 : Int) (x12 : Int) : F17_J8_1 x0 x1 x2 x3 x4 x5 x6 x7 x8 x9 x10 x11 x12 =
 (F44 (x2, x3) (x0, x1)).bind fun r0 =>
 if ((decide (r0.1.1 < (0 : Int))) = true) then
  (F37 (4 : Int) (-3 : Int)).bind fun r1 =>
  some (((false, ([] : List Int)), (((0 : Int), (0 : Int)), (r1.1.1, ()))), ())
 else
  F17_J11_1 x0 x1 x2 x3 x4 x5 x6 x7 x8 x9 x10 x11 x12 := partJ_go.trans (by kernel_rfl)
theorem F17_J11_eq (x0 : Bool) (x1 : List (Int)) (x2 : Bool) (x3 : List (Int)) (x4 : Bool) (x5 : Int) (x6 : Int) (x7 : Int) (x8 : Int) (x9 : Int) (x10 : Int) : F17_J11 x0 x1 x2 x3 x4 x5 x6 x7 x8 x9 x10 =
 (F45 (x2, x3) (x0, x1)).bind fun r0 =>
 if ((r0.1.2.1.1 == (0 : Int)) = true) then
  (F47 (1 : Int)).bind fun r1 =>
  (F46 r0.1.1 r1.1.1).bind fun r2 =>
  F17_J14 x0 x1 x4 x5 x6 x7 x8 r2.1.2.1.1 r2.1.2.1.2 r2.1.1.1 r2.1.1.2
 else
  F17_J14 x0 x1 x4 x5 x6 x7 x8 r0.1.2.1.1 r0.1.2.1.2 r0.1.1.1 r0.1.1.2 := partJ_go.trans (by kernel_rfl)
theorem F17_J11_1_eq (x0 : Bool) (x1 : List (Int)) (x2 : Bool) (x3 : List (Int)) (x4 : Bool) (x5 : Int) (x6 : Int) (x7 : Int) (x8 : Int) (x9 : Int) (x10 : Int) (x11 : Int) (x12 : Int) : F17_J11_1 x0 x1 x2 x3 x4 x5 x6 x7 x8 x9 x10 x11 x12 =
 (F45 (x2, x3) (x0, x1)).bind fun r0 =>
 if ((r0.1.2.1.1 == (0 : Int)) = true) then
  (F47 (1 : Int)).bind fun r1 =>
  (F46 r0.1.1 r1.1.1).bind fun r2 =>
  F17_J14_1 x0 x1 x4 x5 x6 x7 x8 x9 x10 r2.1.2.1.1 r2.1.2.1.2 r2.1.1.1 r2.1.1.2
 else
  F17_J14_1 x0 x1 x4 x5 x6 x7 x8 x9 x10 r0.1.2.1.1 r0.1.2.1.2 r0.1.1.1 r0.1.1.2 := partJ_go.trans (by kernel_rfl)
theorem F17_J14_eq (x0 : Bool) (x1 : List (Int)) (x2 : Bool) (x3 : Int) (x4 : Int) (x5 : Int) (x6 : Int) (x7 : Int) (x8 : Int) (x9 : Bool) (x10 : List (Int)) : F17_J14 x0 x1 x2 x3 x4 x5 x6 x7 x8 x9 x10 =
 if ((x7 != (0 : Int)) = true) then
  (F37 (14 : Int) (-3 : Int)).bind fun r0 =>
  some (((false, ([] : List Int)), (((0 : Int), (0 : Int)), (r0.1.1, ()))), ())
 else
  F17_J16 x0 x1 x2 x3 x4 x5 x6 x9 x10 := partJ_go.trans (by kernel_rfl)
theorem F17_J14_1_eq (x0 : Bool) (x1 : List (Int)) (x2 : Bool) (x3 : Int) (x4 : Int) (x5 : Int) (x6 : Int) (x7 : Int) (x8 : Int) (x9 : Int) (x10 : Int) (x11 : Bool) (x12 : List (Int)) : F17_J14_1 x0 x1 x2 x3 x4 x5 x6 x7 x8 x9 x10 x11 x12 =
 if ((x9 != (0 : Int)) = true) then
  (F37 (14 : Int) (-3 : Int)).bind fun r0 =>
  some (((false, ([] : List Int)), (((0 : Int), (0 : Int)), (r0.1.1, ()))), ())
 else
  F17_J16_1 x0 x1 x2 x3 x4 x5 x6 x7 x8 x11 x12 := partJ_go.trans (by kernel_rfl)
theorem F17_J16_eq (x0 : Bool) (x1 : List (Int)) (x2 : Bool) (x3 : Int) (x4 : Int) (x5 : Int) (x6 : Int) (x7 : Bool) (x8 : List (Int)) : F17_J16 x0 x1 x2 x3 x4 x5 x6 x7 x8 =
 none := partJ_go.trans (by kernel_rfl)
theorem F17_J16_1_eq (x0 : Bool) (x1 : List (Int)) (x2 : Bool) (x3 : Int) (x4 : Int) (x5 : Int) (x6 : Int) (x7 : Int) (x8 : Int) (x9 : Bool) (x10 : List (Int)) : F17_J16_1 x0 x1 x2 x3 x4 x5 x6 x7 x8 x9 x10 =
 (F43 (x7, x8) (x9, x10)).bind fun r0 =>
 (F46 (x0, x1) r0.1.1).bind fun r1 =>
 some ((r1.1.1, (r0.2.1, (((0 : Int), (0 : Int)), ()))), ()) := partJ_go.trans (by kernel_rfl)
theorem F46_eq (a0 : (Bool × List (Int))) (a1 : (Bool × List (Int))) : F46 a0 a1 =
 (F62 (a0 :: (a1 :: []))).bind fun r0 =>
 if ((r0.1.1.1 != (0 : Int)) = true) then
  some (((false, ([] : List Int)), (r0.1.1, ())), ())
 else
  F46_J4 a0.1 a0.2 a1.1 a1.2 false (0 : Int) (0 : Int) := (callI_code (fn := Try.f46) (h := h46) (by kernel_rfl)).trans (by kernel_rfl)
theorem F46_J4_eq (x0 : Bool) (x1 : List (Int)) (x2 : Bool) (x3 : List (Int)) (x4 : Bool) (x5 : Int) (x6 : Int) : F46_J4 x0 x1 x2 x3 x4 x5 x6 =
 (F64 (x0, x1) (x2, x3)).bind fun r0 =>
 some ((r0.1.1, (r0.1.2.1, ())), ()) := partJ_go.trans (by kernel_rfl)
theorem F35_eq (a0 : List ((Bool × List (Int)))) : F35 a0 =
 F35_L2 a0 (0 : Int) (0 : Int) (0 : Int) := (callI_code (fn := Try.f35) (h := h35) (by kernel_rfl)).trans (by kernel_rfl)
theorem F35_L2_eq (x0 : List ((Bool × List (Int)))) (x1 : Int) (x2 : Int) (x3 : Int) : F35_L2 x0 x1 x2 x3 =
 if ((decide (x1 < (((List.length x0) : Nat) : Int))) = true) then
  F35_J4 x0 x1 x2 x3
 else
  F35_J6 x2 x3 := partL_go.trans (loopI_eq.trans (by kernel_rfl))
theorem F35_J4_eq (x0 : List ((Bool × List (Int)))) (x1 : Int) (x2 : Int) (x3 : Int) : F35_J4 x0 x1 x2 x3 =
 if ((0 : Int) ≤ x1) then
  if (x1 < (((List.length x0) : Nat) : Int)) then
   (F12 (List.getD x0 (Int.toNat x1) (false, ([] : List (Int))))).bind fun r0 =>
   if ((!r0.1.1) = true) then
    (F59 (6 : Int) (IntKind.wrap .i64 ((-1 : Int) - x1))).bind fun r1 =>
    some ((r1.1.1, ()), ())
   else
    F35_J3 x0 x1 x2 x3
  else
   none
 else
  none := partJ_go.trans (by kernel_rfl)
theorem F35_J6_eq (x0 : Int) (x1 : Int) : F35_J6 x0 x1 =
 some ((((0 : Int), (0 : Int)), ()), ()) := partJ_go.trans (by kernel_rfl)
theorem F35_J3_eq (x0 : List ((Bool × List (Int)))) (x1 : Int) (x2 : Int) (x3 : Int) : F35_J3 x0 x1 x2 x3 =
 F35_L2 x0 (IntKind.wrap .i64 (x1 + (1 : Int))) x2 x3 := partJ_go.trans (by kernel_rfl)
theorem F59_eq (a0 : Int) (a1 : Int) : F59 a0 a1 =
 some (((a0, a1), ()), ()) := (callI_code (fn := Try.f59) (h := h59) (by kernel_rfl)).trans (by kernel_rfl)
theorem F31_eq (a0 : (Int × Int)) (a1 : List (Int)) : F31 a0 a1 =
 (F39 a0).bind fun r0 =>
 match r0.1.1 with
 | none =>
  if ((r0.1.2.1.1 != (0 : Int)) = true) then
   some (((0 : Int), (((0 : Int), (0 : Int)), (r0.1.2.1, ()))), ())
  else
   F31_J4 a1 (0 : Int) (0 : Int) (0 : Int) (0 : Int)
 | some y1 =>
  if ((r0.1.2.1.1 != (0 : Int)) = true) then
   some (((0 : Int), (((0 : Int), (0 : Int)), (r0.1.2.1, ()))), ())
  else
   F31_J4_1 a1 (0 : Int) (0 : Int) (0 : Int) (0 : Int) y1.1 y1.2 := (callI_code (fn := Try.f31) (h := h31) (by kernel_rfl)).trans (by kernel_rfl)
theorem F31_J4_eq (x0 : List (Int)) (x1 : Int) (x2 : Int) (x3 : Int) (x4 : Int) : F31_J4 x0 x1 x2 x3 x4 =
 if ((decide ((((List.length x0) : Nat) : Int) > (1000 : Int))) = true) then
  (F37 (2 : Int) (-2 : Int)).bind fun r0 =>
  some (((0 : Int), (((0 : Int), (0 : Int)), (r0.1.1, ()))), ())
 else
  F31_J6 x0 x1 x2 x3 x4 := partJ_go.trans (by kernel_rfl)
theorem F31_J4_1_eq (x0 : List (Int)) (x1 : Int) (x2 : Int) (x3 : Int) (x4 : Int) (x5 : Int) (x6 : Int) : F31_J4_1 x0 x1 x2 x3 x4 x5 x6 =
 if ((decide ((((List.length x0) : Nat) : Int) > (1000 : Int))) = true) then
  (F37 (2 : Int) (-2 : Int)).bind fun r0 =>
  some (((0 : Int), (((0 : Int), (0 : Int)), (r0.1.1, ()))), ())
 else
  F31_J6_1 x0 x1 x2 x3 x4 x5 x6 := partJ_go.trans (by kernel_rfl)
theorem F31_J6_eq (x0 : List (Int)) (x1 : Int) (x2 : Int) (x3 : Int) (x4 : Int) : F31_J6 x0 x1 x2 x3 x4 =
 F31_L8 x0 (0 : Int) x0 (((List.length x0) : Nat) : Int) (0 : Int) x1 x2 x3 x4 := partJ_go.trans (by kernel_rfl)
theorem F31_J6_1_eq (x0 : List (Int)) (x1 : Int) (x2 : Int) (x3 : Int) (x4 : Int) (x5 : Int) (x6 : Int) : F31_J6_1 x0 x1 x2 x3 x4 x5 x6 =
 F31_L8_1 x0 (0 : Int) x0 (((List.length x0) : Nat) : Int) (0 : Int) x1 x2 x3 x4 x5 x6 := partJ_go.trans (by kernel_rfl)
theorem F31_L8_eq (x0 : List (Int)) (x1 : Int) (x2 : List (Int)) (x3 : Int) (x4 : Int) (x5 : Int) (x6 : Int) (x7 : Int) (x8 : Int) : F31_L8 x0 x1 x2 x3 x4 x5 x6 x7 x8 =
 if ((decide (x4 < x3)) = true) then
  F31_J9 x0 x1 x2 x3 x4 x5 x6 x7 x8
 else
  F31_J14 x0 x1 x5 x6 x7 x8 := partL_go.trans (loopI_eq.trans (by kernel_rfl))
theorem F31_L8_1_eq (x0 : List (Int)) (x1 : Int) (x2 : List (Int)) (x3 : Int) (x4 : Int) (x5 : Int) (x6 : Int) (x7 : Int) (x8 : Int) (x9 : Int) (x10 : Int) : F31_L8_1 x0 x1 x2 x3 x4 x5 x6 x7 x8 x9 x10 =
 if ((decide (x4 < x3)) = true) then
  F31_J9_1 x0 x1 x2 x3 x4 x5 x6 x7 x8 x9 x10
 else
  F31_J14_1 x0 x1 x5 x6 x7 x8 x9 x10 := partL_go.trans (loopI_eq.trans (by kernel_rfl))
theorem F31_J9_eq (x0 : List (Int)) (x1 : Int) (x2 : List (Int)) (x3 : Int) (x4 : Int) (x5 : Int) (x6 : Int) (x7 : Int) (x8 : Int) : F31_J9 x0 x1 x2 x3 x4 x5 x6 x7 x8 =
 if ((0 : Int) ≤ x4) then
  if (x4 < (((List.length x2) : Nat) : Int)) then
   if ((decide ((List.getD x2 (Int.toNat x4) (0 : Int)) < (0 : Int))) = true) then
    (F37 (4 : Int) x4).bind fun r0 =>
    some (((0 : Int), (((0 : Int), (0 : Int)), (r0.1.1, ()))), ())
   else
    if ((decide ((List.getD x2 (Int.toNat x4) (0 : Int)) > (1000000 : Int))) = true) then
     (F37 (4 : Int) x4).bind fun r1 =>
     some (((0 : Int), (((0 : Int), (0 : Int)), (r1.1.1, ()))), ())
    else
     F31_J12 x0 x1 (List.getD x2 (Int.toNat x4) (0 : Int)) x2 x3 x4 x5 x6 x7 x8
  else
   none
 else
  none := partJ_go.trans (by kernel_rfl)
theorem F31_J14_eq (x0 : List (Int)) (x1 : Int) (x2 : Int) (x3 : Int) (x4 : Int) (x5 : Int) : F31_J14 x0 x1 x2 x3 x4 x5 =
 if ((x1 == (0 : Int)) = true) then
  (F37 (10 : Int) (-2 : Int)).bind fun r0 =>
  some (((0 : Int), (((0 : Int), (0 : Int)), (r0.1.1, ()))), ())
 else
  F31_J16 x0 x1 x2 x3 x4 x5 := partJ_go.trans (by kernel_rfl)
theorem F31_J9_1_eq (x0 : List (Int)) (x1 : Int) (x2 : List (Int)) (x3 : Int) (x4 : Int) (x5 : Int) (x6 : Int) (x7 : Int) (x8 : Int) (x9 : Int) (x10 : Int) : F31_J9_1 x0 x1 x2 x3 x4 x5 x6 x7 x8 x9 x10 =
 if ((0 : Int) ≤ x4) then
  if (x4 < (((List.length x2) : Nat) : Int)) then
   if ((decide ((List.getD x2 (Int.toNat x4) (0 : Int)) < (0 : Int))) = true) then
    (F37 (4 : Int) x4).bind fun r0 =>
    some (((0 : Int), (((0 : Int), (0 : Int)), (r0.1.1, ()))), ())
   else
    if ((decide ((List.getD x2 (Int.toNat x4) (0 : Int)) > (1000000 : Int))) = true) then
     (F37 (4 : Int) x4).bind fun r1 =>
     some (((0 : Int), (((0 : Int), (0 : Int)), (r1.1.1, ()))), ())
    else
     F31_J12_1 x0 x1 (List.getD x2 (Int.toNat x4) (0 : Int)) x2 x3 x4 x5 x6 x7 x8 x9 x10
  else
   none
 else
  none := partJ_go.trans (by kernel_rfl)
theorem F31_J14_1_eq (x0 : List (Int)) (x1 : Int) (x2 : Int) (x3 : Int) (x4 : Int) (x5 : Int) (x6 : Int) (x7 : Int) : F31_J14_1 x0 x1 x2 x3 x4 x5 x6 x7 =
 if ((x1 == (0 : Int)) = true) then
  (F37 (10 : Int) (-2 : Int)).bind fun r0 =>
  some (((0 : Int), (((0 : Int), (0 : Int)), (r0.1.1, ()))), ())
 else
  F31_J16_1 x0 x1 x2 x3 x4 x5 x6 x7 := partJ_go.trans (by kernel_rfl)
theorem F31_J12_eq (x0 : List (Int)) (x1 : Int) (x2 : Int) (x3 : List (Int)) (x4 : Int) (x5 : Int) (x6 : Int) (x7 : Int) (x8 : Int) (x9 : Int) : F31_J12 x0 x1 x2 x3 x4 x5 x6 x7 x8 x9 =
 F31_J13 x0 (IntKind.wrap .i64 (x1 + x2)) x3 x4 x5 x6 x7 x8 x9 := partJ_go.trans (by kernel_rfl)
theorem F31_J16_eq (x0 : List (Int)) (x1 : Int) (x2 : Int) (x3 : Int) (x4 : Int) (x5 : Int) : F31_J16 x0 x1 x2 x3 x4 x5 =
 none := partJ_go.trans (by kernel_rfl)
theorem F31_J12_1_eq (x0 : List (Int)) (x1 : Int) (x2 : Int) (x3 : List (Int)) (x4 : Int) (x5 : Int) (x6 : Int) (x7 : Int) (x8 : Int) (x9 : Int) (x10 : Int) (x11 : Int) : F31_J12_1 x0 x1 x2 x3 x4 x5 x6 x7 x8 x9 x10 x11 =
 F31_J13_1 x0 (IntKind.wrap .i64 (x1 + x2)) x3 x4 x5 x6 x7 x8 x9 x10 x11 := partJ_go.trans (by kernel_rfl)
theorem F31_J16_1_eq (x0 : List (Int)) (x1 : Int) (x2 : Int) (x3 : Int) (x4 : Int) (x5 : Int) (x6 : Int) (x7 : Int) : F31_J16_1 x0 x1 x2 x3 x4 x5 x6 x7 =
 (F56 (x6, x7) x1).bind fun r0 =>
 F31_L18 x0 r0.1.1 (0 : Int) x2 x3 x4 x5 r0.2.1.1 r0.2.1.2 := partJ_go.trans (by kernel_rfl)
theorem F31_J13_eq (x0 : List (Int)) (x1 : Int) (x2 : List (Int)) (x3 : Int) (x4 : Int) (x5 : Int) (x6 : Int) (x7 : Int) (x8 : Int) : F31_J13 x0 x1 x2 x3 x4 x5 x6 x7 x8 =
 F31_L8 x0 x1 x2 x3 (IntKind.wrap .i64 (x4 + (1 : Int))) x5 x6 x7 x8 := partJ_go.trans (by kernel_rfl)
theorem F31_J13_1_eq (x0 : List (Int)) (x1 : Int) (x2 : List (Int)) (x3 : Int) (x4 : Int) (x5 : Int) (x6 : Int) (x7 : Int) (x8 : Int) (x9 : Int) (x10 : Int) : F31_J13_1 x0 x1 x2 x3 x4 x5 x6 x7 x8 x9 x10 =
 F31_L8_1 x0 x1 x2 x3 (IntKind.wrap .i64 (x4 + (1 : Int))) x5 x6 x7 x8 x9 x10 := partJ_go.trans (by kernel_rfl)
theorem F31_L18_eq (x0 : List (Int)) (x1 : Int) (x2 : Int) (x3 : Int) (x4 : Int) (x5 : Int) (x6 : Int) (x7 : Int) (x8 : Int) : F31_L18 x0 x1 x2 x3 x4 x5 x6 x7 x8 =
 if ((0 : Int) ≤ x2) then
  if (x2 < (((List.length x0) : Nat) : Int)) then
   if ((decide (x1 ≥ (List.getD x0 (Int.toNat x2) (0 : Int)))) = true) then
    F31_J19 x0 x1 x2 x3 x4 x5 x6 x7 x8
   else
    F31_J21 x2 x3 x4 x5 x6 x7 x8
  else
   none
 else
  none := partL_go.trans (loopI_eq.trans (by kernel_rfl))
theorem F31_J19_eq (x0 : List (Int)) (x1 : Int) (x2 : Int) (x3 : Int) (x4 : Int) (x5 : Int) (x6 : Int) (x7 : Int) (x8 : Int) : F31_J19 x0 x1 x2 x3 x4 x5 x6 x7 x8 =
 if ((0 : Int) ≤ x2) then
  if (x2 < (((List.length x0) : Nat) : Int)) then
   F31_L18 x0 (IntKind.wrap .i64 (x1 - (List.getD x0 (Int.toNat x2) (0 : Int)))) (IntKind.wrap .i64 (x2 + (1 : Int))) x3 x4 x5 x6 x7 x8
  else
   none
 else
  none := partJ_go.trans (by kernel_rfl)
theorem F31_J21_eq (x0 : Int) (x1 : Int) (x2 : Int) (x3 : Int) (x4 : Int) (x5 : Int) (x6 : Int) : F31_J21 x0 x1 x2 x3 x4 x5 x6 =
 some ((x0, ((x5, x6), (((0 : Int), (0 : Int)), ()))), ()) := partJ_go.trans (by kernel_rfl)
theorem F56_eq (a0 : (Int × Int)) (a1 : Int) : F56 a0 a1 =
 (F47 a1).bind fun r0 =>
 (F43 a0 r0.1.1).bind fun r1 =>
 (F67 r1.1.1).bind fun r2 =>
 some ((r2.1.1, ()), (r1.2.1, ())) := (callI_code (fn := Try.f56) (h := h56) (by kernel_rfl)).trans (by kernel_rfl)
theorem F67_eq (a0 : (Bool × List (Int))) : F67 a0 =
 (F62 (a0 :: [])).bind fun r0 =>
 if ((r0.1.1.1 != (0 : Int)) = true) then
  some (((0 : Int), (r0.1.1, ())), ())
 else
  F67_J4 a0.1 a0.2 (0 : Int) (0 : Int) := (callI_code (fn := Try.f67) (h := h67) (by kernel_rfl)).trans (by kernel_rfl)
theorem F67_J4_eq (x0 : Bool) (x1 : List (Int)) (x2 : Int) (x3 : Int) : F67_J4 x0 x1 x2 x3 =
 F67_L6 (0 : Int) x1 (((List.length x1) : Nat) : Int) (0 : Int) x0 x1 x2 x3 := partJ_go.trans (by kernel_rfl)
theorem F67_L6_eq (x0 : Int) (x1 : List (Int)) (x2 : Int) (x3 : Int) (x4 : Bool) (x5 : List (Int)) (x6 : Int) (x7 : Int) : F67_L6 x0 x1 x2 x3 x4 x5 x6 x7 =
 if ((decide (x3 < x2)) = true) then
  F67_J7 x0 x1 x2 x3 x4 x5 x6 x7
 else
  F67_J12 x0 x4 x5 x6 x7 := partL_go.trans (loopI_eq.trans (by kernel_rfl))
theorem F67_J7_eq (x0 : Int) (x1 : List (Int)) (x2 : Int) (x3 : Int) (x4 : Bool) (x5 : List (Int)) (x6 : Int) (x7 : Int) : F67_J7 x0 x1 x2 x3 x4 x5 x6 x7 =
 if ((0 : Int) ≤ x3) then
  if (x3 < (((List.length x1) : Nat) : Int)) then
   if ((decide (x3 > (1 : Int))) = true) then
    (F69 (14 : Int) (-1 : Int)).bind fun r0 =>
    some (((0 : Int), (r0.1.1, ())), ())
   else
    F67_J10 x0 x3 (List.getD x1 (Int.toNat x3) (0 : Int)) x1 x2 x3 x4 x5 x6 x7
  else
   none
 else
  none := partJ_go.trans (by kernel_rfl)
theorem F67_J12_eq (x0 : Int) (x1 : Bool) (x2 : List (Int)) (x3 : Int) (x4 : Int) : F67_J12 x0 x1 x2 x3 x4 =
 if (x1 = true) then
  F67_J15 (IntKind.wrap .i64 ((0 : Int) - (IntKind.wrap .i64 x0))) x1 x2 x3 x4
 else
  F67_J15 (IntKind.wrap .i64 x0) x1 x2 x3 x4 := partJ_go.trans (by kernel_rfl)
theorem F67_J10_eq (x0 : Int) (x1 : Int) (x2 : Int) (x3 : List (Int)) (x4 : Int) (x5 : Int) (x6 : Bool) (x7 : List (Int)) (x8 : Int) (x9 : Int) : F67_J10 x0 x1 x2 x3 x4 x5 x6 x7 x8 x9 =
 if ((IntKind.wrap .i64 ((32 : Int) * x1)) < (0 : Int)) then
  none
 else
  F67_J11 (bitI .or .u64 x0 (shlI .u64 (IntKind.wrap .u64 x2) (Int.toNat (IntKind.wrap .i64 ((32 : Int) * x1))))) x3 x4 x5 x6 x7 x8 x9 := partJ_go.trans (by kernel_rfl)
theorem F67_J15_eq (x0 : Int) (x1 : Bool) (x2 : List (Int)) (x3 : Int) (x4 : Int) : F67_J15 x0 x1 x2 x3 x4 =
 if ((!((decide (x0 < (0 : Int))) == x1)) = true) then
  (F69 (14 : Int) (-1 : Int)).bind fun r0 =>
  some (((0 : Int), (r0.1.1, ())), ())
 else
  F67_J17 x0 x3 x4 := partJ_go.trans (by kernel_rfl)
theorem F67_J11_eq (x0 : Int) (x1 : List (Int)) (x2 : Int) (x3 : Int) (x4 : Bool) (x5 : List (Int)) (x6 : Int) (x7 : Int) : F67_J11 x0 x1 x2 x3 x4 x5 x6 x7 =
 F67_L6 x0 x1 x2 (IntKind.wrap .i64 (x3 + (1 : Int))) x4 x5 x6 x7 := partJ_go.trans (by kernel_rfl)
theorem F67_J17_eq (x0 : Int) (x1 : Int) (x2 : Int) : F67_J17 x0 x1 x2 =
 some ((x0, (((0 : Int), (0 : Int)), ())), ()) := partJ_go.trans (by kernel_rfl)
end Go.AM.RU
