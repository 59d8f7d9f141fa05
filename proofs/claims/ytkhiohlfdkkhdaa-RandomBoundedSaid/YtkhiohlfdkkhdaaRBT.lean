/- The tables of the machine for this program: types, functions, joins. They are the program's. No condition. -/
import Derived.Test.YtkhiohlfdkkhdaaRBA3
import Derived.Test.YtkhiohlfdkkhdaaProg
import Derived.Shelf.Lays2
import Derived.Shelf.RegionOpenPlain
import Derived.WalkKit
import Derived.Deep.LoopGhost
import Derived.Lib.Walk
import Derived.Lib.SliceRun
set_option linter.unusedVariables false
set_option maxRecDepth 100000
namespace Go.AM.RU
open Go.Proofs
noncomputable def E : Env := {
  ty := [(27, some ⟨(.struct #[⟨ "State", 25, 0, false, "", "", 0⟩, ⟨ "Step", 25, 1, false, "", "", 8⟩]), 2, 16, [.of (.int .u64) 0, .of (.int .u64) 0], true⟩),
    (25, some ⟨(.int .u64), 1, 8, [.of (.int .u64) 0], false⟩),
    (3, some ⟨(.int .i64), 1, 8, [.of (.int .i64) 0], false⟩),
    (24, some ⟨(.struct #[⟨ "Neg", 4, 0, false, "", "", 0⟩, ⟨ "Limbs", 22, 1, false, "", "", 8⟩]), 2, 32, [.of .bool false, .raw (.slice none 0 0)], true⟩),
    (4, some ⟨.bool, 1, 1, [.of .bool false], false⟩),
    (22, some ⟨(.slice 76), 1, 24, [.raw (.slice none 0 0)], false⟩),
    (76, some ⟨(.int .u32), 1, 4, [.of (.int .u32) 0], false⟩),
    (46, some ⟨(.slice 3), 1, 24, [.raw (.slice none 0 0)], false⟩),
    (84, some ⟨(.struct #[⟨ "Kind", 3, 0, false, "", "", 0⟩, ⟨ "Num", 24, 1, false, "", "", 8⟩, ⟨ "Den", 24, 3, false, "", "", 40⟩, ⟨ "Text", 9, 5, false, "", "", 72⟩, ⟨ "Ref", 3, 6, false, "", "", 88⟩]), 7, 96, [.of (.int .i64) 0, .of .bool false, .raw (.slice none 0 0), .of .bool false, .raw (.slice none 0 0), .of .str [], .of (.int .i64) 0], true⟩),
    (9, some ⟨.string, 1, 16, [.of .str []], false⟩),
    (29, some ⟨(.struct #[⟨ "Code", 3, 0, false, "", "", 0⟩, ⟨ "Index", 3, 1, false, "", "", 8⟩]), 2, 16, [.of (.int .i64) 0, .of (.int .i64) 0], true⟩),
    (78, some ⟨(.pointer 81), 1, 8, [.raw (.pointer none)], false⟩),
    (81, some ⟨(.struct #[⟨ "Random", 27, 0, true, "", "", 0⟩]), 2, 16, [.of (.int .u64) 0, .of (.int .u64) 0], true⟩),
    (102, some ⟨(.slice 24), 1, 24, [.raw (.slice none 0 0)], false⟩),
    (86, some ⟨(.pointer 40), 1, 8, [.raw (.pointer none)], false⟩),
    (40, some ⟨(.struct #[⟨ "Random", 27, 0, true, "", "", 0⟩]), 2, 16, [.of (.int .u64) 0, .of (.int .u64) 0], true⟩),
    (49, some ⟨(.struct #[⟨ "Neg", 4, 0, false, "", "", 0⟩, ⟨ "N", 47, 1, false, "", "", 8⟩]), 2, 32, [.of .bool false, .raw (.slice none 0 0)], true⟩),
    (47, some ⟨(.slice 3), 1, 24, [.raw (.slice none 0 0)], false⟩),
    (67, some ⟨(.slice 4), 1, 24, [.raw (.slice none 0 0)], false⟩),
    (82, some ⟨(.int .u64), 1, 8, [.of (.int .u64) 0], false⟩),
    (5, some ⟨(.int .u8), 1, 1, [.of (.int .u8) 0], false⟩)]
  kd := [(27, some (.pair (.int .u64) (.int .u64))),
    (25, some (.int .u64)),
    (3, some (.int .i64)),
    (24, some (.pair .bool (.list (.int .u32)))),
    (4, some .bool),
    (22, some (.list (.int .u32))),
    (76, some (.int .u32)),
    (46, some (.list (.int .i64))),
    (84, some (.pair (.int .i64) (.pair (.pair .bool (.list (.int .u32))) (.pair (.pair .bool (.list (.int .u32))) (.pair .str (.int .i64)))))),
    (9, some .str),
    (29, some (.pair (.int .i64) (.int .i64))),
    (78, some (.ref (.pair (.int .u64) (.int .u64)))),
    (81, some (.pair (.int .u64) (.int .u64))),
    (102, some (.list (.pair .bool (.list (.int .u32))))),
    (86, some (.ref (.pair (.int .u64) (.int .u64)))),
    (40, some (.pair (.int .u64) (.int .u64))),
    (49, some (.pair .bool (.list (.int .i64)))),
    (47, some (.list (.int .i64))),
    (67, some (.list .bool)),
    (82, some (.int .u64)),
    (5, some (.int .u8))]
  sg := [(7, ⟨[.val (.pair (.int .u64) (.int .u64)) true, .val (.int .i64) false, .val (.pair .bool (.list (.int .u32))) true, .val (.pair .bool (.list (.int .u32))) true, .val (.list (.int .i64)) false], [(.bool, false)]⟩),
    (11, ⟨[], [(.bool, false)]⟩),
    (41, ⟨[.val (.int .i64) false], [((.pair (.int .i64) (.pair (.pair .bool (.list (.int .u32))) (.pair (.pair .bool (.list (.int .u32))) (.pair .str (.int .i64))))), true)]⟩),
    (47, ⟨[.val (.int .i64) false], [((.pair .bool (.list (.int .u32))), true)]⟩),
    (8, ⟨[.val (.pair .bool (.list (.int .u32))) true], [((.pair (.int .u64) (.int .u64)), true), ((.pair (.int .i64) (.int .i64)), true)]⟩),
    (36, ⟨[.val (.pair .bool (.list (.int .u32))) true], [(.bool, false)]⟩),
    (37, ⟨[.val (.int .i64) false, .val (.int .i64) false], [((.pair (.int .i64) (.int .i64)), true)]⟩),
    (38, ⟨[.val (.int .u64) false], [((.int .u64), false)]⟩),
    (9, ⟨[.val (.pair (.int .u64) (.int .u64)) true], [((.int .u64), false), ((.pair (.int .u64) (.int .u64)), true), ((.pair (.int .i64) (.int .i64)), true)]⟩),
    (39, ⟨[.val (.pair (.int .u64) (.int .u64)) true], [((.cel (.pair (.int .u64) (.int .u64))), false), ((.pair (.int .i64) (.int .i64)), true)]⟩),
    (40, ⟨[.io (.pair (.int .u64) (.int .u64))], [((.int .u64), false)]⟩),
    (16, ⟨[.val (.pair (.int .u64) (.int .u64)) true, .val (.pair .bool (.list (.int .u32))) true], [((.pair .bool (.list (.int .u32))), true), ((.pair (.int .u64) (.int .u64)), true), ((.pair (.int .i64) (.int .i64)), true)]⟩),
    (43, ⟨[.io (.pair (.int .u64) (.int .u64)), .val (.pair .bool (.list (.int .u32))) true], [((.pair .bool (.list (.int .u32))), true)]⟩),
    (45, ⟨[.val (.pair .bool (.list (.int .u32))) true, .val (.pair .bool (.list (.int .u32))) true], [((.pair .bool (.list (.int .u32))), true), ((.pair (.int .i64) (.int .i64)), true)]⟩),
    (62, ⟨[.val (.list (.pair .bool (.list (.int .u32)))) false], [((.pair (.int .i64) (.int .i64)), true)]⟩),
    (69, ⟨[.val (.int .i64) false, .val (.int .i64) false], [((.pair (.int .i64) (.int .i64)), true)]⟩),
    (64, ⟨[.val (.pair .bool (.list (.int .u32))) true, .val (.pair .bool (.list (.int .u32))) true], [((.pair .bool (.list (.int .u32))), true), ((.pair (.int .i64) (.int .i64)), true)]⟩),
    (72, ⟨[.val (.list (.int .u32)) false, .val (.list (.int .u32)) false], [((.list (.int .u32)), false), ((.pair (.int .i64) (.int .i64)), true)]⟩),
    (70, ⟨[.val (.list (.int .u32)) false, .val (.list (.int .u32)) false], [((.pair (.int .i64) (.int .i64)), true)]⟩),
    (75, ⟨[.val (.list (.int .u32)) false], [(.bool, false)]⟩),
    (76, ⟨[.val (.int .i64) false, .val (.int .i64) false], [((.pair (.int .i64) (.int .i64)), true)]⟩),
    (79, ⟨[.val (.list (.int .u32)) false, .val (.list (.int .u32)) false], [((.list (.int .u32)), false)]⟩),
    (81, ⟨[.val (.list (.int .u32)) false], [((.list (.int .u32)), false)]⟩),
    (78, ⟨[.val (.list (.int .u32)) false], [((.list (.int .u32)), false), ((.pair (.int .i64) (.int .i64)), true)]⟩),
    (73, ⟨[.val .bool false, .val (.list (.int .u32)) false], [((.pair .bool (.list (.int .u32))), true), ((.pair (.int .i64) (.int .i64)), true)]⟩),
    (63, ⟨[.val (.list (.int .u32)) false, .val (.list (.int .u32)) false], [((.int .i64), false), ((.pair (.int .i64) (.int .i64)), true)]⟩),
    (71, ⟨[.val (.list (.int .u32)) false, .val (.list (.int .u32)) false], [((.int .i64), false)]⟩),
    (74, ⟨[.val (.list (.int .u32)) false, .val (.list (.int .u32)) false], [((.list (.int .u32)), false), ((.pair (.int .i64) (.int .i64)), true)]⟩),
    (80, ⟨[.val (.list (.int .u32)) false, .val (.list (.int .u32)) false], [((.list (.int .u32)), false)]⟩),
    (82, ⟨[.val (.list (.int .u32)) false], [((.ownc 76 (.int .u32)), false)]⟩),
    (83, ⟨[.val (.int .u32) false, .val (.int .u32) false, .val (.int .u32) false], [((.int .u32), false), ((.int .u32), false)]⟩),
    (60, ⟨[.val (.pair .bool (.list (.int .u32))) true], [((.int .i64), false), ((.pair (.int .i64) (.int .i64)), true)]⟩),
    (68, ⟨[.val (.list (.int .u32)) false], [((.int .i64), false), ((.pair (.int .i64) (.int .i64)), true)]⟩),
    (77, ⟨[.val (.int .u32) false], [((.int .i64), false)]⟩),
    (61, ⟨[.io (.pair (.int .u64) (.int .u64)), .val (.int .i64) false], [((.pair .bool (.list (.int .u32))), true)]⟩),
    (44, ⟨[.val (.pair .bool (.list (.int .u32))) true, .val (.pair .bool (.list (.int .u32))) true], [((.int .i64), false), ((.pair (.int .i64) (.int .i64)), true)]⟩),
    (14, ⟨[.val (.pair .bool (.list (.int .u32))) true], [((.pair (.int .u64) (.int .u64)), true)]⟩),
    (42, ⟨[.val (.int .u64) false], [((.int .u64), false)]⟩),
    (15, ⟨[.io (.pair (.int .u64) (.int .u64))], [((.int .u64), false)]⟩),
    (18, ⟨[.val (.pair .bool (.list (.int .u32))) true], [(.bool, false)]⟩),
    (25, ⟨[.val (.int .i64) false], [((.pair .bool (.list (.int .i64))), true)]⟩),
    (49, ⟨[.val (.list .bool) false], [((.list (.int .i64)), false)]⟩),
    (65, ⟨[.val (.list (.int .i64)) false], [((.list (.int .i64)), false)]⟩),
    (33, ⟨[.val (.pair .bool (.list (.int .i64))) true, .val (.int .i64) false], [((.pair .bool (.list (.int .i64))), true)]⟩),
    (57, ⟨[.val (.list (.int .i64)) false, .val (.int .i64) false], [((.list (.int .i64)), false)]⟩),
    (48, ⟨[.val (.list (.int .i64)) false], [((.list .bool), false)]⟩),
    (58, ⟨[.val (.int .i64) false], [((.list (.int .i64)), false)]⟩),
    (54, ⟨[.val (.list (.int .i64)) false, .val (.list (.int .i64)) false], [((.list (.int .i64)), false)]⟩),
    (53, ⟨[.val (.list (.int .i64)) false, .val (.list (.int .i64)) false], [((.list (.int .i64)), false)]⟩),
    (34, ⟨[.val (.list (.int .i64)) false], [((.list (.int .u32)), false)]⟩),
    (10, ⟨[.val (.pair (.int .u64) (.int .u64)) true, .val (.int .u64) false], [((.pair (.int .u64) (.int .u64)), true), ((.pair (.int .i64) (.int .i64)), true)]⟩),
    (12, ⟨[.val (.pair .bool (.list (.int .u32))) true], [(.bool, false)]⟩),
    (20, ⟨[.val (.pair .bool (.list (.int .u32))) true], [((.pair .bool (.list (.int .i64))), true)]⟩),
    (50, ⟨[.val (.list (.int .u32)) false], [((.list (.int .i64)), false)]⟩),
    (22, ⟨[.val (.pair .bool (.list (.int .i64))) true, .val (.pair .bool (.list (.int .i64))) true], [((.int .i64), false)]⟩),
    (52, ⟨[.val (.list (.int .i64)) false, .val (.list (.int .i64)) false], [((.int .i64), false)]⟩),
    (17, ⟨[.val (.pair (.int .u64) (.int .u64)) true, .val (.pair .bool (.list (.int .u32))) true, .val (.pair .bool (.list (.int .u32))) true], [((.pair .bool (.list (.int .u32))), true), ((.pair (.int .u64) (.int .u64)), true), ((.pair (.int .i64) (.int .i64)), true)]⟩),
    (46, ⟨[.val (.pair .bool (.list (.int .u32))) true, .val (.pair .bool (.list (.int .u32))) true], [((.pair .bool (.list (.int .u32))), true), ((.pair (.int .i64) (.int .i64)), true)]⟩),
    (35, ⟨[.val (.list (.pair .bool (.list (.int .u32)))) false], [((.pair (.int .i64) (.int .i64)), true)]⟩),
    (59, ⟨[.val (.int .i64) false, .val (.int .i64) false], [((.pair (.int .i64) (.int .i64)), true)]⟩),
    (31, ⟨[.val (.pair (.int .u64) (.int .u64)) true, .val (.list (.int .i64)) false], [((.int .i64), false), ((.pair (.int .u64) (.int .u64)), true), ((.pair (.int .i64) (.int .i64)), true)]⟩),
    (56, ⟨[.io (.pair (.int .u64) (.int .u64)), .val (.int .i64) false], [((.int .i64), false)]⟩),
    (67, ⟨[.val (.pair .bool (.list (.int .u32))) true], [((.int .i64), false), ((.pair (.int .i64) (.int .i64)), true)]⟩)]
  known := [(7, true), (11, true), (41, true), (47, true), (8, true), (36, true), (37, true), (38, true), (9, true), (39, true), (40, true), (16, true), (43, true), (45, true), (62, true), (69, true), (64, true), (72, true), (70, true), (75, true), (76, true), (79, true), (81, true), (78, true), (73, true), (63, true), (71, true), (74, true), (80, true), (82, true), (83, true), (60, true), (68, true), (77, true), (61, true), (44, true), (14, true), (42, true), (15, true), (18, true), (25, true), (49, true), (65, true), (33, true), (57, true), (48, true), (58, true), (54, true), (53, true), (34, true), (10, true), (12, true), (20, true), (50, true), (22, true), (52, true), (17, true), (46, true), (35, true), (59, true), (31, true), (56, true), (67, true)]
  eqs := [(27, true)]
  hint := []
  keep := [] }
noncomputable def h7 : Hint := ⟨[(3, some [1, 4, 5, 7, 8]), (5, some [1, 4, 5, 7, 8]), (11, some [4, 5, 7, 8]), (14, some [4, 5])], []⟩
noncomputable def h11 : Hint := ⟨[], []⟩
noncomputable def h41 : Hint := ⟨[], []⟩
noncomputable def h47 : Hint := ⟨[(4, some [0, 2, 3]), (5, some [0, 2, 4]), (6, some [0, 2, 4]), (7, some [0, 2, 4])], []⟩
noncomputable def h8 : Hint := ⟨[(3, some [1, 2, 3]), (6, some [1, 2, 3, 4]), (7, some [2, 3, 4, 21, 22, 23]), (8, some [2, 3, 4, 21, 22, 23]), (11, some [2, 3, 4])], []⟩
noncomputable def h36 : Hint := ⟨[], []⟩
noncomputable def h37 : Hint := ⟨[], []⟩
noncomputable def h38 : Hint := ⟨[], []⟩
noncomputable def h9 : Hint := ⟨[(4, some [3, 4, 5])], []⟩
noncomputable def h39 : Hint := ⟨[(3, some [1, 3])], []⟩
noncomputable def h40 : Hint := ⟨[], []⟩
noncomputable def h16 : Hint := ⟨[(8, some [3, 4, 5, 6, 7])], []⟩
noncomputable def h43 : Hint := ⟨[(3, some [0, 3, 4, 7])], []⟩
noncomputable def h45 : Hint := ⟨[(4, some [2, 3, 4, 5])], []⟩
noncomputable def h62 : Hint := ⟨[(2, some [2, 5, 6, 7]), (3, some [2, 5, 6, 7]), (6, some [2, 5, 6, 7]), (7, some [2])], []⟩
noncomputable def h69 : Hint := ⟨[], []⟩
noncomputable def h64 : Hint := ⟨[(4, some [2, 3, 4, 5]), (7, some [2, 3, 4, 5])], []⟩
noncomputable def h72 : Hint := ⟨[(4, some [0, 1, 5])], []⟩
noncomputable def h70 : Hint := ⟨[(5, some [4])], []⟩
noncomputable def h75 : Hint := ⟨[], []⟩
noncomputable def h76 : Hint := ⟨[], []⟩
noncomputable def h79 : Hint := ⟨[(3, some [0, 1]), (6, some [1, 5, 6, 20, 21, 22]), (7, some [1, 5, 6, 20, 21, 22]), (11, some [1, 5, 6, 20, 21, 22]), (13, some [1, 5, 6, 20, 21, 22]), (14, some [5, 6])], []⟩
noncomputable def h81 : Hint := ⟨[(1, some [0]), (2, some [0]), (3, some [0])], []⟩
noncomputable def h78 : Hint := ⟨[(4, some [0, 3])], []⟩
noncomputable def h73 : Hint := ⟨[(3, some [0, 1, 4, 5])], []⟩
noncomputable def h63 : Hint := ⟨[(4, some [0, 1, 5])], []⟩
noncomputable def h71 : Hint := ⟨[(3, some [0, 1]), (4, some [0, 1, 5]), (6, some [0, 1, 5]), (9, some []), (5, some [0, 1, 5]), (10, some [])], []⟩
noncomputable def h74 : Hint := ⟨[(4, some [0, 1, 5]), (6, some [0, 1, 5])], []⟩
noncomputable def h80 : Hint := ⟨[(4, some [1, 5, 6, 12, 13]), (5, some [1, 5, 6, 12, 13]), (9, some [1, 5, 6, 7, 8, 12, 13]), (10, some [1, 5, 6, 12, 13]), (11, some [5])], []⟩
noncomputable def h83 : Hint := ⟨[], []⟩
noncomputable def h60 : Hint := ⟨[(4, some [1, 3])], []⟩
noncomputable def h68 : Hint := ⟨[(3, some [0, 3]), (5, some [0, 3])], []⟩
noncomputable def h77 : Hint := ⟨[(4, some [0, 2]), (7, some [0, 2])], []⟩
noncomputable def h61 : Hint := ⟨[(2, some [0, 1, 4, 5]), (4, some [0, 1, 4, 5]), (7, some [0, 1, 4, 5, 6]), (3, some [0, 1, 4, 5]), (8, some [4, 5]), (9, some [4, 5]), (10, some [4, 5])], []⟩
noncomputable def h44 : Hint := ⟨[(4, some [2, 3, 5]), (11, some [5, 7])], []⟩
noncomputable def h14 : Hint := ⟨[(4, some [1, 2, 3]), (5, some [1, 2, 3, 4]), (7, some [1, 2, 3, 4]), (8, some [2, 3])], []⟩
noncomputable def h42 : Hint := ⟨[], []⟩
noncomputable def h15 : Hint := ⟨[], []⟩
noncomputable def h18 : Hint := ⟨[], []⟩
noncomputable def h25 : Hint := ⟨[(3, some [0, 2, 3, 4]), (4, some [0, 2, 3, 4]), (6, some [2, 3, 4])], []⟩
noncomputable def h49 : Hint := ⟨[(3, some [0, 3, 4]), (5, some [0, 3, 4]), (7, some [0, 3, 4, 5, 6]), (9, some [0, 3, 4, 5, 6]), (8, some [0, 3, 4, 5, 6]), (12, some [0, 3, 4, 5]), (4, some [0, 3, 4]), (13, some [3])], []⟩
noncomputable def h65 : Hint := ⟨[(1, some [0]), (2, some [0]), (3, some [0])], []⟩
noncomputable def h33 : Hint := ⟨[(3, some [1, 2, 4])], []⟩
noncomputable def h57 : Hint := ⟨[(6, some [1, 5])], []⟩
noncomputable def h48 : Hint := ⟨[(3, some [0, 3, 4]), (5, some [0, 3, 4]), (7, some [0, 3, 4, 5, 6]), (9, some [0, 3, 4, 5, 6]), (4, some [0, 3, 4]), (11, some [3]), (12, some [3]), (13, some [3])], []⟩
noncomputable def h58 : Hint := ⟨[(2, some [0, 3]), (4, some [0, 3]), (5, some [3])], []⟩
noncomputable def h54 : Hint := ⟨[(4, some [0, 1, 5, 6, 7]), (6, some [0, 1, 5, 6, 7]), (9, some [0, 1, 5, 7, 8]), (13, some [0, 1, 5, 6, 7, 8]), (5, some [0, 1, 5, 6, 7]), (14, some [5])], []⟩
noncomputable def h53 : Hint := ⟨[(4, some [0, 1, 5, 6, 7]), (6, some [0, 1, 5, 6, 7]), (8, some [0, 1, 5, 6, 7]), (10, some [0, 1, 5, 6, 7]), (5, some [0, 1, 5, 6, 7]), (12, some [5])], []⟩
noncomputable def h34 : Hint := ⟨[(3, some [0, 3, 4]), (5, some [0, 3, 4]), (8, some [0, 3, 4, 5]), (4, some [0, 3, 4]), (9, some [3])], []⟩
noncomputable def h10 : Hint := ⟨[(4, some [1, 2, 4, 5]), (6, some [1, 2, 4, 5, 8, 9, 10, 11]), (8, some [1, 2, 4, 5, 8, 9, 10, 11]), (10, some [1, 2, 4, 5, 8, 9, 10, 11]), (7, some [1, 2, 4, 5, 8, 9, 10, 11]), (11, some [2, 4, 5, 8, 9])], []⟩
noncomputable def h12 : Hint := ⟨[], []⟩
noncomputable def h20 : Hint := ⟨[], []⟩
noncomputable def h50 : Hint := ⟨[(3, some [0, 3, 4]), (5, some [0, 3, 4]), (6, some [3])], []⟩
noncomputable def h22 : Hint := ⟨[(2, some [2, 3, 5, 6]), (8, some [2, 3])], []⟩
noncomputable def h52 : Hint := ⟨[(4, some []), (5, some [0, 1]), (6, some [0, 1, 5]), (8, some [0, 1, 5]), (10, some [0, 1, 5]), (7, some [0, 1, 5]), (12, some [])], []⟩
noncomputable def h17 : Hint := ⟨[(8, some [4, 5, 6, 7, 8, 9, 10]), (11, some [4, 5, 6, 7, 8, 9, 10]), (14, some [4, 6, 7, 8, 9, 10, 13]), (16, some [4, 6, 7, 8, 9, 13])], []⟩
noncomputable def h46 : Hint := ⟨[(4, some [2, 3, 4, 5])], []⟩
noncomputable def h35 : Hint := ⟨[(2, some [0, 2, 3]), (4, some [0, 2, 3]), (3, some [0, 2, 3]), (6, some [2])], []⟩
noncomputable def h59 : Hint := ⟨[], []⟩
noncomputable def h31 : Hint := ⟨[(4, some [1, 5, 6, 7]), (6, some [1, 5, 6, 7]), (8, some [1, 5, 6, 7, 9, 29, 30, 31]), (9, some [1, 5, 6, 7, 9, 29, 30, 31]), (12, some [1, 5, 6, 7, 9, 11, 29, 30, 31]), (13, some [1, 5, 6, 7, 9, 29, 30, 31]), (14, some [1, 5, 6, 7, 9]), (16, some [1, 5, 6, 7, 9]), (18, some [1, 5, 6, 7, 12, 13]), (19, some [1, 5, 6, 7, 12, 13]), (21, some [5, 6, 7, 13])], []⟩
noncomputable def h56 : Hint := ⟨[], []⟩
noncomputable def h67 : Hint := ⟨[(4, some [1, 3]), (6, some [1, 3, 5, 17, 18, 19]), (7, some [1, 3, 5, 17, 18, 19]), (10, some [1, 3, 5, 6, 7, 17, 18, 19]), (11, some [1, 3, 5, 17, 18, 19]), (12, some [1, 3, 5]), (15, some [1, 3, 8]), (17, some [3, 8])], []⟩
noncomputable def Fn : List (Nat × Option (Func × Hint)) := [(7, some (Try.f7, h7)),
  (11, some (Try.f11, h11)),
  (41, some (Try.f41, h41)),
  (47, some (Try.f47, h47)),
  (8, some (Try.f8, h8)),
  (36, some (Try.f36, h36)),
  (37, some (Try.f37, h37)),
  (38, some (Try.f38, h38)),
  (9, some (Try.f9, h9)),
  (39, some (Try.f39, h39)),
  (40, some (Try.f40, h40)),
  (16, some (Try.f16, h16)),
  (43, some (Try.f43, h43)),
  (45, some (Try.f45, h45)),
  (62, some (Try.f62, h62)),
  (69, some (Try.f69, h69)),
  (64, some (Try.f64, h64)),
  (72, some (Try.f72, h72)),
  (70, some (Try.f70, h70)),
  (75, some (Try.f75, h75)),
  (76, some (Try.f76, h76)),
  (79, some (Try.f79, h79)),
  (81, some (Try.f81, h81)),
  (78, some (Try.f78, h78)),
  (73, some (Try.f73, h73)),
  (63, some (Try.f63, h63)),
  (71, some (Try.f71, h71)),
  (74, some (Try.f74, h74)),
  (80, some (Try.f80, h80)),
  (83, some (Try.f83, h83)),
  (60, some (Try.f60, h60)),
  (68, some (Try.f68, h68)),
  (77, some (Try.f77, h77)),
  (61, some (Try.f61, h61)),
  (44, some (Try.f44, h44)),
  (14, some (Try.f14, h14)),
  (42, some (Try.f42, h42)),
  (15, some (Try.f15, h15)),
  (18, some (Try.f18, h18)),
  (25, some (Try.f25, h25)),
  (49, some (Try.f49, h49)),
  (65, some (Try.f65, h65)),
  (33, some (Try.f33, h33)),
  (57, some (Try.f57, h57)),
  (48, some (Try.f48, h48)),
  (58, some (Try.f58, h58)),
  (54, some (Try.f54, h54)),
  (53, some (Try.f53, h53)),
  (34, some (Try.f34, h34)),
  (10, some (Try.f10, h10)),
  (12, some (Try.f12, h12)),
  (20, some (Try.f20, h20)),
  (50, some (Try.f50, h50)),
  (22, some (Try.f22, h22)),
  (52, some (Try.f52, h52)),
  (17, some (Try.f17, h17)),
  (46, some (Try.f46, h46)),
  (35, some (Try.f35, h35)),
  (59, some (Try.f59, h59)),
  (31, some (Try.f31, h31)),
  (56, some (Try.f56, h56)),
  (67, some (Try.f67, h67))]
noncomputable def g82 (x : (E.sig 82).inK.T) : Option (E.sig 82).exK.T := if x.1.length * 4 ≤ 140737488355328 then some ((x.1, ()), ()) else none
noncomputable def G : CallT E := gOne 82 g82 gNone
end Go.AM.RU

set_option linter.unusedVariables false
set_option maxRecDepth 100000
namespace Go.AM.RU
open Go.Proofs
theorem env_ok : EnvOk Try.prog E := by
  refine EnvOk.of_table (by kernel_rfl) ?_ ?_ ?_ ?_
  · repeat' first | exact trivial | refine ⟨⟨by kernel_rfl, by kernel_rfl, by kernel_rfl, by kernel_rfl⟩, ?_⟩
  · repeat' first | exact trivial | refine ⟨show _ = _ by kernel_rfl, ?_⟩ | refine ⟨⟨_, rfl, by kernel_rfl⟩, ?_⟩ | refine ⟨trivial, ?_⟩
  · repeat' first | exact trivial | refine ⟨⟨by kernel_rfl, by kernel_rfl, by kernel_rfl⟩, ?_⟩
  · repeat' first | exact trivial | refine ⟨by kernel_rfl, ?_⟩
theorem tab_ok : TabOk Try.prog Fn := by
  apply FnIn.of
  repeat' first | exact trivial | refine ⟨by kernel_rfl, ?_⟩
end Go.AM.RU

set_option linter.unusedVariables false
namespace Go.AM.RU
open Go.Proofs Go.Shelf Go.RowKit Go.Lib
set_option maxHeartbeats 2000000 in
set_option maxRecDepth 100000 in
theorem clone82_row (ad : Addr) (n c : Nat) (l : List Int) (w : World) (hn : l.length = n) (hbig : n * 4 ≤ 140737488355328) (hc : ∀ j, j < l.length → w.cell? (ad.add j) = some (.int .u32 (l.getD j 0))) :
    Calls Try.prog 82 #[.slice (some ad) n c] w fun e w' => ∃ v', e = .returned v' ∧ w'.ownsRow w.heap.size 76 1 v' n (l.map (Value.int .u32)) ∧ Below w.heap.size w w' := by
  have hinf : (Try.prog.info? 76).map (fun i => (i.zero, i.size, i.bytes)) = some (some (.int .u32 0), 1, 4) := by kernel_rfl
  obtain ⟨i0, hi, hz0, hz1, hz2⟩ := info_parts hinf
  have q22 : ∀ (w : World) (a : Option Addr) (n c n' c' : Nat), (binOp .eql 22 (.slice a n c) (.slice none n' c')).run Try.prog w = .ok (.bool a.isNone) w := fun w a n c n' c' => Lib.run_eql_slice_nil w _ _ a n c n' c' Try.underlying22
  have u22 : ∀ w, Sem.run Try.prog (underlying 22) w = .ok (TypeDesc.slice 76) w := run_underlying Try.underlying22
  have A : Aside (∀ j, j < l.length → w.cell? (ad.add j) = some (.int .u32 (l.getD j 0))) := hc
  clear hc
  go_enter Try.func82, Try.ntmps82
  go_wp2_with (at_builtin; refine wpList_append_own _ rfl _ _ 22 rfl w.heap.size 76 i0 (.int .u32 0) 1 4 Try.underlying22 hi hz0 hz1 hz2 rfl (by decide) _ _ _ rfl (World.ownsRow_made w #[] 0 (Nat.le_refl _) (Nat.zero_le _) rfl) ad n c (l.map (Value.int .u32)) rfl ?qc1 ?qc2 ?qc3 ?qc4 ?qc5 ?qc6 ?_)
  case qc1 => simp; omega
  case qc2 =>
    intro j u hj
    have hjn : j < l.length := by
      have := (List.getElem?_eq_some_iff.1 hj).1
      simpa using this
    refine Lib.cell?_alloc_some _ ?_
    rw [A.out j hjn]
    have e : (l.map (Value.int .u32))[j]? = some (Value.int .u32 (l.getD j 0)) := by simp [List.getD, List.getElem?_eq_getElem hjn]
    rw [e] at hj
    exact hj
  case qc3 => intro u hu; obtain ⟨x, _, rfl⟩ := List.mem_map.1 hu; rfl
  case qc4 => unfold maxLen; omega
  case qc5 => omega
  case qc6 => simp
  intro v' w1 hown hgrow hnil
  go_wp2
  go_ret
  refine ⟨v', rfl, by simpa using hown, ?_⟩
  exact ((Below.refl _ w).alloc (Nat.le_refl _) _).grown hgrow (by simp) (by intro k hk; simp [Value.ownBlock] at hk; omega)
theorem clone82_nil (n c : Nat) (w : World) :
    Calls Try.prog 82 #[.slice none n c] w fun e w' => e = .returned (.slice none 0 0) ∧ w' = w := by
  have q22 : ∀ (w : World) (a : Option Addr) (n c n' c' : Nat), (binOp .eql 22 (.slice a n c) (.slice none n' c')).run Try.prog w = .ok (.bool a.isNone) w := fun w a n c n' c' => Lib.run_eql_slice_nil w _ _ a n c n' c' Try.underlying22
  go_enter Try.func82, Try.ntmps82
  go_wp2
  go_ret
  exact ⟨rfl, rfl⟩
theorem clone82_elems {w : World} {Y : Nat → Prop} : ∀ (l : List Int), Elems w Y (.int .u32) l (l.map (Value.int .u32))
  | [] => rfl
  | x :: l => ⟨[.int .u32 x], l.map (Value.int .u32), rfl, rfl, clone82_elems l⟩
theorem clone82_ok {x : (E.sig 82).inK.T} {r : (E.sig 82).exK.T} (h : (if x.1.length * 4 ≤ 140737488355328 then some ((x.1, ()), ()) else none) = some r) : CallOk Try.prog (E.sig 82) 82 x r := by
  intro w X vs cs bs hX hnd hcb hargs
  obtain ⟨l, _⟩ := x
  obtain ⟨v, vs', bs1, bs2, rfl, rfl, ⟨⟨a, cap, he, hle, hnil, hcells⟩, rfl⟩, rfl, rfl, rfl⟩ := hargs
  simp only [List.cons.injEq, and_true] at he
  subst he
  by_cases hb : l.length * 4 ≤ 140737488355328
  case neg => rw [if_neg hb] at h; cases h
  rw [if_pos hb] at h
  cases h
  cases a with
  | none =>
    have hl : l = [] := hnil rfl
    subst hl
    refine (clone82_nil _ _ w).mono ?_
    rintro e w' ⟨rfl, rfl⟩
    refine ⟨[.slice none 0 0], [], [], rfl, Gr.refl, fun _ _ _ => rfl, by simp, by simp, by simp, ?_, rfl, rfl⟩
    exact ⟨_, [], [], [], rfl, rfl, ⟨_, rfl, .inl ⟨rfl, rfl, none, 0, rfl, Nat.le_refl _, fun _ => rfl, (fun _ h => by cases h)⟩⟩, rfl, rfl⟩
  | some ad =>
    obtain ⟨hsp, hlt, hXa, hc⟩ := hcells ad rfl
    obtain ⟨b, o, sp⟩ := ad
    simp only at hsp
    subst hsp
    have hread : ∀ j, j < l.length → w.cell? ((⟨b, o, none⟩ : Addr).add j) = some (.int .u32 (l.getD j 0)) := by
      intro j hj
      obtain ⟨us, h1, h2⟩ := hc j _ (List.getElem?_eq_getElem hj)
      have h1' : us = [Value.int .u32 l[j]] := h1
      subst h1'
      have h3 := h2 0 _ rfl
      have e : (⟨b, o, none⟩ : Addr).add j = ⟨b, o + j * Kind.size (.int .u32) + 0, none⟩ := by
        simp [Addr.add, Kind.size]
      rw [e, h3]
      simp [List.getD, List.getElem?_eq_getElem hj]
    refine (clone82_row ⟨b, o, none⟩ l.length cap l w rfl hb hread).mono ?_
    rintro e w' ⟨v', rfl, hown, bel⟩
    have hgr : Gr w w' := ⟨bel.size, bel.os, bel.output, bel.tape⟩
    have hkeep : ∀ b, b < w.heap.size → w'.heap[b]? = w.heap[b]? := bel.block
    cases l with
    | nil =>
      refine ⟨[v'], [], [], rfl, hgr, fun b hb _ => hkeep b hb, by simp, by simp, by simp, ?_, rfl, rfl⟩
      refine ⟨v', [], [], [], rfl, rfl, ⟨v', rfl, .inl ⟨rfl, rfl, ?_⟩⟩, rfl, rfl⟩
      rcases hown.2 with ⟨rfl, _⟩ | ⟨g, cap', cur, rfl, hg, hh, _⟩
      · exact ⟨none, 0, rfl, Nat.le_refl _, fun _ => rfl, (fun _ h => by cases h)⟩
      · refine ⟨some ⟨g, 0, none⟩, cap', rfl, Nat.zero_le _, (fun h => by cases h), fun a' ha => ?_⟩
        cases ha
        refine ⟨rfl, (Array.getElem?_eq_some_iff.1 hh).1, fun hY => ?_, fun i x hi => by simp at hi⟩
        rcases hY with hY | hY
        · have := hX g hY
          omega
        · simp at hY
    | cons y l =>
      rcases hown.2 with ⟨_, hz⟩ | ⟨g, cap', cur, rfl, hg, hh, h4, h5, h6, h7⟩
      · simp at hz
      · refine ⟨[.slice (some ⟨g, 0, none⟩) (y :: l).length cap'], [g], [], rfl, hgr, fun b hb _ => hkeep b hb, by simp, fun b hb => ?_, fun b hb => ?_, ?_, rfl, rfl⟩
        · simp at hb; subst hb; exact .inr hg
        · simp at hb; subst hb; exact (Array.getElem?_eq_some_iff.1 hh).1
        refine ⟨_, [], [g], [], rfl, rfl, ⟨_, rfl, .inr ⟨by simp, rfl, (y :: l).map (Value.int .u32), ⟨hown.1, .inr ⟨g, cap', cur, rfl, Nat.zero_le _, hh, h4, h5, h6, h7⟩⟩, clone82_elems _⟩⟩, rfl, rfl⟩
end Go.AM.RU
namespace Go.AM.RU
theorem calls_ok : CallsOk Go.Proofs.Try.prog E (callI E Fn G) := callI_sound env_ok tab_ok (gOne_ok (fun x r h => clone82_ok h) gNone_ok)
#print axioms calls_ok
end Go.AM.RU
