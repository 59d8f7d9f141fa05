/- The tables of the machine for this program: types, functions, joins. They are the program's. No condition. -/
import Derived.Test.YthkmjjdpfcghcaaDoorPSA3
import Derived.Lib.Bytealg
import Derived.Test.YthkmjjdpfcghcaaDoorProg
import Derived.Shelf.Small.Strs
import Derived.KernelRfl
set_option linter.unusedVariables false
set_option maxRecDepth 100000
namespace Go.AM.PS
open Go.Proofs
noncomputable def E : Env := {
  ty := [(3, some ⟨(.int .i64), 1, 8, [.of (.int .i64) 0], false⟩),
    (4, some ⟨.bool, 1, 1, [.of .bool false], false⟩),
    (48, some ⟨(.struct #[⟨ "Kind", 3, 0, false, "", "", 0⟩, ⟨ "Num", 46, 1, false, "", "", 8⟩, ⟨ "Den", 46, 3, false, "", "", 40⟩, ⟨ "Text", 9, 5, false, "", "", 72⟩, ⟨ "Ref", 3, 6, false, "", "", 88⟩]), 7, 96, [.of (.int .i64) 0, .of .bool false, .raw (.slice none 0 0), .of .bool false, .raw (.slice none 0 0), .of .str [], .of (.int .i64) 0], true⟩),
    (46, some ⟨(.struct #[⟨ "Neg", 4, 0, false, "", "", 0⟩, ⟨ "Limbs", 44, 1, false, "", "", 8⟩]), 2, 32, [.of .bool false, .raw (.slice none 0 0)], true⟩),
    (44, some ⟨(.slice 87), 1, 24, [.raw (.slice none 0 0)], false⟩),
    (87, some ⟨(.int .u32), 1, 4, [.of (.int .u32) 0], false⟩),
    (9, some ⟨.string, 1, 16, [.of .str []], false⟩),
    (22, some ⟨(.slice 31), 1, 24, [.raw (.slice none 0 0)], false⟩),
    (31, some ⟨(.struct #[⟨ "Code", 5, 0, false, "", "", 0⟩, ⟨ "Count", 3, 1, false, "", "", 8⟩, ⟨ "Big", 4, 2, false, "", "", 16⟩]), 3, 24, [.of (.int .u8) 0, .of (.int .i64) 0, .of .bool false], true⟩),
    (5, some ⟨(.int .u8), 1, 1, [.of (.int .u8) 0], false⟩),
    (23, some ⟨(.slice 48), 1, 24, [.raw (.slice none 0 0)], false⟩),
    (24, some ⟨(.slice 5), 1, 24, [.raw (.slice none 0 0)], false⟩),
    (26, some ⟨(.struct #[⟨ "Code", 3, 0, false, "", "", 0⟩, ⟨ "Index", 3, 1, false, "", "", 8⟩]), 2, 16, [.of (.int .i64) 0, .of (.int .i64) 0], true⟩),
    (76, some ⟨(.int .u64), 1, 8, [.of (.int .u64) 0], false⟩),
    (96, some ⟨(.array 256 4), 256, 256, [.of .bool false, .of .bool false, .of .bool false, .of .bool false, .of .bool false, .of .bool false, .of .bool false, .of .bool false, .of .bool false, .of .bool false, .of .bool false, .of .bool false, .of .bool false, .of .bool false, .of .bool false, .of .bool false, .of .bool false, .of .bool false, .of .bool false, .of .bool false, .of .bool false, .of .bool false, .of .bool false, .of .bool false, .of .bool false, .of .bool false, .of .bool false, .of .bool false, .of .bool false, .of .bool false, .of .bool false, .of .bool false, .of .bool false, .of .bool false, .of .bool false, .of .bool false, .of .bool false, .of .bool false, .of .bool false, .of .bool false, .of .bool false, .of .bool false, .of .bool false, .of .bool false, .of .bool false, .of .bool false, .of .bool false, .of .bool false, .of .bool false, .of .bool false, .of .bool false, .of .bool false, .of .bool false, .of .bool false, .of .bool false, .of .bool false, .of .bool false, .of .bool false, .of .bool false, .of .bool false, .of .bool false, .of .bool false, .of .bool false, .of .bool false, .of .bool false, .of .bool false, .of .bool false, .of .bool false, .of .bool false, .of .bool false, .of .bool false, .of .bool false, .of .bool false, .of .bool false, .of .bool false, .of .bool false, .of .bool false, .of .bool false, .of .bool false, .of .bool false, .of .bool false, .of .bool false, .of .bool false, .of .bool false, .of .bool false, .of .bool false, .of .bool false, .of .bool false, .of .bool false, .of .bool false, .of .bool false, .of .bool false, .of .bool false, .of .bool false, .of .bool false, .of .bool false, .of .bool false, .of .bool false, .of .bool false, .of .bool false, .of .bool false, .of .bool false, .of .bool false, .of .bool false, .of .bool false, .of .bool false, .of .bool false, .of .bool false, .of .bool false, .of .bool false, .of .bool false, .of .bool false, .of .bool false, .of .bool false, .of .bool false, .of .bool false, .of .bool false, .of .bool false, .of .bool false, .of .bool false, .of .bool false, .of .bool false, .of .bool false, .of .bool false, .of .bool false, .of .bool false, .of .bool false, .of .bool false, .of .bool false, .of .bool false, .of .bool false, .of .bool false, .of .bool false, .of .bool false, .of .bool false, .of .bool false, .of .bool false, .of .bool false, .of .bool false, .of .bool false, .of .bool false, .of .bool false, .of .bool false, .of .bool false, .of .bool false, .of .bool false, .of .bool false, .of .bool false, .of .bool false, .of .bool false, .of .bool false, .of .bool false, .of .bool false, .of .bool false, .of .bool false, .of .bool false, .of .bool false, .of .bool false, .of .bool false, .of .bool false, .of .bool false, .of .bool false, .of .bool false, .of .bool false, .of .bool false, .of .bool false, .of .bool false, .of .bool false, .of .bool false, .of .bool false, .of .bool false, .of .bool false, .of .bool false, .of .bool false, .of .bool false, .of .bool false, .of .bool false, .of .bool false, .of .bool false, .of .bool false, .of .bool false, .of .bool false, .of .bool false, .of .bool false, .of .bool false, .of .bool false, .of .bool false, .of .bool false, .of .bool false, .of .bool false, .of .bool false, .of .bool false, .of .bool false, .of .bool false, .of .bool false, .of .bool false, .of .bool false, .of .bool false, .of .bool false, .of .bool false, .of .bool false, .of .bool false, .of .bool false, .of .bool false, .of .bool false, .of .bool false, .of .bool false, .of .bool false, .of .bool false, .of .bool false, .of .bool false, .of .bool false, .of .bool false, .of .bool false, .of .bool false, .of .bool false, .of .bool false, .of .bool false, .of .bool false, .of .bool false, .of .bool false, .of .bool false, .of .bool false, .of .bool false, .of .bool false, .of .bool false, .of .bool false, .of .bool false, .of .bool false, .of .bool false, .of .bool false, .of .bool false, .of .bool false, .of .bool false, .of .bool false, .of .bool false, .of .bool false, .of .bool false, .of .bool false, .of .bool false, .of .bool false, .of .bool false, .of .bool false, .of .bool false, .of .bool false, .of .bool false, .of .bool false, .of .bool false, .of .bool false, .of .bool false, .of .bool false, .of .bool false, .of .bool false, .of .bool false, .of .bool false, .of .bool false], true⟩),
    (100, some ⟨(.pointer 96), 1, 8, [.raw (.pointer none)], false⟩),
    (70, some ⟨(.pointer 72), 1, 8, [.raw (.pointer none)], false⟩),
    (72, some ⟨(.struct #[⟨ "data", 24, 0, false, "", "brindlewood/packing", 0⟩, ⟨ "pos", 3, 1, false, "", "brindlewood/packing", 24⟩]), 2, 32, [.raw (.slice none 0 0), .of (.int .i64) 0], true⟩),
    (2, some ⟨(.int .i64), 1, 8, [.of (.int .i64) 0], false⟩),
    (88, some ⟨(.int .u64), 1, 8, [.of (.int .u64) 0], false⟩)]
  kd := [(3, some (.int .i64)),
    (4, some .bool),
    (48, some (.pair (.int .i64) (.pair (.pair .bool (.list (.int .u32))) (.pair (.pair .bool (.list (.int .u32))) (.pair .str (.int .i64)))))),
    (46, some (.pair .bool (.list (.int .u32)))),
    (44, some (.list (.int .u32))),
    (87, some (.int .u32)),
    (9, some .str),
    (22, some (.list (.pair (.int .u8) (.pair (.int .i64) .bool)))),
    (31, some (.pair (.int .u8) (.pair (.int .i64) .bool))),
    (5, some (.int .u8)),
    (23, some (.list (.pair (.int .i64) (.pair (.pair .bool (.list (.int .u32))) (.pair (.pair .bool (.list (.int .u32))) (.pair .str (.int .i64))))))),
    (24, some (.list (.int .u8))),
    (26, some (.pair (.int .i64) (.int .i64))),
    (76, some (.int .u64)),
    (96, some (.pair .bool (.pair .bool (.pair .bool (.pair .bool (.pair .bool (.pair .bool (.pair .bool (.pair .bool (.pair .bool (.pair .bool (.pair .bool (.pair .bool (.pair .bool (.pair .bool (.pair .bool (.pair .bool (.pair .bool (.pair .bool (.pair .bool (.pair .bool (.pair .bool (.pair .bool (.pair .bool (.pair .bool (.pair .bool (.pair .bool (.pair .bool (.pair .bool (.pair .bool (.pair .bool (.pair .bool (.pair .bool (.pair .bool (.pair .bool (.pair .bool (.pair .bool (.pair .bool (.pair .bool (.pair .bool (.pair .bool (.pair .bool (.pair .bool (.pair .bool (.pair .bool (.pair .bool (.pair .bool (.pair .bool (.pair .bool (.pair .bool (.pair .bool (.pair .bool (.pair .bool (.pair .bool (.pair .bool (.pair .bool (.pair .bool (.pair .bool (.pair .bool (.pair .bool (.pair .bool (.pair .bool (.pair .bool (.pair .bool (.pair .bool (.pair .bool (.pair .bool (.pair .bool (.pair .bool (.pair .bool (.pair .bool (.pair .bool (.pair .bool (.pair .bool (.pair .bool (.pair .bool (.pair .bool (.pair .bool (.pair .bool (.pair .bool (.pair .bool (.pair .bool (.pair .bool (.pair .bool (.pair .bool (.pair .bool (.pair .bool (.pair .bool (.pair .bool (.pair .bool (.pair .bool (.pair .bool (.pair .bool (.pair .bool (.pair .bool (.pair .bool (.pair .bool (.pair .bool (.pair .bool (.pair .bool (.pair .bool (.pair .bool (.pair .bool (.pair .bool (.pair .bool (.pair .bool (.pair .bool (.pair .bool (.pair .bool (.pair .bool (.pair .bool (.pair .bool (.pair .bool (.pair .bool (.pair .bool (.pair .bool (.pair .bool (.pair .bool (.pair .bool (.pair .bool (.pair .bool (.pair .bool (.pair .bool (.pair .bool (.pair .bool (.pair .bool (.pair .bool (.pair .bool (.pair .bool (.pair .bool (.pair .bool (.pair .bool (.pair .bool (.pair .bool (.pair .bool (.pair .bool (.pair .bool (.pair .bool (.pair .bool (.pair .bool (.pair .bool (.pair .bool (.pair .bool (.pair .bool (.pair .bool (.pair .bool (.pair .bool (.pair .bool (.pair .bool (.pair .bool (.pair .bool (.pair .bool (.pair .bool (.pair .bool (.pair .bool (.pair .bool (.pair .bool (.pair .bool (.pair .bool (.pair .bool (.pair .bool (.pair .bool (.pair .bool (.pair .bool (.pair .bool (.pair .bool (.pair .bool (.pair .bool (.pair .bool (.pair .bool (.pair .bool (.pair .bool (.pair .bool (.pair .bool (.pair .bool (.pair .bool (.pair .bool (.pair .bool (.pair .bool (.pair .bool (.pair .bool (.pair .bool (.pair .bool (.pair .bool (.pair .bool (.pair .bool (.pair .bool (.pair .bool (.pair .bool (.pair .bool (.pair .bool (.pair .bool (.pair .bool (.pair .bool (.pair .bool (.pair .bool (.pair .bool (.pair .bool (.pair .bool (.pair .bool (.pair .bool (.pair .bool (.pair .bool (.pair .bool (.pair .bool (.pair .bool (.pair .bool (.pair .bool (.pair .bool (.pair .bool (.pair .bool (.pair .bool (.pair .bool (.pair .bool (.pair .bool (.pair .bool (.pair .bool (.pair .bool (.pair .bool (.pair .bool (.pair .bool (.pair .bool (.pair .bool (.pair .bool (.pair .bool (.pair .bool (.pair .bool (.pair .bool (.pair .bool (.pair .bool (.pair .bool (.pair .bool (.pair .bool (.pair .bool (.pair .bool (.pair .bool (.pair .bool (.pair .bool (.pair .bool (.pair .bool (.pair .bool (.pair .bool (.pair .bool (.pair .bool (.pair .bool (.pair .bool (.pair .bool (.pair .bool (.pair .bool (.pair .bool (.pair .bool (.pair .bool (.pair .bool (.pair .bool (.pair .bool (.pair .bool .bool)))))))))))))))))))))))))))))))))))))))))))))))))))))))))))))))))))))))))))))))))))))))))))))))))))))))))))))))))))))))))))))))))))))))))))))))))))))))))))))))))))))))))))))))))))))))))))))))))))))))))))))))))))))))))))))))))))))))))))))))))))))))))))))))),
    (100, some (.ref (.pair .bool (.pair .bool (.pair .bool (.pair .bool (.pair .bool (.pair .bool (.pair .bool (.pair .bool (.pair .bool (.pair .bool (.pair .bool (.pair .bool (.pair .bool (.pair .bool (.pair .bool (.pair .bool (.pair .bool (.pair .bool (.pair .bool (.pair .bool (.pair .bool (.pair .bool (.pair .bool (.pair .bool (.pair .bool (.pair .bool (.pair .bool (.pair .bool (.pair .bool (.pair .bool (.pair .bool (.pair .bool (.pair .bool (.pair .bool (.pair .bool (.pair .bool (.pair .bool (.pair .bool (.pair .bool (.pair .bool (.pair .bool (.pair .bool (.pair .bool (.pair .bool (.pair .bool (.pair .bool (.pair .bool (.pair .bool (.pair .bool (.pair .bool (.pair .bool (.pair .bool (.pair .bool (.pair .bool (.pair .bool (.pair .bool (.pair .bool (.pair .bool (.pair .bool (.pair .bool (.pair .bool (.pair .bool (.pair .bool (.pair .bool (.pair .bool (.pair .bool (.pair .bool (.pair .bool (.pair .bool (.pair .bool (.pair .bool (.pair .bool (.pair .bool (.pair .bool (.pair .bool (.pair .bool (.pair .bool (.pair .bool (.pair .bool (.pair .bool (.pair .bool (.pair .bool (.pair .bool (.pair .bool (.pair .bool (.pair .bool (.pair .bool (.pair .bool (.pair .bool (.pair .bool (.pair .bool (.pair .bool (.pair .bool (.pair .bool (.pair .bool (.pair .bool (.pair .bool (.pair .bool (.pair .bool (.pair .bool (.pair .bool (.pair .bool (.pair .bool (.pair .bool (.pair .bool (.pair .bool (.pair .bool (.pair .bool (.pair .bool (.pair .bool (.pair .bool (.pair .bool (.pair .bool (.pair .bool (.pair .bool (.pair .bool (.pair .bool (.pair .bool (.pair .bool (.pair .bool (.pair .bool (.pair .bool (.pair .bool (.pair .bool (.pair .bool (.pair .bool (.pair .bool (.pair .bool (.pair .bool (.pair .bool (.pair .bool (.pair .bool (.pair .bool (.pair .bool (.pair .bool (.pair .bool (.pair .bool (.pair .bool (.pair .bool (.pair .bool (.pair .bool (.pair .bool (.pair .bool (.pair .bool (.pair .bool (.pair .bool (.pair .bool (.pair .bool (.pair .bool (.pair .bool (.pair .bool (.pair .bool (.pair .bool (.pair .bool (.pair .bool (.pair .bool (.pair .bool (.pair .bool (.pair .bool (.pair .bool (.pair .bool (.pair .bool (.pair .bool (.pair .bool (.pair .bool (.pair .bool (.pair .bool (.pair .bool (.pair .bool (.pair .bool (.pair .bool (.pair .bool (.pair .bool (.pair .bool (.pair .bool (.pair .bool (.pair .bool (.pair .bool (.pair .bool (.pair .bool (.pair .bool (.pair .bool (.pair .bool (.pair .bool (.pair .bool (.pair .bool (.pair .bool (.pair .bool (.pair .bool (.pair .bool (.pair .bool (.pair .bool (.pair .bool (.pair .bool (.pair .bool (.pair .bool (.pair .bool (.pair .bool (.pair .bool (.pair .bool (.pair .bool (.pair .bool (.pair .bool (.pair .bool (.pair .bool (.pair .bool (.pair .bool (.pair .bool (.pair .bool (.pair .bool (.pair .bool (.pair .bool (.pair .bool (.pair .bool (.pair .bool (.pair .bool (.pair .bool (.pair .bool (.pair .bool (.pair .bool (.pair .bool (.pair .bool (.pair .bool (.pair .bool (.pair .bool (.pair .bool (.pair .bool (.pair .bool (.pair .bool (.pair .bool (.pair .bool (.pair .bool (.pair .bool (.pair .bool (.pair .bool (.pair .bool (.pair .bool (.pair .bool (.pair .bool (.pair .bool (.pair .bool (.pair .bool (.pair .bool (.pair .bool (.pair .bool (.pair .bool (.pair .bool (.pair .bool (.pair .bool (.pair .bool (.pair .bool (.pair .bool (.pair .bool (.pair .bool (.pair .bool .bool))))))))))))))))))))))))))))))))))))))))))))))))))))))))))))))))))))))))))))))))))))))))))))))))))))))))))))))))))))))))))))))))))))))))))))))))))))))))))))))))))))))))))))))))))))))))))))))))))))))))))))))))))))))))))))))))))))))))))))))))))))))))))))))))),
    (70, some (.ref (.pair (.list (.int .u8)) (.int .i64)))),
    (72, some (.pair (.list (.int .u8)) (.int .i64))),
    (2, some (.int .i64)),
    (88, some (.int .u64))]
  sg := [(5, ⟨[.val (.int .i64) false, .val (.int .i64) false], [(.bool, false)]⟩),
    (17, ⟨[.val (.int .i64) false], [((.pair (.int .i64) (.pair (.pair .bool (.list (.int .u32))) (.pair (.pair .bool (.list (.int .u32))) (.pair .str (.int .i64))))), true)]⟩),
    (33, ⟨[.val (.int .i64) false], [((.pair .bool (.list (.int .u32))), true)]⟩),
    (6, ⟨[.val (.list (.pair (.int .u8) (.pair (.int .i64) .bool))) false, .val (.list (.pair (.int .i64) (.pair (.pair .bool (.list (.int .u32))) (.pair (.pair .bool (.list (.int .u32))) (.pair .str (.int .i64)))))) false], [((.list (.int .u8)), false), ((.pair (.int .i64) (.int .i64)), true)]⟩),
    (15, ⟨[.val (.list (.pair (.int .u8) (.pair (.int .i64) .bool))) false], [((.pair (.int .i64) (.int .i64)), true)]⟩),
    (21, ⟨[.val (.int .i64) false, .val (.int .i64) false], [((.pair (.int .i64) (.int .i64)), true)]⟩),
    (27, ⟨[.val .str false, .val (.int .u8) false], [((.int .i64), false)]⟩),
    (28, ⟨[.val (.int .u8) false], [(.bool, false)]⟩),
    (20, ⟨[.val (.list (.pair (.int .u8) (.pair (.int .i64) .bool))) false], [((.int .i64), false)]⟩),
    (22, ⟨[.val (.pair (.int .i64) (.pair (.pair .bool (.list (.int .u32))) (.pair (.pair .bool (.list (.int .u32))) (.pair .str (.int .i64))))) true], [(.bool, false)]⟩),
    (35, ⟨[.val (.pair .bool (.list (.int .u32))) true], [(.bool, false)]⟩),
    (23, ⟨[.val (.own 5 (.int .u8)) false, .val (.pair (.int .u8) (.pair (.int .i64) .bool)) true, .val (.pair (.int .i64) (.pair (.pair .bool (.list (.int .u32))) (.pair (.pair .bool (.list (.int .u32))) (.pair .str (.int .i64))))) true], [((.own 5 (.int .u8)), false), ((.int .i64), false)]⟩),
    (29, ⟨[.val (.int .u8) false], [((.int .i64), false), (.bool, false)]⟩),
    (36, ⟨[.val (.pair .bool (.list (.int .u32))) true, .val (.int .i64) false, .val .bool false], [((.int .u64), false), (.bool, false)]⟩),
    (37, ⟨[.val (.own 5 (.int .u8)) false, .val (.int .u64) false], [((.own 5 (.int .u8)), false)]⟩),
    (38, ⟨[.val (.own 5 (.int .u8)) false, .val (.int .u64) false, .val (.int .i64) false, .val .bool false], [((.own 5 (.int .u8)), false)]⟩),
    (11, ⟨[.val (.list (.pair (.int .u8) (.pair (.int .i64) .bool))) false], [((.int .i64), false), ((.int .i64), false), ((.pair (.int .i64) (.int .i64)), true)]⟩),
    (7, ⟨[], [(.bool, false)]⟩),
    (10, ⟨[.val .str false], [((.list (.pair (.int .u8) (.pair (.int .i64) .bool))), false), ((.pair (.int .i64) (.int .i64)), true)]⟩),
    (25, ⟨[.val .str false, .val .str false], [(.bool, false)]⟩),
    (40, ⟨[.val .str false, .val .str false], [(.bool, false)]⟩),
    (26, ⟨[.val .str false], [((.int .i64), false), (.str, false)]⟩),
    (41, ⟨[.val .str false, .val .str false], [(.str, false)]⟩),
    (49, ⟨[.val .str false, .val (.int .u8) false], [(.str, false)]⟩),
    (50, ⟨[.val .str false], [((.pair .bool (.pair .bool (.pair .bool (.pair .bool (.pair .bool (.pair .bool (.pair .bool (.pair .bool (.pair .bool (.pair .bool (.pair .bool (.pair .bool (.pair .bool (.pair .bool (.pair .bool (.pair .bool (.pair .bool (.pair .bool (.pair .bool (.pair .bool (.pair .bool (.pair .bool (.pair .bool (.pair .bool (.pair .bool (.pair .bool (.pair .bool (.pair .bool (.pair .bool (.pair .bool (.pair .bool (.pair .bool (.pair .bool (.pair .bool (.pair .bool (.pair .bool (.pair .bool (.pair .bool (.pair .bool (.pair .bool (.pair .bool (.pair .bool (.pair .bool (.pair .bool (.pair .bool (.pair .bool (.pair .bool (.pair .bool (.pair .bool (.pair .bool (.pair .bool (.pair .bool (.pair .bool (.pair .bool (.pair .bool (.pair .bool (.pair .bool (.pair .bool (.pair .bool (.pair .bool (.pair .bool (.pair .bool (.pair .bool (.pair .bool (.pair .bool (.pair .bool (.pair .bool (.pair .bool (.pair .bool (.pair .bool (.pair .bool (.pair .bool (.pair .bool (.pair .bool (.pair .bool (.pair .bool (.pair .bool (.pair .bool (.pair .bool (.pair .bool (.pair .bool (.pair .bool (.pair .bool (.pair .bool (.pair .bool (.pair .bool (.pair .bool (.pair .bool (.pair .bool (.pair .bool (.pair .bool (.pair .bool (.pair .bool (.pair .bool (.pair .bool (.pair .bool (.pair .bool (.pair .bool (.pair .bool (.pair .bool (.pair .bool (.pair .bool (.pair .bool (.pair .bool (.pair .bool (.pair .bool (.pair .bool (.pair .bool (.pair .bool (.pair .bool (.pair .bool (.pair .bool (.pair .bool (.pair .bool (.pair .bool (.pair .bool (.pair .bool (.pair .bool (.pair .bool (.pair .bool (.pair .bool (.pair .bool (.pair .bool (.pair .bool (.pair .bool (.pair .bool (.pair .bool (.pair .bool (.pair .bool (.pair .bool (.pair .bool (.pair .bool (.pair .bool (.pair .bool (.pair .bool (.pair .bool (.pair .bool (.pair .bool (.pair .bool (.pair .bool (.pair .bool (.pair .bool (.pair .bool (.pair .bool (.pair .bool (.pair .bool (.pair .bool (.pair .bool (.pair .bool (.pair .bool (.pair .bool (.pair .bool (.pair .bool (.pair .bool (.pair .bool (.pair .bool (.pair .bool (.pair .bool (.pair .bool (.pair .bool (.pair .bool (.pair .bool (.pair .bool (.pair .bool (.pair .bool (.pair .bool (.pair .bool (.pair .bool (.pair .bool (.pair .bool (.pair .bool (.pair .bool (.pair .bool (.pair .bool (.pair .bool (.pair .bool (.pair .bool (.pair .bool (.pair .bool (.pair .bool (.pair .bool (.pair .bool (.pair .bool (.pair .bool (.pair .bool (.pair .bool (.pair .bool (.pair .bool (.pair .bool (.pair .bool (.pair .bool (.pair .bool (.pair .bool (.pair .bool (.pair .bool (.pair .bool (.pair .bool (.pair .bool (.pair .bool (.pair .bool (.pair .bool (.pair .bool (.pair .bool (.pair .bool (.pair .bool (.pair .bool (.pair .bool (.pair .bool (.pair .bool (.pair .bool (.pair .bool (.pair .bool (.pair .bool (.pair .bool (.pair .bool (.pair .bool (.pair .bool (.pair .bool (.pair .bool (.pair .bool (.pair .bool (.pair .bool (.pair .bool (.pair .bool (.pair .bool (.pair .bool (.pair .bool (.pair .bool (.pair .bool (.pair .bool (.pair .bool (.pair .bool (.pair .bool (.pair .bool (.pair .bool (.pair .bool (.pair .bool (.pair .bool (.pair .bool (.pair .bool (.pair .bool (.pair .bool (.pair .bool (.pair .bool (.pair .bool (.pair .bool (.pair .bool (.pair .bool (.pair .bool (.pair .bool (.pair .bool (.pair .bool (.pair .bool (.pair .bool (.pair .bool .bool))))))))))))))))))))))))))))))))))))))))))))))))))))))))))))))))))))))))))))))))))))))))))))))))))))))))))))))))))))))))))))))))))))))))))))))))))))))))))))))))))))))))))))))))))))))))))))))))))))))))))))))))))))))))))))))))))))))))))))))))))))))))))))))), true), (.bool, false)]⟩),
    (51, ⟨[.val .str false, .io (.pair .bool (.pair .bool (.pair .bool (.pair .bool (.pair .bool (.pair .bool (.pair .bool (.pair .bool (.pair .bool (.pair .bool (.pair .bool (.pair .bool (.pair .bool (.pair .bool (.pair .bool (.pair .bool (.pair .bool (.pair .bool (.pair .bool (.pair .bool (.pair .bool (.pair .bool (.pair .bool (.pair .bool (.pair .bool (.pair .bool (.pair .bool (.pair .bool (.pair .bool (.pair .bool (.pair .bool (.pair .bool (.pair .bool (.pair .bool (.pair .bool (.pair .bool (.pair .bool (.pair .bool (.pair .bool (.pair .bool (.pair .bool (.pair .bool (.pair .bool (.pair .bool (.pair .bool (.pair .bool (.pair .bool (.pair .bool (.pair .bool (.pair .bool (.pair .bool (.pair .bool (.pair .bool (.pair .bool (.pair .bool (.pair .bool (.pair .bool (.pair .bool (.pair .bool (.pair .bool (.pair .bool (.pair .bool (.pair .bool (.pair .bool (.pair .bool (.pair .bool (.pair .bool (.pair .bool (.pair .bool (.pair .bool (.pair .bool (.pair .bool (.pair .bool (.pair .bool (.pair .bool (.pair .bool (.pair .bool (.pair .bool (.pair .bool (.pair .bool (.pair .bool (.pair .bool (.pair .bool (.pair .bool (.pair .bool (.pair .bool (.pair .bool (.pair .bool (.pair .bool (.pair .bool (.pair .bool (.pair .bool (.pair .bool (.pair .bool (.pair .bool (.pair .bool (.pair .bool (.pair .bool (.pair .bool (.pair .bool (.pair .bool (.pair .bool (.pair .bool (.pair .bool (.pair .bool (.pair .bool (.pair .bool (.pair .bool (.pair .bool (.pair .bool (.pair .bool (.pair .bool (.pair .bool (.pair .bool (.pair .bool (.pair .bool (.pair .bool (.pair .bool (.pair .bool (.pair .bool (.pair .bool (.pair .bool (.pair .bool (.pair .bool (.pair .bool (.pair .bool (.pair .bool (.pair .bool (.pair .bool (.pair .bool (.pair .bool (.pair .bool (.pair .bool (.pair .bool (.pair .bool (.pair .bool (.pair .bool (.pair .bool (.pair .bool (.pair .bool (.pair .bool (.pair .bool (.pair .bool (.pair .bool (.pair .bool (.pair .bool (.pair .bool (.pair .bool (.pair .bool (.pair .bool (.pair .bool (.pair .bool (.pair .bool (.pair .bool (.pair .bool (.pair .bool (.pair .bool (.pair .bool (.pair .bool (.pair .bool (.pair .bool (.pair .bool (.pair .bool (.pair .bool (.pair .bool (.pair .bool (.pair .bool (.pair .bool (.pair .bool (.pair .bool (.pair .bool (.pair .bool (.pair .bool (.pair .bool (.pair .bool (.pair .bool (.pair .bool (.pair .bool (.pair .bool (.pair .bool (.pair .bool (.pair .bool (.pair .bool (.pair .bool (.pair .bool (.pair .bool (.pair .bool (.pair .bool (.pair .bool (.pair .bool (.pair .bool (.pair .bool (.pair .bool (.pair .bool (.pair .bool (.pair .bool (.pair .bool (.pair .bool (.pair .bool (.pair .bool (.pair .bool (.pair .bool (.pair .bool (.pair .bool (.pair .bool (.pair .bool (.pair .bool (.pair .bool (.pair .bool (.pair .bool (.pair .bool (.pair .bool (.pair .bool (.pair .bool (.pair .bool (.pair .bool (.pair .bool (.pair .bool (.pair .bool (.pair .bool (.pair .bool (.pair .bool (.pair .bool (.pair .bool (.pair .bool (.pair .bool (.pair .bool (.pair .bool (.pair .bool (.pair .bool (.pair .bool (.pair .bool (.pair .bool (.pair .bool (.pair .bool (.pair .bool (.pair .bool (.pair .bool (.pair .bool (.pair .bool (.pair .bool (.pair .bool (.pair .bool (.pair .bool (.pair .bool (.pair .bool (.pair .bool (.pair .bool (.pair .bool (.pair .bool (.pair .bool (.pair .bool (.pair .bool (.pair .bool (.pair .bool .bool)))))))))))))))))))))))))))))))))))))))))))))))))))))))))))))))))))))))))))))))))))))))))))))))))))))))))))))))))))))))))))))))))))))))))))))))))))))))))))))))))))))))))))))))))))))))))))))))))))))))))))))))))))))))))))))))))))))))))))))))))))))))))))))))], [(.str, false)]⟩),
    (62, ⟨[.io (.pair .bool (.pair .bool (.pair .bool (.pair .bool (.pair .bool (.pair .bool (.pair .bool (.pair .bool (.pair .bool (.pair .bool (.pair .bool (.pair .bool (.pair .bool (.pair .bool (.pair .bool (.pair .bool (.pair .bool (.pair .bool (.pair .bool (.pair .bool (.pair .bool (.pair .bool (.pair .bool (.pair .bool (.pair .bool (.pair .bool (.pair .bool (.pair .bool (.pair .bool (.pair .bool (.pair .bool (.pair .bool (.pair .bool (.pair .bool (.pair .bool (.pair .bool (.pair .bool (.pair .bool (.pair .bool (.pair .bool (.pair .bool (.pair .bool (.pair .bool (.pair .bool (.pair .bool (.pair .bool (.pair .bool (.pair .bool (.pair .bool (.pair .bool (.pair .bool (.pair .bool (.pair .bool (.pair .bool (.pair .bool (.pair .bool (.pair .bool (.pair .bool (.pair .bool (.pair .bool (.pair .bool (.pair .bool (.pair .bool (.pair .bool (.pair .bool (.pair .bool (.pair .bool (.pair .bool (.pair .bool (.pair .bool (.pair .bool (.pair .bool (.pair .bool (.pair .bool (.pair .bool (.pair .bool (.pair .bool (.pair .bool (.pair .bool (.pair .bool (.pair .bool (.pair .bool (.pair .bool (.pair .bool (.pair .bool (.pair .bool (.pair .bool (.pair .bool (.pair .bool (.pair .bool (.pair .bool (.pair .bool (.pair .bool (.pair .bool (.pair .bool (.pair .bool (.pair .bool (.pair .bool (.pair .bool (.pair .bool (.pair .bool (.pair .bool (.pair .bool (.pair .bool (.pair .bool (.pair .bool (.pair .bool (.pair .bool (.pair .bool (.pair .bool (.pair .bool (.pair .bool (.pair .bool (.pair .bool (.pair .bool (.pair .bool (.pair .bool (.pair .bool (.pair .bool (.pair .bool (.pair .bool (.pair .bool (.pair .bool (.pair .bool (.pair .bool (.pair .bool (.pair .bool (.pair .bool (.pair .bool (.pair .bool (.pair .bool (.pair .bool (.pair .bool (.pair .bool (.pair .bool (.pair .bool (.pair .bool (.pair .bool (.pair .bool (.pair .bool (.pair .bool (.pair .bool (.pair .bool (.pair .bool (.pair .bool (.pair .bool (.pair .bool (.pair .bool (.pair .bool (.pair .bool (.pair .bool (.pair .bool (.pair .bool (.pair .bool (.pair .bool (.pair .bool (.pair .bool (.pair .bool (.pair .bool (.pair .bool (.pair .bool (.pair .bool (.pair .bool (.pair .bool (.pair .bool (.pair .bool (.pair .bool (.pair .bool (.pair .bool (.pair .bool (.pair .bool (.pair .bool (.pair .bool (.pair .bool (.pair .bool (.pair .bool (.pair .bool (.pair .bool (.pair .bool (.pair .bool (.pair .bool (.pair .bool (.pair .bool (.pair .bool (.pair .bool (.pair .bool (.pair .bool (.pair .bool (.pair .bool (.pair .bool (.pair .bool (.pair .bool (.pair .bool (.pair .bool (.pair .bool (.pair .bool (.pair .bool (.pair .bool (.pair .bool (.pair .bool (.pair .bool (.pair .bool (.pair .bool (.pair .bool (.pair .bool (.pair .bool (.pair .bool (.pair .bool (.pair .bool (.pair .bool (.pair .bool (.pair .bool (.pair .bool (.pair .bool (.pair .bool (.pair .bool (.pair .bool (.pair .bool (.pair .bool (.pair .bool (.pair .bool (.pair .bool (.pair .bool (.pair .bool (.pair .bool (.pair .bool (.pair .bool (.pair .bool (.pair .bool (.pair .bool (.pair .bool (.pair .bool (.pair .bool (.pair .bool (.pair .bool (.pair .bool (.pair .bool (.pair .bool (.pair .bool (.pair .bool (.pair .bool (.pair .bool (.pair .bool (.pair .bool (.pair .bool (.pair .bool (.pair .bool (.pair .bool (.pair .bool (.pair .bool (.pair .bool (.pair .bool (.pair .bool (.pair .bool (.pair .bool .bool))))))))))))))))))))))))))))))))))))))))))))))))))))))))))))))))))))))))))))))))))))))))))))))))))))))))))))))))))))))))))))))))))))))))))))))))))))))))))))))))))))))))))))))))))))))))))))))))))))))))))))))))))))))))))))))))))))))))))))))))))))))))))))))), .val (.int .u8) false], [(.bool, false)]⟩),
    (52, ⟨[.val .str false, .val .str false], [(.str, false)]⟩),
    (18, ⟨[.val (.list (.pair (.int .u8) (.pair (.int .i64) .bool))) false, .val (.list (.int .u8)) false], [((.list (.pair (.int .i64) (.pair (.pair .bool (.list (.int .u32))) (.pair (.pair .bool (.list (.int .u32))) (.pair .str (.int .i64)))))), false), ((.pair (.int .i64) (.int .i64)), true)]⟩),
    (34, ⟨[.io (.pair (.list (.int .u8)) (.int .i64)), .val (.pair (.int .u8) (.pair (.int .i64) .bool)) true], [((.pair (.int .i64) (.pair (.pair .bool (.list (.int .u32))) (.pair (.pair .bool (.list (.int .u32))) (.pair .str (.int .i64))))), true), ((.int .i64), false)]⟩),
    (44, ⟨[.io (.pair (.list (.int .u8)) (.int .i64)), .val (.pair (.int .u8) (.pair (.int .i64) .bool)) true, .val (.int .i64) false, .val .bool false], [((.pair (.int .i64) (.pair (.pair .bool (.list (.int .u32))) (.pair (.pair .bool (.list (.int .u32))) (.pair .str (.int .i64))))), true), ((.int .i64), false)]⟩),
    (46, ⟨[.io (.pair (.list (.int .u8)) (.int .i64)), .val (.int .i64) false], [((.list (.int .u8)), false), (.bool, false)]⟩),
    (56, ⟨[.val (.int .i64) false], [((.pair (.int .i64) (.pair (.pair .bool (.list (.int .u32))) (.pair (.pair .bool (.list (.int .u32))) (.pair .str (.int .i64))))), true)]⟩),
    (57, ⟨[.val (.int .u64) false], [((.pair (.int .i64) (.pair (.pair .bool (.list (.int .u32))) (.pair (.pair .bool (.list (.int .u32))) (.pair .str (.int .i64))))), true)]⟩),
    (45, ⟨[.io (.pair (.list (.int .u8)) (.int .i64))], [((.pair (.int .i64) (.pair (.pair .bool (.list (.int .u32))) (.pair (.pair .bool (.list (.int .u32))) (.pair .str (.int .i64))))), true), ((.int .i64), false)]⟩),
    (47, ⟨[.val .str false, .val .str false], [(.str, false)]⟩),
    (8, ⟨[.val (.list (.int .u8)) false, .val (.list (.int .u8)) false], [(.bool, false)]⟩),
    (24, ⟨[.val (.list (.pair (.int .i64) (.pair (.pair .bool (.list (.int .u32))) (.pair (.pair .bool (.list (.int .u32))) (.pair .str (.int .i64)))))) false, .val (.list (.pair (.int .i64) (.pair (.pair .bool (.list (.int .u32))) (.pair (.pair .bool (.list (.int .u32))) (.pair .str (.int .i64)))))) false], [(.bool, false)]⟩),
    (39, ⟨[.val (.pair (.int .i64) (.pair (.pair .bool (.list (.int .u32))) (.pair (.pair .bool (.list (.int .u32))) (.pair .str (.int .i64))))) true, .val (.pair (.int .i64) (.pair (.pair .bool (.list (.int .u32))) (.pair (.pair .bool (.list (.int .u32))) (.pair .str (.int .i64))))) true], [(.bool, false)]⟩),
    (48, ⟨[.val (.pair .bool (.list (.int .u32))) true, .val (.pair .bool (.list (.int .u32))) true], [(.bool, false)]⟩),
    (61, ⟨[.val (.list (.int .u32)) false, .val (.list (.int .u32)) false], [(.bool, false)]⟩),
    (19, ⟨[.val (.int .i64) false, .val (.int .i64) false], [((.pair (.int .i64) (.int .i64)), true)]⟩)]
  known := [(5, true), (17, true), (33, true), (6, true), (15, true), (21, true), (27, true), (28, true), (20, true), (22, true), (35, true), (23, true), (29, true), (36, true), (37, true), (38, true), (11, true), (7, true), (10, true), (25, true), (40, true), (26, true), (41, true), (49, true), (50, true), (51, true), (62, true), (52, true), (42, true), (18, true), (34, true), (44, true), (46, true), (56, true), (57, true), (45, true), (47, true), (8, true), (24, true), (39, true), (48, true), (61, true), (19, true)]
  eqs := [(26, true)]
  hint := []
  keep := [] }
noncomputable def h5 : Hint := ⟨[(7, some [0, 1, 5, 6, 8]), (10, some [0, 1, 5, 6, 8, 13, 14]), (12, some [0, 1, 5, 6, 8, 13, 14]), (14, some [5, 6])], []⟩
noncomputable def h17 : Hint := ⟨[], []⟩
noncomputable def h33 : Hint := ⟨[(4, some [0, 2, 3]), (5, some [0, 2, 4]), (6, some [0, 2, 4]), (7, some [0, 2, 4])], []⟩
noncomputable def h6 : Hint := ⟨[(4, some [0, 1, 5]), (6, some [0, 1, 5]), (9, some [1, 5, 7, 8, 25, 26, 27]), (10, some [1, 5, 7, 8, 25, 26, 27]), (13, some [1, 5, 7, 8, 10, 25, 26, 27]), (15, some [1, 5, 7, 8, 10, 25, 26, 27]), (18, some [1, 5, 8, 11, 25, 26, 27]), (20, some [1, 5, 7, 8, 25, 26, 27]), (21, some [5, 7])], []⟩
noncomputable def h15 : Hint := ⟨[(3, some [0, 2]), (4, some [0, 2, 9, 10, 11]), (5, some [0, 2, 9, 10, 11]), (13, some [0, 2, 9, 10, 11]), (14, some [2])], []⟩
noncomputable def h21 : Hint := ⟨[], []⟩
noncomputable def h28 : Hint := ⟨[], []⟩
noncomputable def h20 : Hint := ⟨[(3, some [3, 6, 7, 8]), (4, some [3, 6, 7, 8]), (7, some [3, 6, 7, 8]), (8, some [3])], []⟩
noncomputable def h22 : Hint := ⟨[(6, some [])], []⟩
noncomputable def h35 : Hint := ⟨[], []⟩
noncomputable def h23 : Hint := ⟨[(8, some [0, 4, 5, 8]), (10, some [0, 4, 5]), (14, some [0, 5]), (18, some [0, 5]), (21, some [0, 4, 5]), (24, some [0, 4, 5, 9, 10]), (29, some [0, 4, 9, 11])], []⟩
noncomputable def h29 : Hint := ⟨[(14, some [0, 2])], []⟩
noncomputable def h36 : Hint := ⟨[(4, some [1, 2, 3, 8]), (5, some [1, 2, 3, 8, 17, 18, 19]), (6, some [1, 2, 3, 8, 17, 18, 19]), (9, some [1, 2, 3, 8]), (14, some [8, 11])], []⟩
noncomputable def h37 : Hint := ⟨[(2, some [0, 1]), (4, some [0, 1]), (5, some [0, 1])], []⟩
noncomputable def h38 : Hint := ⟨[(2, some [0, 1, 2, 3, 11, 12]), (3, some [0, 1, 2, 3, 11, 12]), (7, some [0, 1, 2, 3, 10, 11, 12]), (8, some [0, 1, 2, 3, 11, 12]), (9, some [0])], []⟩
noncomputable def h11 : Hint := ⟨[(4, some [0, 2, 3, 4]), (5, some [2, 3, 4, 18, 19, 20]), (6, some [2, 3, 4, 18, 19, 20]), (15, some [2, 3, 4, 8, 9, 18, 19, 20]), (16, some [2, 3, 4, 18, 19, 20]), (17, some [2, 3, 4])], []⟩
noncomputable def h7 : Hint := ⟨[], []⟩
noncomputable def h10 : Hint := ⟨[(3, some [0, 3]), (6, some [0, 3, 4]), (8, some [0, 3, 4, 5, 6]), (9, some [0, 3, 4, 5, 6]), (13, some [3, 4, 5, 6, 8, 9]), (16, some [0, 3, 4, 5, 6, 8, 10]), (19, some [0, 3, 4, 5, 6, 8, 10, 11]), (21, some [0, 3, 4, 5, 6, 8, 11]), (22, some [0, 3, 4, 5, 6, 11, 74, 75]), (23, some [0, 3, 4, 5, 6, 11, 74, 75]), (25, some [0, 3, 4, 5, 6, 11, 74, 75]), (26, some [3, 5, 6]), (30, some [3, 5])], []⟩
noncomputable def h25 : Hint := ⟨[], []⟩
noncomputable def h40 : Hint := ⟨[], []⟩
noncomputable def h26 : Hint := ⟨[(4, some [0, 4]), (7, some [0, 4, 5])], []⟩
noncomputable def h41 : Hint := ⟨[(3, some [0, 1]), (5, some [0, 1]), (8, some [0, 1])], []⟩
noncomputable def h49 : Hint := ⟨[(1, some [0, 1]), (2, some [0, 1]), (3, some [0])], []⟩
noncomputable def h50 : Hint := ⟨[(2, some [0, 2, 4]), (4, some [0, 2, 4]), (7, some [0, 2, 4, 5]), (3, some [0, 2, 4]), (8, some [2])], []⟩
noncomputable def h51 : Hint := ⟨[(1, some [0, 1]), (2, some [0, 1]), (3, some [0, 1]), (4, some [0])], []⟩
noncomputable def h62 : Hint := ⟨[], []⟩
noncomputable def h18 : Hint := ⟨[(4, some [0, 1, 5]), (7, some [1, 5, 7, 8, 22, 23, 24]), (8, some [1, 5, 7, 8, 22, 23, 24]), (12, some [1, 5, 7, 8, 10, 11, 22, 23, 24]), (14, some [1, 5, 7, 8, 22, 23, 24]), (15, some [1, 5, 7, 8]), (17, some [5, 8])], []⟩
noncomputable def h34 : Hint := ⟨[(12, some [4, 8]), (17, some [0, 3, 4, 10]), (18, some [0, 3, 4]), (21, some [3, 4, 12]), (23, some [4, 12])], []⟩
noncomputable def h44 : Hint := ⟨[(4, some [2, 3, 5, 8, 10]), (6, some [2, 3, 5, 8, 12, 25, 26, 27]), (7, some [2, 3, 5, 8, 12, 25, 26, 27]), (11, some [2, 3, 5, 8, 12, 14, 15, 25, 26, 27]), (12, some [2, 3, 5, 8, 12, 25, 26, 27]), (13, some [2, 3, 8, 12]), (15, some [8, 12])], []⟩
noncomputable def h46 : Hint := ⟨[(3, some [0, 1])], []⟩
noncomputable def h56 : Hint := ⟨[], []⟩
noncomputable def h57 : Hint := ⟨[(4, some [2, 3])], []⟩
noncomputable def h45 : Hint := ⟨[(4, some [0, 2, 4, 5]), (7, some [0, 2, 4, 5, 6]), (9, some [0, 2, 4, 5, 6]), (3, some [0, 2, 4, 5])], []⟩
noncomputable def h8 : Hint := ⟨[], []⟩
noncomputable def h24 : Hint := ⟨[(3, some [0, 1]), (4, some [0, 1, 5]), (6, some [0, 1, 5]), (5, some [0, 1, 5]), (8, some [])], []⟩
noncomputable def h39 : Hint := ⟨[], []⟩
noncomputable def h48 : Hint := ⟨[], []⟩
noncomputable def h61 : Hint := ⟨[(3, some [0, 1]), (4, some [0, 1, 5]), (6, some [0, 1, 5]), (5, some [0, 1, 5]), (8, some [])], []⟩
noncomputable def h19 : Hint := ⟨[], []⟩
noncomputable def Fn : List (Nat × Option (Func × Hint)) := [(5, some (Tryd.f5, h5)),
  (17, some (Tryd.f17, h17)),
  (33, some (Tryd.f33, h33)),
  (6, some (Tryd.f6, h6)),
  (15, some (Tryd.f15, h15)),
  (21, some (Tryd.f21, h21)),
  (28, some (Tryd.f28, h28)),
  (20, some (Tryd.f20, h20)),
  (22, some (Tryd.f22, h22)),
  (35, some (Tryd.f35, h35)),
  (23, some (Tryd.f23, h23)),
  (29, some (Tryd.f29, h29)),
  (36, some (Tryd.f36, h36)),
  (37, some (Tryd.f37, h37)),
  (38, some (Tryd.f38, h38)),
  (11, some (Tryd.f11, h11)),
  (7, some (Tryd.f7, h7)),
  (10, some (Tryd.f10, h10)),
  (25, some (Tryd.f25, h25)),
  (40, some (Tryd.f40, h40)),
  (26, some (Tryd.f26, h26)),
  (41, some (Tryd.f41, h41)),
  (49, some (Tryd.f49, h49)),
  (50, some (Tryd.f50, h50)),
  (51, some (Tryd.f51, h51)),
  (62, some (Tryd.f62, h62)),
  (18, some (Tryd.f18, h18)),
  (34, some (Tryd.f34, h34)),
  (44, some (Tryd.f44, h44)),
  (46, some (Tryd.f46, h46)),
  (56, some (Tryd.f56, h56)),
  (57, some (Tryd.f57, h57)),
  (45, some (Tryd.f45, h45)),
  (8, some (Tryd.f8, h8)),
  (24, some (Tryd.f24, h24)),
  (39, some (Tryd.f39, h39)),
  (48, some (Tryd.f48, h48)),
  (61, some (Tryd.f61, h61)),
  (19, some (Tryd.f19, h19))]
noncomputable def g27 (x : (E.sig 27).inK.T) : Option (E.sig 27).exK.T := some ((Lib.indexByte x.1 x.2.1.toNat.toUInt8, ()), ())
noncomputable def G : CallT E := gOne 27 g27 gNone
end Go.AM.PS

set_option linter.unusedVariables false
set_option maxRecDepth 100000
namespace Go.AM.PS
open Go.Proofs
theorem env_ok : EnvOk Tryd.prog E := by
  refine EnvOk.of_table (by kernel_rfl) ?_ ?_ ?_ ?_
  · repeat' first | exact trivial | refine ⟨⟨by kernel_rfl, by kernel_rfl, by kernel_rfl, by kernel_rfl⟩, ?_⟩
  · repeat' first | exact trivial | refine ⟨show _ = _ by kernel_rfl, ?_⟩ | refine ⟨⟨_, rfl, by kernel_rfl⟩, ?_⟩ | refine ⟨trivial, ?_⟩
  · repeat' first | exact trivial | refine ⟨⟨by kernel_rfl, by kernel_rfl, by kernel_rfl⟩, ?_⟩
  · repeat' first | exact trivial | refine ⟨by kernel_rfl, ?_⟩
theorem tab_ok : TabOk Tryd.prog Fn := by
  apply FnIn.of
  repeat' first | exact trivial | refine ⟨by kernel_rfl, ?_⟩
end Go.AM.PS

/- What strings.IndexByte answers, laid by the kit's program. No condition. -/
namespace Go.Proofs
open Go.Shelf
def Tryd.lays137_ren : Go.Shelf.Ren := ⟨fun | 137 => 27 | 217 => 43 | 266 => 55 | n => n, fun | 9 => 9 | 5 => 5 | 3 => 3 | n => n, fun | n => n⟩
theorem Tryd.lays137 : Go.Proofs.Lays.n137 Tryd.prog Tryd.lays137_ren := {
  mixed := by kernel_rfl
  f137 := Tryd.func27.trans (congrArg some (by kernel_rfl))
  f217 := Tryd.func43.trans (congrArg some (by kernel_rfl))
  f266 := Tryd.func55.trans (congrArg some (by kernel_rfl))
  t3 := Tryd.underlying3
  a3 := Tryd.isAgg3
  z3 := Tryd.sizeOf3
  v3 := Tryd.zeroValue3
  t5 := Tryd.underlying5
  a5 := Tryd.isAgg5
  z5 := Tryd.sizeOf5
  v5 := Tryd.zeroValue5
  t9 := Tryd.underlying9
  a9 := Tryd.isAgg9
  z9 := Tryd.sizeOf9
  v9 := Tryd.zeroValue9 }
open Go.RowKit in
/-- strings.IndexByte: "IndexByte returns the index of the first instance of c in s, or -1 if c is not present in s.": IT RETURNS 'Lib.indexByte s c'; the world is as it was. (LAID: no walk: one application.) -/
theorem Tryd.strings_IndexByte (s : ByteArray) (c : Int) (w : World) :
    Calls Tryd.prog 27 #[.string s, .int .u8 c] w fun e w' => e = .returned (.int .i64 (Lib.indexByte s.data.toList c.toNat.toUInt8)) ∧ w' = w := Any.strings_IndexByte Tryd.lays137 s c w
end Go.Proofs

/- The functions proved otherwise: strings.IndexByte; the calls of the machine are the program's. No condition. -/
set_option linter.unusedVariables false
namespace Go.AM.PS
open Go.Proofs
theorem g27_ok {x : (E.sig 27).inK.T} {r : (E.sig 27).exK.T} (h : g27 x = some r) : CallOk Tryd.prog (E.sig 27) 27 x r := by
  intro w X vs cs bs hX hnd hcb hargs
  obtain ⟨s, c, _⟩ := x
  obtain ⟨v, vs', bs1, bs2, rfl, rfl, ⟨hv, rfl⟩, v2, vs2, bs3, bs4, rfl, rfl, ⟨hv2, rfl⟩, rfl, rfl, rfl⟩ := hargs
  have e1 : v = .string (strOf s) := by simpa [Rep] using hv
  have e2 : v2 = .int .u8 c := by simpa [Rep] using hv2
  subst e1 e2
  cases h
  refine (Tryd.strings_IndexByte (strOf s) c w).mono ?_
  rintro e w' ⟨rfl, rfl⟩
  refine ⟨[.int .i64 (Lib.indexByte s c.toNat.toUInt8)], [], [], rfl, Gr.refl, fun _ _ _ => rfl, by simp, by simp, by simp, ?_, rfl, rfl⟩
  exact ⟨_, [], [], [], rfl, rfl, ⟨rfl, rfl⟩, rfl, rfl⟩
theorem calls_ok : CallsOk Tryd.prog E (callI E Fn G) := callI_sound env_ok tab_ok (gOne_ok (fun x r h => g27_ok h) gNone_ok)
#print axioms calls_ok
end Go.AM.PS

set_option maxRecDepth 100000
namespace Go.AM.PS
theorem packs_true : callI E Fn G 7 () = some ((true, ()), ()) := callI_of (d := 20) (k := 40) (by kernel_rfl)
end Go.AM.PS
