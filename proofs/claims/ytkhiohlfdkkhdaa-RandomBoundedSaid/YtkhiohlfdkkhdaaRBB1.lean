/- The functions written with fuel are those of the equations, part 1. Conditions: those of each lemma. -/
import Derived.Test.YtkhiohlfdkkhdaaRBE
import Derived.Test.YtkhiohlfdkkhdaaRBT
import Derived.Test.YtkhiohlfdkkhdaaRBP
set_option linter.unusedVariables false
set_option linter.unusedSimpArgs false
set_option maxRecDepth 100000
set_option maxHeartbeats 2000000
namespace Go.AM.RU
open Go.RowKit Go.Proofs.YtkhiohlfdkkhdaaW.PrintWords Go.Proofs.Ytkhiohlfdkkhdaa
theorem w64e (x : Int) : IntKind.wrap .i64 x = wrap64 x := by unfold Go.RowKit.wrap64; exact IntKind.wrap_i64 x
theorem wu32 (x : Int) : IntKind.wrap .u32 x = x % 4294967296 := IntKind.wrap_u32 x
theorem wu8 (x : Int) : IntKind.wrap .u8 x = x % 256 := IntKind.wrap_u8 x
theorem rdl (l : List Int) (i : Int) : List.getD l (Int.toNat i) (0 : Int) = rd l i := rfl
theorem not_lt' (a b : Int) : (¬ a < b) = (b ≤ a) := by simp
theorem shr1 (x : Int) : shrI .u64 x 1 = x / 2 := Int.fdiv_eq_ediv_of_nonneg _ (by decide)
theorem shlP (k : IntKind) (x y : Int) : shlI k x (Int.toNat y) = shl k x y := rfl
theorem shr30 (x : Int) : shrI .u64 x 30 = x / 1073741824 := Int.fdiv_eq_ediv_of_nonneg _ (by decide)
theorem shr27 (x : Int) : shrI .u64 x 27 = x / 134217728 := Int.fdiv_eq_ediv_of_nonneg _ (by decide)
theorem shr31 (x : Int) : shrI .u64 x 31 = x / 2147483648 := Int.fdiv_eq_ediv_of_nonneg _ (by decide)
theorem shr32 (x : Int) : shrI .u64 x 32 = x / 4294967296 := Int.fdiv_eq_ediv_of_nonneg _ (by decide)
theorem shr33 (x : Int) : shrI .u32 x 31 = x / 2147483648 := Int.fdiv_eq_ediv_of_nonneg _ (by decide)
theorem shr16 (x : Int) : shrI .u32 x 16 = x / 65536 := Int.fdiv_eq_ediv_of_nonneg _ (by decide)
theorem shr8 (x : Int) : shrI .u32 x 8 = x / 256 := Int.fdiv_eq_ediv_of_nonneg _ (by decide)
theorem quoi (x y : Int) : quoI .i64 x y = wrap64 (Int.tdiv x y) := w64e _
theorem quou (x y : Int) : quoI .u64 x y = IntKind.u64.wrap (Int.tdiv x y) := rfl
theorem biti (o : BinOp) (k : IntKind) (x y : Int) : bitI o k x y = Go.bits o k x y := by cases o <;> rfl
theorem quo32 (x y : Int) : quoI .u32 x y = (Int.tdiv x y) % 4294967296 := IntKind.wrap_u32 _
theorem w64u (x : Int) : wrap64 (x % 4294967296) = x % 4294967296 := by unfold wrap64; omega
theorem rd24 (l : List (Bool × List Int)) (i : Int) : List.getD l (Int.toNat i) (false, ([] : List Int)) = l.getD i.toNat (false, []) := rfl
theorem b76 {a b : Int} {r : Int × Int} (h : P.natural_at.f a b = some r) : F76 a b = some ((r, ()), ()) := by
  unfold P.natural_at.f at h
  rw [F76_eq]
  try simp only [decide_eq_true_eq, bne_iff_ne, beq_iff_eq, ne_eq, Bool.not_eq_true', Bool.not_eq_true, Bool.not_eq_false, w64e, wu32, wu8, gt_iff_lt, ge_iff_le, List.length_cons, List.length_nil, Nat.zero_add, Int.le_refl, true_and, and_true, rdl, rd24, List.replicate_zero, List.take_length, shr1, shlP, beq_eq_false_iff_ne, List.drop_zero, Int.toNat_natCast, not_lt', decide_true, decide_false, Option.bind_some, shr30, shr27, shr31, shr32, shr33, shr8, shr16, quoi, quou, quo32, w64u, biti, Int.emod_add_emod, Int.add_emod_emod, List.length_append, if_true, if_false, Bool.false_eq_true, Bool.true_eq_false, not_true_eq_false, not_false_eq_true, reduceCtorEq, Int.add_mul_emod_self_right, Int.natCast_pos, Int.zero_sub, false_and, and_false] at h ⊢
  repeat' first
    | (cases h; done)
    | (cases h; rfl)
    | (cases h; simp only [*]; done)
    | (split at h <;> rename_i hc <;> (try simp only [hc, decide_eq_true_eq, bne_iff_ne, beq_iff_eq, ne_eq, Bool.not_eq_true', Bool.not_eq_true, Bool.not_eq_false, w64e, wu32, wu8, gt_iff_lt, ge_iff_le, List.length_cons, List.length_nil, Nat.zero_add, Int.le_refl, true_and, and_true, rdl, rd24, List.replicate_zero, List.take_length, shr1, shlP, beq_eq_false_iff_ne, List.drop_zero, Int.toNat_natCast, not_lt', decide_true, decide_false, Option.bind_some, shr30, shr27, shr31, shr32, shr33, shr8, shr16, quoi, quou, quo32, w64u, biti, Int.emod_add_emod, Int.add_emod_emod, List.length_append, if_true, if_false, Bool.false_eq_true, Bool.true_eq_false, not_true_eq_false, not_false_eq_true, reduceCtorEq, Int.add_mul_emod_self_right, Int.natCast_pos, Int.zero_sub, false_and, and_false] at h ⊢))
    | (rw [if_pos (by omega)])
    | (rw [if_neg (by omega)])
    | (exfalso; omega)
    | fail

theorem b69 {a b : Int} {r : Int × Int} (h : P.integer_at.f a b = some r) : F69 a b = some ((r, ()), ()) := by
  unfold P.integer_at.f at h
  rw [F69_eq]
  try simp only [decide_eq_true_eq, bne_iff_ne, beq_iff_eq, ne_eq, Bool.not_eq_true', Bool.not_eq_true, Bool.not_eq_false, w64e, wu32, wu8, gt_iff_lt, ge_iff_le, List.length_cons, List.length_nil, Nat.zero_add, Int.le_refl, true_and, and_true, rdl, rd24, List.replicate_zero, List.take_length, shr1, shlP, beq_eq_false_iff_ne, List.drop_zero, Int.toNat_natCast, not_lt', decide_true, decide_false, Option.bind_some, shr30, shr27, shr31, shr32, shr33, shr8, shr16, quoi, quou, quo32, w64u, biti, Int.emod_add_emod, Int.add_emod_emod, List.length_append, if_true, if_false, Bool.false_eq_true, Bool.true_eq_false, not_true_eq_false, not_false_eq_true, reduceCtorEq, Int.add_mul_emod_self_right, Int.natCast_pos, Int.zero_sub, false_and, and_false] at h ⊢
  repeat' first
    | (cases h; done)
    | (cases h; rfl)
    | (cases h; simp only [*]; done)
    | (split at h <;> rename_i hc <;> (try simp only [hc, decide_eq_true_eq, bne_iff_ne, beq_iff_eq, ne_eq, Bool.not_eq_true', Bool.not_eq_true, Bool.not_eq_false, w64e, wu32, wu8, gt_iff_lt, ge_iff_le, List.length_cons, List.length_nil, Nat.zero_add, Int.le_refl, true_and, and_true, rdl, rd24, List.replicate_zero, List.take_length, shr1, shlP, beq_eq_false_iff_ne, List.drop_zero, Int.toNat_natCast, not_lt', decide_true, decide_false, Option.bind_some, shr30, shr27, shr31, shr32, shr33, shr8, shr16, quoi, quou, quo32, w64u, biti, Int.emod_add_emod, Int.add_emod_emod, List.length_append, if_true, if_false, Bool.false_eq_true, Bool.true_eq_false, not_true_eq_false, not_false_eq_true, reduceCtorEq, Int.add_mul_emod_self_right, Int.natCast_pos, Int.zero_sub, false_and, and_false] at h ⊢))
    | (rw [if_pos (by omega)])
    | (rw [if_neg (by omega)])
    | (exfalso; omega)
    | fail

theorem b37 {a b : Int} {r : Int × Int} (h : P.random_at.f a b = some r) : F37 a b = some ((r, ()), ()) := by
  unfold P.random_at.f at h
  rw [F37_eq]
  try simp only [decide_eq_true_eq, bne_iff_ne, beq_iff_eq, ne_eq, Bool.not_eq_true', Bool.not_eq_true, Bool.not_eq_false, w64e, wu32, wu8, gt_iff_lt, ge_iff_le, List.length_cons, List.length_nil, Nat.zero_add, Int.le_refl, true_and, and_true, rdl, rd24, List.replicate_zero, List.take_length, shr1, shlP, beq_eq_false_iff_ne, List.drop_zero, Int.toNat_natCast, not_lt', decide_true, decide_false, Option.bind_some, shr30, shr27, shr31, shr32, shr33, shr8, shr16, quoi, quou, quo32, w64u, biti, Int.emod_add_emod, Int.add_emod_emod, List.length_append, if_true, if_false, Bool.false_eq_true, Bool.true_eq_false, not_true_eq_false, not_false_eq_true, reduceCtorEq, Int.add_mul_emod_self_right, Int.natCast_pos, Int.zero_sub, false_and, and_false] at h ⊢
  repeat' first
    | (cases h; done)
    | (cases h; rfl)
    | (cases h; simp only [*]; done)
    | (split at h <;> rename_i hc <;> (try simp only [hc, decide_eq_true_eq, bne_iff_ne, beq_iff_eq, ne_eq, Bool.not_eq_true', Bool.not_eq_true, Bool.not_eq_false, w64e, wu32, wu8, gt_iff_lt, ge_iff_le, List.length_cons, List.length_nil, Nat.zero_add, Int.le_refl, true_and, and_true, rdl, rd24, List.replicate_zero, List.take_length, shr1, shlP, beq_eq_false_iff_ne, List.drop_zero, Int.toNat_natCast, not_lt', decide_true, decide_false, Option.bind_some, shr30, shr27, shr31, shr32, shr33, shr8, shr16, quoi, quou, quo32, w64u, biti, Int.emod_add_emod, Int.add_emod_emod, List.length_append, if_true, if_false, Bool.false_eq_true, Bool.true_eq_false, not_true_eq_false, not_false_eq_true, reduceCtorEq, Int.add_mul_emod_self_right, Int.natCast_pos, Int.zero_sub, false_and, and_false] at h ⊢))
    | (rw [if_pos (by omega)])
    | (rw [if_neg (by omega)])
    | (exfalso; omega)
    | fail

theorem b75 {l : List Int} {r : Bool} (h : P.natural_Valid.f l = some r) : F75 l = some ((r, ()), ()) := by
  unfold P.natural_Valid.f at h
  rw [F75_eq]
  try simp only [decide_eq_true_eq, bne_iff_ne, beq_iff_eq, ne_eq, Bool.not_eq_true', Bool.not_eq_true, Bool.not_eq_false, w64e, wu32, wu8, gt_iff_lt, ge_iff_le, List.length_cons, List.length_nil, Nat.zero_add, Int.le_refl, true_and, and_true, rdl, rd24, List.replicate_zero, List.take_length, shr1, shlP, beq_eq_false_iff_ne, List.drop_zero, Int.toNat_natCast, not_lt', decide_true, decide_false, Option.bind_some, shr30, shr27, shr31, shr32, shr33, shr8, shr16, quoi, quou, quo32, w64u, biti, Int.emod_add_emod, Int.add_emod_emod, List.length_append, if_true, if_false, Bool.false_eq_true, Bool.true_eq_false, not_true_eq_false, not_false_eq_true, reduceCtorEq, Int.add_mul_emod_self_right, Int.natCast_pos, Int.zero_sub, false_and, and_false] at h ⊢
  repeat' first
    | (cases h; done)
    | (cases h; rfl)
    | (cases h; simp only [*]; done)
    | (split at h <;> rename_i hc <;> (try simp only [hc, decide_eq_true_eq, bne_iff_ne, beq_iff_eq, ne_eq, Bool.not_eq_true', Bool.not_eq_true, Bool.not_eq_false, w64e, wu32, wu8, gt_iff_lt, ge_iff_le, List.length_cons, List.length_nil, Nat.zero_add, Int.le_refl, true_and, and_true, rdl, rd24, List.replicate_zero, List.take_length, shr1, shlP, beq_eq_false_iff_ne, List.drop_zero, Int.toNat_natCast, not_lt', decide_true, decide_false, Option.bind_some, shr30, shr27, shr31, shr32, shr33, shr8, shr16, quoi, quou, quo32, w64u, biti, Int.emod_add_emod, Int.add_emod_emod, List.length_append, if_true, if_false, Bool.false_eq_true, Bool.true_eq_false, not_true_eq_false, not_false_eq_true, reduceCtorEq, Int.add_mul_emod_self_right, Int.natCast_pos, Int.zero_sub, false_and, and_false] at h ⊢))
    | (rw [if_pos (by omega)])
    | (rw [if_neg (by omega)])
    | (exfalso; omega)
    | fail

theorem b36 {c : Bool} {l : List Int} {r : Bool} (h : P.integer_Valid.f c l = some r) : F36 (c, l) = some ((r, ()), ()) := by
  unfold P.integer_Valid.f at h
  rw [F36_eq]
  try simp only [decide_eq_true_eq, bne_iff_ne, beq_iff_eq, ne_eq, Bool.not_eq_true', Bool.not_eq_true, Bool.not_eq_false, w64e, wu32, wu8, gt_iff_lt, ge_iff_le, List.length_cons, List.length_nil, Nat.zero_add, Int.le_refl, true_and, and_true, rdl, rd24, List.replicate_zero, List.take_length, shr1, shlP, beq_eq_false_iff_ne, List.drop_zero, Int.toNat_natCast, not_lt', decide_true, decide_false, Option.bind_some, shr30, shr27, shr31, shr32, shr33, shr8, shr16, quoi, quou, quo32, w64u, biti, Int.emod_add_emod, Int.add_emod_emod, List.length_append, if_true, if_false, Bool.false_eq_true, Bool.true_eq_false, not_true_eq_false, not_false_eq_true, reduceCtorEq, Int.add_mul_emod_self_right, Int.natCast_pos, Int.zero_sub, false_and, and_false] at h ⊢
  repeat' first
    | (cases h; done)
    | (cases h; rfl)
    | (cases h; simp only [*]; done)
    | (split at h <;> rename_i hc <;> (try simp only [hc, decide_eq_true_eq, bne_iff_ne, beq_iff_eq, ne_eq, Bool.not_eq_true', Bool.not_eq_true, Bool.not_eq_false, w64e, wu32, wu8, gt_iff_lt, ge_iff_le, List.length_cons, List.length_nil, Nat.zero_add, Int.le_refl, true_and, and_true, rdl, rd24, List.replicate_zero, List.take_length, shr1, shlP, beq_eq_false_iff_ne, List.drop_zero, Int.toNat_natCast, not_lt', decide_true, decide_false, Option.bind_some, shr30, shr27, shr31, shr32, shr33, shr8, shr16, quoi, quou, quo32, w64u, biti, Int.emod_add_emod, Int.add_emod_emod, List.length_append, if_true, if_false, Bool.false_eq_true, Bool.true_eq_false, not_true_eq_false, not_false_eq_true, reduceCtorEq, Int.add_mul_emod_self_right, Int.natCast_pos, Int.zero_sub, false_and, and_false] at h ⊢))
    | (rw [if_pos (by omega)])
    | (rw [if_neg (by omega)])
    | (exfalso; omega)
    | fail

theorem b12 {c : Bool} {l : List Int} {r : Bool} (h : P.brindlewoodref3_IntOk.f c l = some r) : F12 (c, l) = some ((r, ()), ()) := by
  unfold P.brindlewoodref3_IntOk.f at h
  rw [F12_eq]
  try simp only [decide_eq_true_eq, bne_iff_ne, beq_iff_eq, ne_eq, Bool.not_eq_true', Bool.not_eq_true, Bool.not_eq_false, w64e, wu32, wu8, gt_iff_lt, ge_iff_le, List.length_cons, List.length_nil, Nat.zero_add, Int.le_refl, true_and, and_true, rdl, rd24, List.replicate_zero, List.take_length, shr1, shlP, beq_eq_false_iff_ne, List.drop_zero, Int.toNat_natCast, not_lt', decide_true, decide_false, Option.bind_some, shr30, shr27, shr31, shr32, shr33, shr8, shr16, quoi, quou, quo32, w64u, biti, Int.emod_add_emod, Int.add_emod_emod, List.length_append, if_true, if_false, Bool.false_eq_true, Bool.true_eq_false, not_true_eq_false, not_false_eq_true, reduceCtorEq, Int.add_mul_emod_self_right, Int.natCast_pos, Int.zero_sub, false_and, and_false] at h ⊢
  repeat' first
    | (cases h; done)
    | (cases h; rfl)
    | (cases h; simp only [*]; done)
    | (split at h <;> rename_i hc <;> (try simp only [hc, decide_eq_true_eq, bne_iff_ne, beq_iff_eq, ne_eq, Bool.not_eq_true', Bool.not_eq_true, Bool.not_eq_false, w64e, wu32, wu8, gt_iff_lt, ge_iff_le, List.length_cons, List.length_nil, Nat.zero_add, Int.le_refl, true_and, and_true, rdl, rd24, List.replicate_zero, List.take_length, shr1, shlP, beq_eq_false_iff_ne, List.drop_zero, Int.toNat_natCast, not_lt', decide_true, decide_false, Option.bind_some, shr30, shr27, shr31, shr32, shr33, shr8, shr16, quoi, quou, quo32, w64u, biti, Int.emod_add_emod, Int.add_emod_emod, List.length_append, if_true, if_false, Bool.false_eq_true, Bool.true_eq_false, not_true_eq_false, not_false_eq_true, reduceCtorEq, Int.add_mul_emod_self_right, Int.natCast_pos, Int.zero_sub, false_and, and_false] at h ⊢))
    | (rw [if_pos (by omega)])
    | (rw [if_neg (by omega)])
    | (exfalso; omega)
    | fail

theorem b18 {c : Bool} {l : List Int} {r : Bool} (h : P.brindlewoodref3_NoInt.f c l = some r) : F18 (c, l) = some ((r, ()), ()) := by
  unfold P.brindlewoodref3_NoInt.f at h
  rw [F18_eq]
  try simp only [decide_eq_true_eq, bne_iff_ne, beq_iff_eq, ne_eq, Bool.not_eq_true', Bool.not_eq_true, Bool.not_eq_false, w64e, wu32, wu8, gt_iff_lt, ge_iff_le, List.length_cons, List.length_nil, Nat.zero_add, Int.le_refl, true_and, and_true, rdl, rd24, List.replicate_zero, List.take_length, shr1, shlP, beq_eq_false_iff_ne, List.drop_zero, Int.toNat_natCast, not_lt', decide_true, decide_false, Option.bind_some, shr30, shr27, shr31, shr32, shr33, shr8, shr16, quoi, quou, quo32, w64u, biti, Int.emod_add_emod, Int.add_emod_emod, List.length_append, if_true, if_false, Bool.false_eq_true, Bool.true_eq_false, not_true_eq_false, not_false_eq_true, reduceCtorEq, Int.add_mul_emod_self_right, Int.natCast_pos, Int.zero_sub, false_and, and_false] at h ⊢
  repeat' first
    | (cases h; done)
    | (cases h; rfl)
    | (cases h; simp only [*]; done)
    | (split at h <;> rename_i hc <;> (try simp only [hc, decide_eq_true_eq, bne_iff_ne, beq_iff_eq, ne_eq, Bool.not_eq_true', Bool.not_eq_true, Bool.not_eq_false, w64e, wu32, wu8, gt_iff_lt, ge_iff_le, List.length_cons, List.length_nil, Nat.zero_add, Int.le_refl, true_and, and_true, rdl, rd24, List.replicate_zero, List.take_length, shr1, shlP, beq_eq_false_iff_ne, List.drop_zero, Int.toNat_natCast, not_lt', decide_true, decide_false, Option.bind_some, shr30, shr27, shr31, shr32, shr33, shr8, shr16, quoi, quou, quo32, w64u, biti, Int.emod_add_emod, Int.add_emod_emod, List.length_append, if_true, if_false, Bool.false_eq_true, Bool.true_eq_false, not_true_eq_false, not_false_eq_true, reduceCtorEq, Int.add_mul_emod_self_right, Int.natCast_pos, Int.zero_sub, false_and, and_false] at h ⊢))
    | (rw [if_pos (by omega)])
    | (rw [if_neg (by omega)])
    | (exfalso; omega)
    | fail

theorem b70 {a b : List Int} {r : Int × Int} (h : P.natural_check.f a b = some r) : F70 a b = some ((r, ()), ()) := by
  unfold P.natural_check.f at h
  rw [F70_eq]
  try simp only [F70_J5_eq]
  try simp only [decide_eq_true_eq, bne_iff_ne, beq_iff_eq, ne_eq, Bool.not_eq_true', Bool.not_eq_true, Bool.not_eq_false, w64e, wu32, wu8, gt_iff_lt, ge_iff_le, List.length_cons, List.length_nil, Nat.zero_add, Int.le_refl, true_and, and_true, rdl, rd24, List.replicate_zero, List.take_length, shr1, shlP, beq_eq_false_iff_ne, List.drop_zero, Int.toNat_natCast, not_lt', decide_true, decide_false, Option.bind_some, shr30, shr27, shr31, shr32, shr33, shr8, shr16, quoi, quou, quo32, w64u, biti, Int.emod_add_emod, Int.add_emod_emod, List.length_append, if_true, if_false, Bool.false_eq_true, Bool.true_eq_false, not_true_eq_false, not_false_eq_true, reduceCtorEq, Int.add_mul_emod_self_right, Int.natCast_pos, Int.zero_sub, false_and, and_false] at h ⊢
  repeat' first
    | (cases h; done)
    | (cases h; rfl)
    | (cases h; simp only [*]; done)
    | (obtain ⟨t, ht, h⟩ := Option.bind_eq_some_iff.1 h; (first | replace ht := b75 ht | replace ht := b76 ht); simp only [ht, Option.bind_some])
    | (replace h := b75 h; simp only [h, Option.bind_some]; done)
    | (replace h := b76 h; simp only [h, Option.bind_some]; done)
    | (split at h <;> rename_i hc <;> (try simp only [hc, decide_eq_true_eq, bne_iff_ne, beq_iff_eq, ne_eq, Bool.not_eq_true', Bool.not_eq_true, Bool.not_eq_false, w64e, wu32, wu8, gt_iff_lt, ge_iff_le, List.length_cons, List.length_nil, Nat.zero_add, Int.le_refl, true_and, and_true, rdl, rd24, List.replicate_zero, List.take_length, shr1, shlP, beq_eq_false_iff_ne, List.drop_zero, Int.toNat_natCast, not_lt', decide_true, decide_false, Option.bind_some, shr30, shr27, shr31, shr32, shr33, shr8, shr16, quoi, quou, quo32, w64u, biti, Int.emod_add_emod, Int.add_emod_emod, List.length_append, if_true, if_false, Bool.false_eq_true, Bool.true_eq_false, not_true_eq_false, not_false_eq_true, reduceCtorEq, Int.add_mul_emod_self_right, Int.natCast_pos, Int.zero_sub, false_and, and_false] at h ⊢))
    | (rw [if_pos (by omega)])
    | (rw [if_neg (by omega)])
    | (exfalso; omega)
    | fail

theorem b81_loops : ∀ n : Nat, (∀ k, k ≤ n → ∀ (x0 : List Int) {r : List Int}, P.natural_trim.l0 k x0 = some r → F81_L1 x0 = some ((r, ()), ()))
  | 0 => fun k hk x0 r h => by
    obtain rfl : k = 0 := by omega
    unfold P.natural_trim.l0 at h; cases h
  | n + 1 => by
    have ih0 := b81_loops n
    intro k hk x0 r h
    cases k with
    | zero => unfold P.natural_trim.l0 at h; cases h
    | succ k =>
    unfold P.natural_trim.l0 at h
    rw [F81_L1_eq]
    try simp only [F81_J2_eq, F81_J3_eq]
    try simp only [decide_eq_true_eq, bne_iff_ne, beq_iff_eq, ne_eq, Bool.not_eq_true', Bool.not_eq_true, Bool.not_eq_false, w64e, wu32, wu8, gt_iff_lt, ge_iff_le, List.length_cons, List.length_nil, Nat.zero_add, Int.le_refl, true_and, and_true, rdl, rd24, List.replicate_zero, List.take_length, shr1, shlP, beq_eq_false_iff_ne, List.drop_zero, Int.toNat_natCast, not_lt', decide_true, decide_false, Option.bind_some, shr30, shr27, shr31, shr32, shr33, shr8, shr16, quoi, quou, quo32, w64u, biti, Int.emod_add_emod, Int.add_emod_emod, List.length_append, if_true, if_false, Bool.false_eq_true, Bool.true_eq_false, not_true_eq_false, not_false_eq_true, reduceCtorEq, Int.add_mul_emod_self_right, Int.natCast_pos, Int.zero_sub, false_and, and_false] at h ⊢
    repeat' first
      | (cases h; done)
      | (cases h; rfl)
      | (cases h; simp only [*]; done)
      | exact (ih0 _ (by omega) _) h
      | (split at h <;> rename_i hc <;> (try simp only [hc, decide_eq_true_eq, bne_iff_ne, beq_iff_eq, ne_eq, Bool.not_eq_true', Bool.not_eq_true, Bool.not_eq_false, w64e, wu32, wu8, gt_iff_lt, ge_iff_le, List.length_cons, List.length_nil, Nat.zero_add, Int.le_refl, true_and, and_true, rdl, rd24, List.replicate_zero, List.take_length, shr1, shlP, beq_eq_false_iff_ne, List.drop_zero, Int.toNat_natCast, not_lt', decide_true, decide_false, Option.bind_some, shr30, shr27, shr31, shr32, shr33, shr8, shr16, quoi, quou, quo32, w64u, biti, Int.emod_add_emod, Int.add_emod_emod, List.length_append, if_true, if_false, Bool.false_eq_true, Bool.true_eq_false, not_true_eq_false, not_false_eq_true, reduceCtorEq, Int.add_mul_emod_self_right, Int.natCast_pos, Int.zero_sub, false_and, and_false] at h ⊢))
      | (rw [if_pos (by omega)])
      | (rw [if_neg (by omega)])
      | (exfalso; omega)
      | fail

theorem b81_L1 {k : Nat} {x0 : List Int} {r : List Int} (h : P.natural_trim.l0 k x0 = some r) : F81_L1 x0 = some ((r, ()), ()) := (b81_loops k) k (Nat.le_refl _) _ h

theorem b81 {k : Nat} {l : List Int} {r : List Int} (h : P.natural_trim.f k l = some r) : F81 l = some ((r, ()), ()) := by
  rw [F81_eq]; exact b81_L1 h

theorem b65_loops : ∀ n : Nat, (∀ k, k ≤ n → ∀ (x0 : List Int) {r : List Int}, P.brindlewoodref3_trim.l0 k x0 = some r → F65_L1 x0 = some ((r, ()), ()))
  | 0 => fun k hk x0 r h => by
    obtain rfl : k = 0 := by omega
    unfold P.brindlewoodref3_trim.l0 at h; cases h
  | n + 1 => by
    have ih0 := b65_loops n
    intro k hk x0 r h
    cases k with
    | zero => unfold P.brindlewoodref3_trim.l0 at h; cases h
    | succ k =>
    unfold P.brindlewoodref3_trim.l0 at h
    rw [F65_L1_eq]
    try simp only [F65_J2_eq, F65_J3_eq]
    try simp only [decide_eq_true_eq, bne_iff_ne, beq_iff_eq, ne_eq, Bool.not_eq_true', Bool.not_eq_true, Bool.not_eq_false, w64e, wu32, wu8, gt_iff_lt, ge_iff_le, List.length_cons, List.length_nil, Nat.zero_add, Int.le_refl, true_and, and_true, rdl, rd24, List.replicate_zero, List.take_length, shr1, shlP, beq_eq_false_iff_ne, List.drop_zero, Int.toNat_natCast, not_lt', decide_true, decide_false, Option.bind_some, shr30, shr27, shr31, shr32, shr33, shr8, shr16, quoi, quou, quo32, w64u, biti, Int.emod_add_emod, Int.add_emod_emod, List.length_append, if_true, if_false, Bool.false_eq_true, Bool.true_eq_false, not_true_eq_false, not_false_eq_true, reduceCtorEq, Int.add_mul_emod_self_right, Int.natCast_pos, Int.zero_sub, false_and, and_false] at h ⊢
    repeat' first
      | (cases h; done)
      | (cases h; rfl)
      | (cases h; simp only [*]; done)
      | exact (ih0 _ (by omega) _) h
      | (split at h <;> rename_i hc <;> (try simp only [hc, decide_eq_true_eq, bne_iff_ne, beq_iff_eq, ne_eq, Bool.not_eq_true', Bool.not_eq_true, Bool.not_eq_false, w64e, wu32, wu8, gt_iff_lt, ge_iff_le, List.length_cons, List.length_nil, Nat.zero_add, Int.le_refl, true_and, and_true, rdl, rd24, List.replicate_zero, List.take_length, shr1, shlP, beq_eq_false_iff_ne, List.drop_zero, Int.toNat_natCast, not_lt', decide_true, decide_false, Option.bind_some, shr30, shr27, shr31, shr32, shr33, shr8, shr16, quoi, quou, quo32, w64u, biti, Int.emod_add_emod, Int.add_emod_emod, List.length_append, if_true, if_false, Bool.false_eq_true, Bool.true_eq_false, not_true_eq_false, not_false_eq_true, reduceCtorEq, Int.add_mul_emod_self_right, Int.natCast_pos, Int.zero_sub, false_and, and_false] at h ⊢))
      | (rw [if_pos (by omega)])
      | (rw [if_neg (by omega)])
      | (exfalso; omega)
      | fail

theorem b65_L1 {k : Nat} {x0 : List Int} {r : List Int} (h : P.brindlewoodref3_trim.l0 k x0 = some r) : F65_L1 x0 = some ((r, ()), ()) := (b65_loops k) k (Nat.le_refl _) _ h

theorem b65 {k : Nat} {l : List Int} {r : List Int} (h : P.brindlewoodref3_trim.f k l = some r) : F65 l = some ((r, ()), ()) := by
  rw [F65_eq]; exact b65_L1 h

theorem b71_loops : ∀ n : Nat, (∀ k, k ≤ n → ∀ (x0 x1 : List Int) (x2 : Int) {r : Int}, P.natural_compare.l0 k x0 x1 x2 = some r → F71_L4 x0 x1 x2 = some ((r, ()), ()))
  | 0 => fun k hk x0 x1 x2 r h => by
    obtain rfl : k = 0 := by omega
    unfold P.natural_compare.l0 at h; cases h
  | n + 1 => by
    have ih0 := b71_loops n
    intro k hk x0 x1 x2 r h
    cases k with
    | zero => unfold P.natural_compare.l0 at h; cases h
    | succ k =>
    unfold P.natural_compare.l0 at h
    rw [F71_L4_eq]
    try simp only [F71_J3_eq, F71_J6_eq, F71_J10_eq, F71_J9_eq, F71_J5_eq]
    try simp only [decide_eq_true_eq, bne_iff_ne, beq_iff_eq, ne_eq, Bool.not_eq_true', Bool.not_eq_true, Bool.not_eq_false, w64e, wu32, wu8, gt_iff_lt, ge_iff_le, List.length_cons, List.length_nil, Nat.zero_add, Int.le_refl, true_and, and_true, rdl, rd24, List.replicate_zero, List.take_length, shr1, shlP, beq_eq_false_iff_ne, List.drop_zero, Int.toNat_natCast, not_lt', decide_true, decide_false, Option.bind_some, shr30, shr27, shr31, shr32, shr33, shr8, shr16, quoi, quou, quo32, w64u, biti, Int.emod_add_emod, Int.add_emod_emod, List.length_append, if_true, if_false, Bool.false_eq_true, Bool.true_eq_false, not_true_eq_false, not_false_eq_true, reduceCtorEq, Int.add_mul_emod_self_right, Int.natCast_pos, Int.zero_sub, false_and, and_false] at h ⊢
    repeat' first
      | (cases h; done)
      | (cases h; rfl)
      | (cases h; simp only [*]; done)
      | exact (ih0 _ (by omega) _ _ _) h
      | (split at h <;> rename_i hc <;> (try simp only [hc, decide_eq_true_eq, bne_iff_ne, beq_iff_eq, ne_eq, Bool.not_eq_true', Bool.not_eq_true, Bool.not_eq_false, w64e, wu32, wu8, gt_iff_lt, ge_iff_le, List.length_cons, List.length_nil, Nat.zero_add, Int.le_refl, true_and, and_true, rdl, rd24, List.replicate_zero, List.take_length, shr1, shlP, beq_eq_false_iff_ne, List.drop_zero, Int.toNat_natCast, not_lt', decide_true, decide_false, Option.bind_some, shr30, shr27, shr31, shr32, shr33, shr8, shr16, quoi, quou, quo32, w64u, biti, Int.emod_add_emod, Int.add_emod_emod, List.length_append, if_true, if_false, Bool.false_eq_true, Bool.true_eq_false, not_true_eq_false, not_false_eq_true, reduceCtorEq, Int.add_mul_emod_self_right, Int.natCast_pos, Int.zero_sub, false_and, and_false] at h ⊢))
      | (rw [if_pos (by omega)])
      | (rw [if_neg (by omega)])
      | (exfalso; omega)
      | fail

theorem b71_L4 {k : Nat} {x0 x1 : List Int} {x2 : Int} {r : Int} (h : P.natural_compare.l0 k x0 x1 x2 = some r) : F71_L4 x0 x1 x2 = some ((r, ()), ()) := (b71_loops k) k (Nat.le_refl _) _ _ _ h

theorem b71 {k : Nat} {a b : List Int} {r : Int} (h : P.natural_compare.f k a b = some r) : F71 a b = some ((r, ()), ()) := by
  unfold P.natural_compare.f at h
  rw [F71_eq]
  try simp only [F71_J3_eq, F71_J6_eq, F71_J10_eq, F71_J9_eq, F71_J5_eq]
  try simp only [decide_eq_true_eq, bne_iff_ne, beq_iff_eq, ne_eq, Bool.not_eq_true', Bool.not_eq_true, Bool.not_eq_false, w64e, wu32, wu8, gt_iff_lt, ge_iff_le, List.length_cons, List.length_nil, Nat.zero_add, Int.le_refl, true_and, and_true, rdl, rd24, List.replicate_zero, List.take_length, shr1, shlP, beq_eq_false_iff_ne, List.drop_zero, Int.toNat_natCast, not_lt', decide_true, decide_false, Option.bind_some, shr30, shr27, shr31, shr32, shr33, shr8, shr16, quoi, quou, quo32, w64u, biti, Int.emod_add_emod, Int.add_emod_emod, List.length_append, if_true, if_false, Bool.false_eq_true, Bool.true_eq_false, not_true_eq_false, not_false_eq_true, reduceCtorEq, Int.add_mul_emod_self_right, Int.natCast_pos, Int.zero_sub, false_and, and_false] at h ⊢
  repeat' first
    | (cases h; done)
    | (cases h; rfl)
    | (cases h; simp only [*]; done)
    | (with_reducible exact b71_L4 h)
    | (split at h <;> rename_i hc <;> (try simp only [hc, decide_eq_true_eq, bne_iff_ne, beq_iff_eq, ne_eq, Bool.not_eq_true', Bool.not_eq_true, Bool.not_eq_false, w64e, wu32, wu8, gt_iff_lt, ge_iff_le, List.length_cons, List.length_nil, Nat.zero_add, Int.le_refl, true_and, and_true, rdl, rd24, List.replicate_zero, List.take_length, shr1, shlP, beq_eq_false_iff_ne, List.drop_zero, Int.toNat_natCast, not_lt', decide_true, decide_false, Option.bind_some, shr30, shr27, shr31, shr32, shr33, shr8, shr16, quoi, quou, quo32, w64u, biti, Int.emod_add_emod, Int.add_emod_emod, List.length_append, if_true, if_false, Bool.false_eq_true, Bool.true_eq_false, not_true_eq_false, not_false_eq_true, reduceCtorEq, Int.add_mul_emod_self_right, Int.natCast_pos, Int.zero_sub, false_and, and_false] at h ⊢))
    | (rw [if_pos (by omega)])
    | (rw [if_neg (by omega)])
    | (exfalso; omega)
    | fail

theorem b63 {k : Nat} {a b : List Int} {r : Int × Int × Int} (h : P.natural_Cmp.f k a b = some r) : F63 a b = some ((r.1, (r.2, ())), ()) := by
  unfold P.natural_Cmp.f at h
  rw [F63_eq]
  try simp only [F63_J4_eq]
  try simp only [decide_eq_true_eq, bne_iff_ne, beq_iff_eq, ne_eq, Bool.not_eq_true', Bool.not_eq_true, Bool.not_eq_false, w64e, wu32, wu8, gt_iff_lt, ge_iff_le, List.length_cons, List.length_nil, Nat.zero_add, Int.le_refl, true_and, and_true, rdl, rd24, List.replicate_zero, List.take_length, shr1, shlP, beq_eq_false_iff_ne, List.drop_zero, Int.toNat_natCast, not_lt', decide_true, decide_false, Option.bind_some, shr30, shr27, shr31, shr32, shr33, shr8, shr16, quoi, quou, quo32, w64u, biti, Int.emod_add_emod, Int.add_emod_emod, List.length_append, if_true, if_false, Bool.false_eq_true, Bool.true_eq_false, not_true_eq_false, not_false_eq_true, reduceCtorEq, Int.add_mul_emod_self_right, Int.natCast_pos, Int.zero_sub, false_and, and_false] at h ⊢
  repeat' first
    | (cases h; done)
    | (cases h; rfl)
    | (cases h; simp only [*]; done)
    | (obtain ⟨t, ht, h⟩ := Option.bind_eq_some_iff.1 h; (first | replace ht := b70 ht | replace ht := b71 ht); simp only [ht, Option.bind_some])
    | (replace h := b70 h; simp only [h, Option.bind_some]; done)
    | (replace h := b71 h; simp only [h, Option.bind_some]; done)
    | (split at h <;> rename_i hc <;> (try simp only [hc, decide_eq_true_eq, bne_iff_ne, beq_iff_eq, ne_eq, Bool.not_eq_true', Bool.not_eq_true, Bool.not_eq_false, w64e, wu32, wu8, gt_iff_lt, ge_iff_le, List.length_cons, List.length_nil, Nat.zero_add, Int.le_refl, true_and, and_true, rdl, rd24, List.replicate_zero, List.take_length, shr1, shlP, beq_eq_false_iff_ne, List.drop_zero, Int.toNat_natCast, not_lt', decide_true, decide_false, Option.bind_some, shr30, shr27, shr31, shr32, shr33, shr8, shr16, quoi, quou, quo32, w64u, biti, Int.emod_add_emod, Int.add_emod_emod, List.length_append, if_true, if_false, Bool.false_eq_true, Bool.true_eq_false, not_true_eq_false, not_false_eq_true, reduceCtorEq, Int.add_mul_emod_self_right, Int.natCast_pos, Int.zero_sub, false_and, and_false] at h ⊢))
    | (rw [if_pos (by omega)])
    | (rw [if_neg (by omega)])
    | (exfalso; omega)
    | fail

theorem b78 {k : Nat} {a : List Int} {r : List Int × Int × Int} (h : P.natural_fit.f k a = some r) : F78 a = some ((r.1, (r.2, ())), ()) := by
  unfold P.natural_fit.f at h
  rw [F78_eq]
  try simp only [F78_J4_eq]
  try simp only [decide_eq_true_eq, bne_iff_ne, beq_iff_eq, ne_eq, Bool.not_eq_true', Bool.not_eq_true, Bool.not_eq_false, w64e, wu32, wu8, gt_iff_lt, ge_iff_le, List.length_cons, List.length_nil, Nat.zero_add, Int.le_refl, true_and, and_true, rdl, rd24, List.replicate_zero, List.take_length, shr1, shlP, beq_eq_false_iff_ne, List.drop_zero, Int.toNat_natCast, not_lt', decide_true, decide_false, Option.bind_some, shr30, shr27, shr31, shr32, shr33, shr8, shr16, quoi, quou, quo32, w64u, biti, Int.emod_add_emod, Int.add_emod_emod, List.length_append, if_true, if_false, Bool.false_eq_true, Bool.true_eq_false, not_true_eq_false, not_false_eq_true, reduceCtorEq, Int.add_mul_emod_self_right, Int.natCast_pos, Int.zero_sub, false_and, and_false] at h ⊢
  repeat' first
    | (cases h; done)
    | (cases h; rfl)
    | (cases h; simp only [*]; done)
    | (obtain ⟨t, ht, h⟩ := Option.bind_eq_some_iff.1 h; (first | replace ht := b81 ht | replace ht := b76 ht); simp only [ht, Option.bind_some])
    | (replace h := b81 h; simp only [h, Option.bind_some]; done)
    | (replace h := b76 h; simp only [h, Option.bind_some]; done)
    | (split at h <;> rename_i hc <;> (try simp only [hc, decide_eq_true_eq, bne_iff_ne, beq_iff_eq, ne_eq, Bool.not_eq_true', Bool.not_eq_true, Bool.not_eq_false, w64e, wu32, wu8, gt_iff_lt, ge_iff_le, List.length_cons, List.length_nil, Nat.zero_add, Int.le_refl, true_and, and_true, rdl, rd24, List.replicate_zero, List.take_length, shr1, shlP, beq_eq_false_iff_ne, List.drop_zero, Int.toNat_natCast, not_lt', decide_true, decide_false, Option.bind_some, shr30, shr27, shr31, shr32, shr33, shr8, shr16, quoi, quou, quo32, w64u, biti, Int.emod_add_emod, Int.add_emod_emod, List.length_append, if_true, if_false, Bool.false_eq_true, Bool.true_eq_false, not_true_eq_false, not_false_eq_true, reduceCtorEq, Int.add_mul_emod_self_right, Int.natCast_pos, Int.zero_sub, false_and, and_false] at h ⊢))
    | (rw [if_pos (by omega)])
    | (rw [if_neg (by omega)])
    | (exfalso; omega)
    | fail

theorem b79_loops : ∀ n : Nat, (∀ k, k ≤ n → ∀ (x1 x5 : List Int) (x6 : Int) (x20 : List Int) (x21 x22 : Int) {r : List Int}, P.natural_add.l0 k x1 x5 x6 x20 x21 x22 = some r → F79_L6 x1 x6 x20 x21 x22 x5 = some ((r, ()), ()))
  | 0 => fun k hk x1 x5 x6 x20 x21 x22 r h => by
    obtain rfl : k = 0 := by omega
    unfold P.natural_add.l0 at h; cases h
  | n + 1 => by
    have ih0 := b79_loops n
    intro k hk x1 x5 x6 x20 x21 x22 r h
    cases k with
    | zero => unfold P.natural_add.l0 at h; cases h
    | succ k =>
    unfold P.natural_add.l0 at h
    rw [F79_L6_eq]
    try simp only [F79_J3_eq, F79_J7_eq, F79_J14_eq, F79_J11_eq, F79_J13_eq]
    try simp only [decide_eq_true_eq, bne_iff_ne, beq_iff_eq, ne_eq, Bool.not_eq_true', Bool.not_eq_true, Bool.not_eq_false, w64e, wu32, wu8, gt_iff_lt, ge_iff_le, List.length_cons, List.length_nil, Nat.zero_add, Int.le_refl, true_and, and_true, rdl, rd24, List.replicate_zero, List.take_length, shr1, shlP, beq_eq_false_iff_ne, List.drop_zero, Int.toNat_natCast, not_lt', decide_true, decide_false, Option.bind_some, shr30, shr27, shr31, shr32, shr33, shr8, shr16, quoi, quou, quo32, w64u, biti, Int.emod_add_emod, Int.add_emod_emod, List.length_append, if_true, if_false, Bool.false_eq_true, Bool.true_eq_false, not_true_eq_false, not_false_eq_true, reduceCtorEq, Int.add_mul_emod_self_right, Int.natCast_pos, Int.zero_sub, false_and, and_false] at h ⊢
    repeat' first
      | (cases h; done)
      | (cases h; rfl)
      | (cases h; simp only [*]; done)
      | exact (ih0 _ (by omega) _ _ _ _ _ _) h
      | (obtain ⟨t, ht, h⟩ := Option.bind_eq_some_iff.1 h; (first | replace ht := b81 ht); simp only [ht, Option.bind_some])
      | (replace h := b81 h; simp only [h, Option.bind_some]; done)
      | (split at h <;> rename_i hc <;> (try simp only [hc, decide_eq_true_eq, bne_iff_ne, beq_iff_eq, ne_eq, Bool.not_eq_true', Bool.not_eq_true, Bool.not_eq_false, w64e, wu32, wu8, gt_iff_lt, ge_iff_le, List.length_cons, List.length_nil, Nat.zero_add, Int.le_refl, true_and, and_true, rdl, rd24, List.replicate_zero, List.take_length, shr1, shlP, beq_eq_false_iff_ne, List.drop_zero, Int.toNat_natCast, not_lt', decide_true, decide_false, Option.bind_some, shr30, shr27, shr31, shr32, shr33, shr8, shr16, quoi, quou, quo32, w64u, biti, Int.emod_add_emod, Int.add_emod_emod, List.length_append, if_true, if_false, Bool.false_eq_true, Bool.true_eq_false, not_true_eq_false, not_false_eq_true, reduceCtorEq, Int.add_mul_emod_self_right, Int.natCast_pos, Int.zero_sub, false_and, and_false] at h ⊢))
      | (rw [if_pos (by omega)])
      | (rw [if_neg (by omega)])
      | (exfalso; omega)
      | fail

theorem b79_L6 {k : Nat} {x1 x5 : List Int} {x6 : Int} {x20 : List Int} {x21 x22 : Int} {r : List Int} (h : P.natural_add.l0 k x1 x5 x6 x20 x21 x22 = some r) : F79_L6 x1 x6 x20 x21 x22 x5 = some ((r, ()), ()) := (b79_loops k) k (Nat.le_refl _) _ _ _ _ _ _ h

theorem b53_loops : ∀ n : Nat, (∀ k, k ≤ n → ∀ (x0 x1 x2 : List Int) (x3 x4 : Int) {r : List Int}, P.brindlewoodref3_Plus.l0 k x0 x1 x2 x3 x4 = some r → F53_L4 x0 x1 x3 x4 x2 = some ((r, ()), ()))
  | 0 => fun k hk x0 x1 x2 x3 x4 r h => by
    obtain rfl : k = 0 := by omega
    unfold P.brindlewoodref3_Plus.l0 at h; cases h
  | n + 1 => by
    have ih0 := b53_loops n
    intro k hk x0 x1 x2 x3 x4 r h
    cases k with
    | zero => unfold P.brindlewoodref3_Plus.l0 at h; cases h
    | succ k =>
    unfold P.brindlewoodref3_Plus.l0 at h
    rw [F53_L4_eq]
    try simp only [F53_J6_eq, F53_J12_eq, F53_J8_eq, F53_J10_eq, F53_J5_eq]
    try simp only [decide_eq_true_eq, bne_iff_ne, beq_iff_eq, ne_eq, Bool.not_eq_true', Bool.not_eq_true, Bool.not_eq_false, w64e, wu32, wu8, gt_iff_lt, ge_iff_le, List.length_cons, List.length_nil, Nat.zero_add, Int.le_refl, true_and, and_true, rdl, rd24, List.replicate_zero, List.take_length, shr1, shlP, beq_eq_false_iff_ne, List.drop_zero, Int.toNat_natCast, not_lt', decide_true, decide_false, Option.bind_some, shr30, shr27, shr31, shr32, shr33, shr8, shr16, quoi, quou, quo32, w64u, biti, Int.emod_add_emod, Int.add_emod_emod, List.length_append, if_true, if_false, Bool.false_eq_true, Bool.true_eq_false, not_true_eq_false, not_false_eq_true, reduceCtorEq, Int.add_mul_emod_self_right, Int.natCast_pos, Int.zero_sub, false_and, and_false] at h ⊢
    repeat' first
      | (cases h; done)
      | (cases h; rfl)
      | (cases h; simp only [*]; done)
      | exact (ih0 _ (by omega) _ _ _ _ _) h
      | (obtain ⟨t, ht, h⟩ := Option.bind_eq_some_iff.1 h; (first | replace ht := b65 ht); simp only [ht, Option.bind_some])
      | (replace h := b65 h; simp only [h, Option.bind_some]; done)
      | (split at h <;> rename_i hc <;> (try simp only [hc, decide_eq_true_eq, bne_iff_ne, beq_iff_eq, ne_eq, Bool.not_eq_true', Bool.not_eq_true, Bool.not_eq_false, w64e, wu32, wu8, gt_iff_lt, ge_iff_le, List.length_cons, List.length_nil, Nat.zero_add, Int.le_refl, true_and, and_true, rdl, rd24, List.replicate_zero, List.take_length, shr1, shlP, beq_eq_false_iff_ne, List.drop_zero, Int.toNat_natCast, not_lt', decide_true, decide_false, Option.bind_some, shr30, shr27, shr31, shr32, shr33, shr8, shr16, quoi, quou, quo32, w64u, biti, Int.emod_add_emod, Int.add_emod_emod, List.length_append, if_true, if_false, Bool.false_eq_true, Bool.true_eq_false, not_true_eq_false, not_false_eq_true, reduceCtorEq, Int.add_mul_emod_self_right, Int.natCast_pos, Int.zero_sub, false_and, and_false] at h ⊢))
      | (rw [if_pos (by omega)])
      | (rw [if_neg (by omega)])
      | (unfold P.brindlewoodref3_Plus.j1 at h; (try simp only [decide_eq_true_eq, bne_iff_ne, beq_iff_eq, ne_eq, Bool.not_eq_true', Bool.not_eq_true, Bool.not_eq_false, w64e, wu32, wu8, gt_iff_lt, ge_iff_le, List.length_cons, List.length_nil, Nat.zero_add, Int.le_refl, true_and, and_true, rdl, rd24, List.replicate_zero, List.take_length, shr1, shlP, beq_eq_false_iff_ne, List.drop_zero, Int.toNat_natCast, not_lt', decide_true, decide_false, Option.bind_some, shr30, shr27, shr31, shr32, shr33, shr8, shr16, quoi, quou, quo32, w64u, biti, Int.emod_add_emod, Int.add_emod_emod, List.length_append, if_true, if_false, Bool.false_eq_true, Bool.true_eq_false, not_true_eq_false, not_false_eq_true, reduceCtorEq, Int.add_mul_emod_self_right, Int.natCast_pos, Int.zero_sub, false_and, and_false] at h))
      | (exfalso; omega)
      | fail

theorem b53_L4 {k : Nat} {x0 x1 x2 : List Int} {x3 x4 : Int} {r : List Int} (h : P.brindlewoodref3_Plus.l0 k x0 x1 x2 x3 x4 = some r) : F53_L4 x0 x1 x3 x4 x2 = some ((r, ()), ()) := (b53_loops k) k (Nat.le_refl _) _ _ _ _ _ h

theorem b54_loops : ∀ n : Nat, (∀ k, k ≤ n → ∀ (x0 x1 x2 : List Int) (x3 x4 : Int) {r : List Int}, P.brindlewoodref3_Minus.l0 k x0 x1 x2 x3 x4 = some r → F54_L4 x0 x1 x3 x4 x2 = some ((r, ()), ()))
  | 0 => fun k hk x0 x1 x2 x3 x4 r h => by
    obtain rfl : k = 0 := by omega
    unfold P.brindlewoodref3_Minus.l0 at h; cases h
  | n + 1 => by
    have ih0 := b54_loops n
    intro k hk x0 x1 x2 x3 x4 r h
    cases k with
    | zero => unfold P.brindlewoodref3_Minus.l0 at h; cases h
    | succ k =>
    unfold P.brindlewoodref3_Minus.l0 at h
    rw [F54_L4_eq]
    try simp only [F54_J6_eq, F54_J14_eq, F54_J9_eq, F54_J13_eq, F54_J5_eq]
    try simp only [decide_eq_true_eq, bne_iff_ne, beq_iff_eq, ne_eq, Bool.not_eq_true', Bool.not_eq_true, Bool.not_eq_false, w64e, wu32, wu8, gt_iff_lt, ge_iff_le, List.length_cons, List.length_nil, Nat.zero_add, Int.le_refl, true_and, and_true, rdl, rd24, List.replicate_zero, List.take_length, shr1, shlP, beq_eq_false_iff_ne, List.drop_zero, Int.toNat_natCast, not_lt', decide_true, decide_false, Option.bind_some, shr30, shr27, shr31, shr32, shr33, shr8, shr16, quoi, quou, quo32, w64u, biti, Int.emod_add_emod, Int.add_emod_emod, List.length_append, if_true, if_false, Bool.false_eq_true, Bool.true_eq_false, not_true_eq_false, not_false_eq_true, reduceCtorEq, Int.add_mul_emod_self_right, Int.natCast_pos, Int.zero_sub, false_and, and_false] at h ⊢
    repeat' first
      | (cases h; done)
      | (cases h; rfl)
      | (cases h; simp only [*]; done)
      | exact (ih0 _ (by omega) _ _ _ _ _) h
      | (obtain ⟨t, ht, h⟩ := Option.bind_eq_some_iff.1 h; (first | replace ht := b65 ht); simp only [ht, Option.bind_some])
      | (replace h := b65 h; simp only [h, Option.bind_some]; done)
      | (split at h <;> rename_i hc <;> (try simp only [hc, decide_eq_true_eq, bne_iff_ne, beq_iff_eq, ne_eq, Bool.not_eq_true', Bool.not_eq_true, Bool.not_eq_false, w64e, wu32, wu8, gt_iff_lt, ge_iff_le, List.length_cons, List.length_nil, Nat.zero_add, Int.le_refl, true_and, and_true, rdl, rd24, List.replicate_zero, List.take_length, shr1, shlP, beq_eq_false_iff_ne, List.drop_zero, Int.toNat_natCast, not_lt', decide_true, decide_false, Option.bind_some, shr30, shr27, shr31, shr32, shr33, shr8, shr16, quoi, quou, quo32, w64u, biti, Int.emod_add_emod, Int.add_emod_emod, List.length_append, if_true, if_false, Bool.false_eq_true, Bool.true_eq_false, not_true_eq_false, not_false_eq_true, reduceCtorEq, Int.add_mul_emod_self_right, Int.natCast_pos, Int.zero_sub, false_and, and_false] at h ⊢))
      | (rw [if_pos (by omega)])
      | (rw [if_neg (by omega)])
      | (exfalso; omega)
      | fail

theorem b54_L4 {k : Nat} {x0 x1 x2 : List Int} {x3 x4 : Int} {r : List Int} (h : P.brindlewoodref3_Minus.l0 k x0 x1 x2 x3 x4 = some r) : F54_L4 x0 x1 x3 x4 x2 = some ((r, ()), ()) := (b54_loops k) k (Nat.le_refl _) _ _ _ _ _ h

theorem b52_loops : ∀ n : Nat, (∀ k, k ≤ n → ∀ (x0 x1 : List Int) (x2 : Int) {r : Int}, P.brindlewoodref3_Compare.l0 k x0 x1 x2 = some r → F52_L6 x0 x1 x2 = some ((r, ()), ()))
  | 0 => fun k hk x0 x1 x2 r h => by
    obtain rfl : k = 0 := by omega
    unfold P.brindlewoodref3_Compare.l0 at h; cases h
  | n + 1 => by
    have ih0 := b52_loops n
    intro k hk x0 x1 x2 r h
    cases k with
    | zero => unfold P.brindlewoodref3_Compare.l0 at h; cases h
    | succ k =>
    unfold P.brindlewoodref3_Compare.l0 at h
    rw [F52_L6_eq]
    try simp only [F52_J4_eq, F52_J5_eq, F52_J8_eq, F52_J12_eq, F52_J10_eq, F52_J7_eq]
    try simp only [decide_eq_true_eq, bne_iff_ne, beq_iff_eq, ne_eq, Bool.not_eq_true', Bool.not_eq_true, Bool.not_eq_false, w64e, wu32, wu8, gt_iff_lt, ge_iff_le, List.length_cons, List.length_nil, Nat.zero_add, Int.le_refl, true_and, and_true, rdl, rd24, List.replicate_zero, List.take_length, shr1, shlP, beq_eq_false_iff_ne, List.drop_zero, Int.toNat_natCast, not_lt', decide_true, decide_false, Option.bind_some, shr30, shr27, shr31, shr32, shr33, shr8, shr16, quoi, quou, quo32, w64u, biti, Int.emod_add_emod, Int.add_emod_emod, List.length_append, if_true, if_false, Bool.false_eq_true, Bool.true_eq_false, not_true_eq_false, not_false_eq_true, reduceCtorEq, Int.add_mul_emod_self_right, Int.natCast_pos, Int.zero_sub, false_and, and_false] at h ⊢
    repeat' first
      | (cases h; done)
      | (cases h; rfl)
      | (cases h; simp only [*]; done)
      | exact (ih0 _ (by omega) _ _ _) h
      | (split at h <;> rename_i hc <;> (try simp only [hc, decide_eq_true_eq, bne_iff_ne, beq_iff_eq, ne_eq, Bool.not_eq_true', Bool.not_eq_true, Bool.not_eq_false, w64e, wu32, wu8, gt_iff_lt, ge_iff_le, List.length_cons, List.length_nil, Nat.zero_add, Int.le_refl, true_and, and_true, rdl, rd24, List.replicate_zero, List.take_length, shr1, shlP, beq_eq_false_iff_ne, List.drop_zero, Int.toNat_natCast, not_lt', decide_true, decide_false, Option.bind_some, shr30, shr27, shr31, shr32, shr33, shr8, shr16, quoi, quou, quo32, w64u, biti, Int.emod_add_emod, Int.add_emod_emod, List.length_append, if_true, if_false, Bool.false_eq_true, Bool.true_eq_false, not_true_eq_false, not_false_eq_true, reduceCtorEq, Int.add_mul_emod_self_right, Int.natCast_pos, Int.zero_sub, false_and, and_false] at h ⊢))
      | (rw [if_pos (by omega)])
      | (rw [if_neg (by omega)])
      | (exfalso; omega)
      | fail

theorem b52_L6 {k : Nat} {x0 x1 : List Int} {x2 : Int} {r : Int} (h : P.brindlewoodref3_Compare.l0 k x0 x1 x2 = some r) : F52_L6 x0 x1 x2 = some ((r, ()), ()) := (b52_loops k) k (Nat.le_refl _) _ _ _ h

theorem b34_loops : ∀ n : Nat, (∀ k, k ≤ n → ∀ (x0 x1 : List Int) (x2 : Int) {r : List Int}, P.brindlewoodref3_Limbs.l0 k x0 x1 x2 = some r → F34_L3 x0 x2 x1 = some ((r, ()), ()))
  | 0 => fun k hk x0 x1 x2 r h => by
    obtain rfl : k = 0 := by omega
    unfold P.brindlewoodref3_Limbs.l0 at h; cases h
  | n + 1 => by
    have ih0 := b34_loops n
    intro k hk x0 x1 x2 r h
    cases k with
    | zero => unfold P.brindlewoodref3_Limbs.l0 at h; cases h
    | succ k =>
    unfold P.brindlewoodref3_Limbs.l0 at h
    rw [F34_L3_eq]
    try simp only [F34_J5_eq, F34_J9_eq, F34_J8_eq, F34_J4_eq]
    try simp only [decide_eq_true_eq, bne_iff_ne, beq_iff_eq, ne_eq, Bool.not_eq_true', Bool.not_eq_true, Bool.not_eq_false, w64e, wu32, wu8, gt_iff_lt, ge_iff_le, List.length_cons, List.length_nil, Nat.zero_add, Int.le_refl, true_and, and_true, rdl, rd24, List.replicate_zero, List.take_length, shr1, shlP, beq_eq_false_iff_ne, List.drop_zero, Int.toNat_natCast, not_lt', decide_true, decide_false, Option.bind_some, shr30, shr27, shr31, shr32, shr33, shr8, shr16, quoi, quou, quo32, w64u, biti, Int.emod_add_emod, Int.add_emod_emod, List.length_append, if_true, if_false, Bool.false_eq_true, Bool.true_eq_false, not_true_eq_false, not_false_eq_true, reduceCtorEq, Int.add_mul_emod_self_right, Int.natCast_pos, Int.zero_sub, false_and, and_false] at h ⊢
    repeat' first
      | (cases h; done)
      | (cases h; rfl)
      | (cases h; simp only [*]; done)
      | exact (ih0 _ (by omega) _ _ _) h
      | (obtain ⟨t, ht, h⟩ := Option.bind_eq_some_iff.1 h; (first | replace ht := b65 ht); simp only [ht, Option.bind_some])
      | (replace h := b65 h; simp only [h, Option.bind_some]; done)
      | (split at h <;> rename_i hc <;> (try simp only [hc, decide_eq_true_eq, bne_iff_ne, beq_iff_eq, ne_eq, Bool.not_eq_true', Bool.not_eq_true, Bool.not_eq_false, w64e, wu32, wu8, gt_iff_lt, ge_iff_le, List.length_cons, List.length_nil, Nat.zero_add, Int.le_refl, true_and, and_true, rdl, rd24, List.replicate_zero, List.take_length, shr1, shlP, beq_eq_false_iff_ne, List.drop_zero, Int.toNat_natCast, not_lt', decide_true, decide_false, Option.bind_some, shr30, shr27, shr31, shr32, shr33, shr8, shr16, quoi, quou, quo32, w64u, biti, Int.emod_add_emod, Int.add_emod_emod, List.length_append, if_true, if_false, Bool.false_eq_true, Bool.true_eq_false, not_true_eq_false, not_false_eq_true, reduceCtorEq, Int.add_mul_emod_self_right, Int.natCast_pos, Int.zero_sub, false_and, and_false] at h ⊢))
      | (rw [if_pos (by omega)])
      | (rw [if_neg (by omega)])
      | (exfalso; omega)
      | fail

theorem b34_L3 {k : Nat} {x0 x1 : List Int} {x2 : Int} {r : List Int} (h : P.brindlewoodref3_Limbs.l0 k x0 x1 x2 = some r) : F34_L3 x0 x2 x1 = some ((r, ()), ()) := (b34_loops k) k (Nat.le_refl _) _ _ _ h

theorem b50_loops : ∀ n : Nat, (∀ k, k ≤ n → ∀ (x0 x1 : List Int) (x2 : Int) {r : List Int}, P.brindlewoodref3_Of.l0 k x0 x1 x2 = some r → F50_L3 x0 x2 x1 = some ((r, ()), ()))
  | 0 => fun k hk x0 x1 x2 r h => by
    obtain rfl : k = 0 := by omega
    unfold P.brindlewoodref3_Of.l0 at h; cases h
  | n + 1 => by
    have ih0 := b50_loops n
    intro k hk x0 x1 x2 r h
    cases k with
    | zero => unfold P.brindlewoodref3_Of.l0 at h; cases h
    | succ k =>
    unfold P.brindlewoodref3_Of.l0 at h
    rw [F50_L3_eq]
    try simp only [F50_J5_eq, F50_J6_eq]
    try simp only [decide_eq_true_eq, bne_iff_ne, beq_iff_eq, ne_eq, Bool.not_eq_true', Bool.not_eq_true, Bool.not_eq_false, w64e, wu32, wu8, gt_iff_lt, ge_iff_le, List.length_cons, List.length_nil, Nat.zero_add, Int.le_refl, true_and, and_true, rdl, rd24, List.replicate_zero, List.take_length, shr1, shlP, beq_eq_false_iff_ne, List.drop_zero, Int.toNat_natCast, not_lt', decide_true, decide_false, Option.bind_some, shr30, shr27, shr31, shr32, shr33, shr8, shr16, quoi, quou, quo32, w64u, biti, Int.emod_add_emod, Int.add_emod_emod, List.length_append, if_true, if_false, Bool.false_eq_true, Bool.true_eq_false, not_true_eq_false, not_false_eq_true, reduceCtorEq, Int.add_mul_emod_self_right, Int.natCast_pos, Int.zero_sub, false_and, and_false] at h ⊢
    repeat' first
      | (cases h; done)
      | (cases h; rfl)
      | (cases h; simp only [*]; done)
      | exact (ih0 _ (by omega) _ _ _) h
      | (obtain ⟨t, ht, h⟩ := Option.bind_eq_some_iff.1 h; (first | replace ht := b65 ht); simp only [ht, Option.bind_some])
      | (replace h := b65 h; simp only [h, Option.bind_some]; done)
      | (split at h <;> rename_i hc <;> (try simp only [hc, decide_eq_true_eq, bne_iff_ne, beq_iff_eq, ne_eq, Bool.not_eq_true', Bool.not_eq_true, Bool.not_eq_false, w64e, wu32, wu8, gt_iff_lt, ge_iff_le, List.length_cons, List.length_nil, Nat.zero_add, Int.le_refl, true_and, and_true, rdl, rd24, List.replicate_zero, List.take_length, shr1, shlP, beq_eq_false_iff_ne, List.drop_zero, Int.toNat_natCast, not_lt', decide_true, decide_false, Option.bind_some, shr30, shr27, shr31, shr32, shr33, shr8, shr16, quoi, quou, quo32, w64u, biti, Int.emod_add_emod, Int.add_emod_emod, List.length_append, if_true, if_false, Bool.false_eq_true, Bool.true_eq_false, not_true_eq_false, not_false_eq_true, reduceCtorEq, Int.add_mul_emod_self_right, Int.natCast_pos, Int.zero_sub, false_and, and_false] at h ⊢))
      | (rw [if_pos (by omega)])
      | (rw [if_neg (by omega)])
      | (exfalso; omega)
      | fail

theorem b50_L3 {k : Nat} {x0 x1 : List Int} {x2 : Int} {r : List Int} (h : P.brindlewoodref3_Of.l0 k x0 x1 x2 = some r) : F50_L3 x0 x2 x1 = some ((r, ()), ()) := (b50_loops k) k (Nat.le_refl _) _ _ _ h

theorem b38 {a : Int} {r : Int} (h : P.random_mix.f a = some r) : F38 a = some ((r, ()), ()) := by
  unfold P.random_mix.f at h
  rw [F38_eq]
  try simp only [decide_eq_true_eq, bne_iff_ne, beq_iff_eq, ne_eq, Bool.not_eq_true', Bool.not_eq_true, Bool.not_eq_false, w64e, wu32, wu8, gt_iff_lt, ge_iff_le, List.length_cons, List.length_nil, Nat.zero_add, Int.le_refl, true_and, and_true, rdl, rd24, List.replicate_zero, List.take_length, shr1, shlP, beq_eq_false_iff_ne, List.drop_zero, Int.toNat_natCast, not_lt', decide_true, decide_false, Option.bind_some, shr30, shr27, shr31, shr32, shr33, shr8, shr16, quoi, quou, quo32, w64u, biti, Int.emod_add_emod, Int.add_emod_emod, List.length_append, if_true, if_false, Bool.false_eq_true, Bool.true_eq_false, not_true_eq_false, not_false_eq_true, reduceCtorEq, Int.add_mul_emod_self_right, Int.natCast_pos, Int.zero_sub, false_and, and_false] at h ⊢
  repeat' first
    | (cases h; done)
    | (cases h; rfl)
    | (cases h; simp only [*]; done)
    | (split at h <;> rename_i hc <;> (try simp only [hc, decide_eq_true_eq, bne_iff_ne, beq_iff_eq, ne_eq, Bool.not_eq_true', Bool.not_eq_true, Bool.not_eq_false, w64e, wu32, wu8, gt_iff_lt, ge_iff_le, List.length_cons, List.length_nil, Nat.zero_add, Int.le_refl, true_and, and_true, rdl, rd24, List.replicate_zero, List.take_length, shr1, shlP, beq_eq_false_iff_ne, List.drop_zero, Int.toNat_natCast, not_lt', decide_true, decide_false, Option.bind_some, shr30, shr27, shr31, shr32, shr33, shr8, shr16, quoi, quou, quo32, w64u, biti, Int.emod_add_emod, Int.add_emod_emod, List.length_append, if_true, if_false, Bool.false_eq_true, Bool.true_eq_false, not_true_eq_false, not_false_eq_true, reduceCtorEq, Int.add_mul_emod_self_right, Int.natCast_pos, Int.zero_sub, false_and, and_false] at h ⊢))
    | (rw [if_pos (by omega)])
    | (rw [if_neg (by omega)])
    | (exfalso; omega)
    | fail

theorem b42 {a : Int} {r : Int} (h : P.brindlewoodref4_Mixed.f a = some r) : F42 a = some ((r, ()), ()) := by
  unfold P.brindlewoodref4_Mixed.f at h
  rw [F42_eq]
  try simp only [decide_eq_true_eq, bne_iff_ne, beq_iff_eq, ne_eq, Bool.not_eq_true', Bool.not_eq_true, Bool.not_eq_false, w64e, wu32, wu8, gt_iff_lt, ge_iff_le, List.length_cons, List.length_nil, Nat.zero_add, Int.le_refl, true_and, and_true, rdl, rd24, List.replicate_zero, List.take_length, shr1, shlP, beq_eq_false_iff_ne, List.drop_zero, Int.toNat_natCast, not_lt', decide_true, decide_false, Option.bind_some, shr30, shr27, shr31, shr32, shr33, shr8, shr16, quoi, quou, quo32, w64u, biti, Int.emod_add_emod, Int.add_emod_emod, List.length_append, if_true, if_false, Bool.false_eq_true, Bool.true_eq_false, not_true_eq_false, not_false_eq_true, reduceCtorEq, Int.add_mul_emod_self_right, Int.natCast_pos, Int.zero_sub, false_and, and_false] at h ⊢
  repeat' first
    | (cases h; done)
    | (cases h; rfl)
    | (cases h; simp only [*]; done)
    | (split at h <;> rename_i hc <;> (try simp only [hc, decide_eq_true_eq, bne_iff_ne, beq_iff_eq, ne_eq, Bool.not_eq_true', Bool.not_eq_true, Bool.not_eq_false, w64e, wu32, wu8, gt_iff_lt, ge_iff_le, List.length_cons, List.length_nil, Nat.zero_add, Int.le_refl, true_and, and_true, rdl, rd24, List.replicate_zero, List.take_length, shr1, shlP, beq_eq_false_iff_ne, List.drop_zero, Int.toNat_natCast, not_lt', decide_true, decide_false, Option.bind_some, shr30, shr27, shr31, shr32, shr33, shr8, shr16, quoi, quou, quo32, w64u, biti, Int.emod_add_emod, Int.add_emod_emod, List.length_append, if_true, if_false, Bool.false_eq_true, Bool.true_eq_false, not_true_eq_false, not_false_eq_true, reduceCtorEq, Int.add_mul_emod_self_right, Int.natCast_pos, Int.zero_sub, false_and, and_false] at h ⊢))
    | (rw [if_pos (by omega)])
    | (rw [if_neg (by omega)])
    | (exfalso; omega)
    | fail
end Go.AM.RU

set_option linter.unusedVariables false
set_option linter.unusedSimpArgs false
set_option maxRecDepth 100000
set_option maxHeartbeats 2000000
namespace Go.AM.RU
open Go.RowKit Go.Proofs.YtkhiohlfdkkhdaaW.PrintWords Go.Proofs.Ytkhiohlfdkkhdaa
theorem rdmap (l : List P.S24) (i : Int) : List.getD (l.map fun s => (s.f0, s.f1)) (Int.toNat i) (false, ([] : List Int)) = ((P.rd_T24 l i).f0, (P.rd_T24 l i).f1) := by
  unfold P.rd_T24 P.z24
  simp only [List.getD_eq_getElem?_getD, List.getElem?_map]
  cases l[i.toNat]? <;> rfl
theorem rdb (l : List Bool) (i : Int) : List.getD l (Int.toNat i) false = rdOf false l i := rfl
theorem esub (m n k : Int) : (m % n - k) % n = (m - k) % n := Int.emod_sub_emod ..
theorem n64 : (18446744073709551616 : Int) - 1 = 18446744073709551615 := rfl
theorem n32 : (4294967296 : Int) - 1 = 4294967295 := rfl
theorem b79b_loops : ∀ n : Nat, (∀ k, k ≤ n → ∀ (x1 x5 : List Int) (x6 : Int) (x20 : List Int) (x21 x22 : Int) {r : List Int}, P.natural_add.l50 k x1 x5 x6 x20 x21 x22 = some r → F79_L6 x1 x6 x20 x21 x22 x5 = some ((r, ()), ()))
  | 0 => fun k hk x1 x5 x6 x20 x21 x22 r h => by
    obtain rfl : k = 0 := by omega
    unfold P.natural_add.l50 at h; cases h
  | n + 1 => by
    have ih0 := b79b_loops n
    intro k hk x1 x5 x6 x20 x21 x22 r h
    cases k with
    | zero => unfold P.natural_add.l50 at h; cases h
    | succ k =>
    unfold P.natural_add.l50 at h
    rw [F79_L6_eq]
    try simp only [F79_J3_eq, F79_J7_eq, F79_J14_eq, F79_J11_eq, F79_J13_eq]
    try simp only [decide_eq_true_eq, bne_iff_ne, beq_iff_eq, ne_eq, Bool.not_eq_true', Bool.not_eq_true, Bool.not_eq_false, w64e, wu32, wu8, gt_iff_lt, ge_iff_le, List.length_cons, List.length_nil, Nat.zero_add, Int.le_refl, true_and, and_true, rdl, rdmap, rdb, esub, n64, n32, List.map_cons, List.map_nil, List.length_map, List.replicate_zero, List.take_length, shr1, shlP, beq_eq_false_iff_ne, List.drop_zero, Int.toNat_natCast, not_lt', decide_true, decide_false, Option.bind_some, shr30, shr27, shr31, shr32, shr33, shr8, shr16, quoi, quou, quo32, w64u, biti, Int.emod_add_emod, Int.add_emod_emod, List.length_append, if_true, if_false, Bool.false_eq_true, Bool.true_eq_false, not_true_eq_false, not_false_eq_true, reduceCtorEq, Int.add_mul_emod_self_right, Int.natCast_pos, Int.zero_sub, false_and, and_false] at h ⊢
    repeat' first
      | (cases h; done)
      | (cases h; rfl)
      | (cases h; simp only [*]; done)
      | exact (ih0 _ (by omega) _ _ _ _ _ _) h
      | (obtain ⟨t, ht, h⟩ := Option.bind_eq_some_iff.1 h; (first | replace ht := b81 ht); simp only [ht, Option.bind_some])
      | (replace h := b81 h; simp only [h, Option.bind_some]; done)
      | (split at h <;> rename_i hc <;> (try simp only [hc, decide_eq_true_eq, bne_iff_ne, beq_iff_eq, ne_eq, Bool.not_eq_true', Bool.not_eq_true, Bool.not_eq_false, w64e, wu32, wu8, gt_iff_lt, ge_iff_le, List.length_cons, List.length_nil, Nat.zero_add, Int.le_refl, true_and, and_true, rdl, rdmap, rdb, esub, n64, n32, List.map_cons, List.map_nil, List.length_map, List.replicate_zero, List.take_length, shr1, shlP, beq_eq_false_iff_ne, List.drop_zero, Int.toNat_natCast, not_lt', decide_true, decide_false, Option.bind_some, shr30, shr27, shr31, shr32, shr33, shr8, shr16, quoi, quou, quo32, w64u, biti, Int.emod_add_emod, Int.add_emod_emod, List.length_append, if_true, if_false, Bool.false_eq_true, Bool.true_eq_false, not_true_eq_false, not_false_eq_true, reduceCtorEq, Int.add_mul_emod_self_right, Int.natCast_pos, Int.zero_sub, false_and, and_false] at h ⊢))
      | (rw [if_pos (by omega)])
      | (rw [if_neg (by omega)])
      | (exfalso; omega)
      | fail

theorem b79b_L6 {k : Nat} {x1 x5 : List Int} {x6 : Int} {x20 : List Int} {x21 x22 : Int} {r : List Int} (h : P.natural_add.l50 k x1 x5 x6 x20 x21 x22 = some r) : F79_L6 x1 x6 x20 x21 x22 x5 = some ((r, ()), ()) := (b79b_loops k) k (Nat.le_refl _) _ _ _ _ _ _ h

theorem b79 {k : Nat} {a b : List Int} {r : List Int} (h : P.natural_add.f k a b = some r) : F79 a b = some ((r, ()), ()) := by
  unfold P.natural_add.f at h
  rw [F79_eq]
  try simp only [F79_J3_eq, F79_J7_eq, F79_J14_eq, F79_J11_eq, F79_J13_eq]
  try simp only [decide_eq_true_eq, bne_iff_ne, beq_iff_eq, ne_eq, Bool.not_eq_true', Bool.not_eq_true, Bool.not_eq_false, w64e, wu32, wu8, gt_iff_lt, ge_iff_le, List.length_cons, List.length_nil, Nat.zero_add, Int.le_refl, true_and, and_true, rdl, rdmap, rdb, esub, n64, n32, List.map_cons, List.map_nil, List.length_map, List.replicate_zero, List.take_length, shr1, shlP, beq_eq_false_iff_ne, List.drop_zero, Int.toNat_natCast, not_lt', decide_true, decide_false, Option.bind_some, shr30, shr27, shr31, shr32, shr33, shr8, shr16, quoi, quou, quo32, w64u, biti, Int.emod_add_emod, Int.add_emod_emod, List.length_append, if_true, if_false, Bool.false_eq_true, Bool.true_eq_false, not_true_eq_false, not_false_eq_true, reduceCtorEq, Int.add_mul_emod_self_right, Int.natCast_pos, Int.zero_sub, false_and, and_false] at h ⊢
  repeat' first
    | (cases h; done)
    | (cases h; rfl)
    | (cases h; simp only [*]; done)
    | (with_reducible exact b79_L6 h)
    | (with_reducible exact b79b_L6 h)
    | (split at h <;> rename_i hc <;> (try simp only [hc, decide_eq_true_eq, bne_iff_ne, beq_iff_eq, ne_eq, Bool.not_eq_true', Bool.not_eq_true, Bool.not_eq_false, w64e, wu32, wu8, gt_iff_lt, ge_iff_le, List.length_cons, List.length_nil, Nat.zero_add, Int.le_refl, true_and, and_true, rdl, rdmap, rdb, esub, n64, n32, List.map_cons, List.map_nil, List.length_map, List.replicate_zero, List.take_length, shr1, shlP, beq_eq_false_iff_ne, List.drop_zero, Int.toNat_natCast, not_lt', decide_true, decide_false, Option.bind_some, shr30, shr27, shr31, shr32, shr33, shr8, shr16, quoi, quou, quo32, w64u, biti, Int.emod_add_emod, Int.add_emod_emod, List.length_append, if_true, if_false, Bool.false_eq_true, Bool.true_eq_false, not_true_eq_false, not_false_eq_true, reduceCtorEq, Int.add_mul_emod_self_right, Int.natCast_pos, Int.zero_sub, false_and, and_false] at h ⊢))
    | (rw [if_pos (by omega)])
    | (rw [if_neg (by omega)])
    | (exfalso; omega)
    | fail

theorem b53 {k : Nat} {a b : List Int} {r : List Int} (h : P.brindlewoodref3_Plus.f k a b = some r) : F53 a b = some ((r, ()), ()) := by
  unfold P.brindlewoodref3_Plus.f at h
  rw [F53_eq]
  try simp only [F53_J6_eq, F53_J12_eq, F53_J8_eq, F53_J10_eq, F53_J5_eq]
  try simp only [decide_eq_true_eq, bne_iff_ne, beq_iff_eq, ne_eq, Bool.not_eq_true', Bool.not_eq_true, Bool.not_eq_false, w64e, wu32, wu8, gt_iff_lt, ge_iff_le, List.length_cons, List.length_nil, Nat.zero_add, Int.le_refl, true_and, and_true, rdl, rdmap, rdb, esub, n64, n32, List.map_cons, List.map_nil, List.length_map, List.replicate_zero, List.take_length, shr1, shlP, beq_eq_false_iff_ne, List.drop_zero, Int.toNat_natCast, not_lt', decide_true, decide_false, Option.bind_some, shr30, shr27, shr31, shr32, shr33, shr8, shr16, quoi, quou, quo32, w64u, biti, Int.emod_add_emod, Int.add_emod_emod, List.length_append, if_true, if_false, Bool.false_eq_true, Bool.true_eq_false, not_true_eq_false, not_false_eq_true, reduceCtorEq, Int.add_mul_emod_self_right, Int.natCast_pos, Int.zero_sub, false_and, and_false] at h ⊢
  repeat' first
    | (cases h; done)
    | (cases h; rfl)
    | (cases h; simp only [*]; done)
    | (with_reducible exact b53_L4 h)
    | (split at h <;> rename_i hc <;> (try simp only [hc, decide_eq_true_eq, bne_iff_ne, beq_iff_eq, ne_eq, Bool.not_eq_true', Bool.not_eq_true, Bool.not_eq_false, w64e, wu32, wu8, gt_iff_lt, ge_iff_le, List.length_cons, List.length_nil, Nat.zero_add, Int.le_refl, true_and, and_true, rdl, rdmap, rdb, esub, n64, n32, List.map_cons, List.map_nil, List.length_map, List.replicate_zero, List.take_length, shr1, shlP, beq_eq_false_iff_ne, List.drop_zero, Int.toNat_natCast, not_lt', decide_true, decide_false, Option.bind_some, shr30, shr27, shr31, shr32, shr33, shr8, shr16, quoi, quou, quo32, w64u, biti, Int.emod_add_emod, Int.add_emod_emod, List.length_append, if_true, if_false, Bool.false_eq_true, Bool.true_eq_false, not_true_eq_false, not_false_eq_true, reduceCtorEq, Int.add_mul_emod_self_right, Int.natCast_pos, Int.zero_sub, false_and, and_false] at h ⊢))
    | (rw [if_pos (by omega)])
    | (rw [if_neg (by omega)])
    | (unfold P.brindlewoodref3_Plus.j1 at h; (try simp only [decide_eq_true_eq, bne_iff_ne, beq_iff_eq, ne_eq, Bool.not_eq_true', Bool.not_eq_true, Bool.not_eq_false, w64e, wu32, wu8, gt_iff_lt, ge_iff_le, List.length_cons, List.length_nil, Nat.zero_add, Int.le_refl, true_and, and_true, rdl, rdmap, rdb, esub, n64, n32, List.map_cons, List.map_nil, List.length_map, List.replicate_zero, List.take_length, shr1, shlP, beq_eq_false_iff_ne, List.drop_zero, Int.toNat_natCast, not_lt', decide_true, decide_false, Option.bind_some, shr30, shr27, shr31, shr32, shr33, shr8, shr16, quoi, quou, quo32, w64u, biti, Int.emod_add_emod, Int.add_emod_emod, List.length_append, if_true, if_false, Bool.false_eq_true, Bool.true_eq_false, not_true_eq_false, not_false_eq_true, reduceCtorEq, Int.add_mul_emod_self_right, Int.natCast_pos, Int.zero_sub, false_and, and_false] at h))
    | (exfalso; omega)
    | fail

theorem b54 {k : Nat} {a b : List Int} {r : List Int} (h : P.brindlewoodref3_Minus.f k a b = some r) : F54 a b = some ((r, ()), ()) := by
  unfold P.brindlewoodref3_Minus.f at h
  rw [F54_eq]
  try simp only [F54_J6_eq, F54_J14_eq, F54_J9_eq, F54_J13_eq, F54_J5_eq]
  try simp only [decide_eq_true_eq, bne_iff_ne, beq_iff_eq, ne_eq, Bool.not_eq_true', Bool.not_eq_true, Bool.not_eq_false, w64e, wu32, wu8, gt_iff_lt, ge_iff_le, List.length_cons, List.length_nil, Nat.zero_add, Int.le_refl, true_and, and_true, rdl, rdmap, rdb, esub, n64, n32, List.map_cons, List.map_nil, List.length_map, List.replicate_zero, List.take_length, shr1, shlP, beq_eq_false_iff_ne, List.drop_zero, Int.toNat_natCast, not_lt', decide_true, decide_false, Option.bind_some, shr30, shr27, shr31, shr32, shr33, shr8, shr16, quoi, quou, quo32, w64u, biti, Int.emod_add_emod, Int.add_emod_emod, List.length_append, if_true, if_false, Bool.false_eq_true, Bool.true_eq_false, not_true_eq_false, not_false_eq_true, reduceCtorEq, Int.add_mul_emod_self_right, Int.natCast_pos, Int.zero_sub, false_and, and_false] at h ⊢
  repeat' first
    | (cases h; done)
    | (cases h; rfl)
    | (cases h; simp only [*]; done)
    | (with_reducible exact b54_L4 h)
    | (split at h <;> rename_i hc <;> (try simp only [hc, decide_eq_true_eq, bne_iff_ne, beq_iff_eq, ne_eq, Bool.not_eq_true', Bool.not_eq_true, Bool.not_eq_false, w64e, wu32, wu8, gt_iff_lt, ge_iff_le, List.length_cons, List.length_nil, Nat.zero_add, Int.le_refl, true_and, and_true, rdl, rdmap, rdb, esub, n64, n32, List.map_cons, List.map_nil, List.length_map, List.replicate_zero, List.take_length, shr1, shlP, beq_eq_false_iff_ne, List.drop_zero, Int.toNat_natCast, not_lt', decide_true, decide_false, Option.bind_some, shr30, shr27, shr31, shr32, shr33, shr8, shr16, quoi, quou, quo32, w64u, biti, Int.emod_add_emod, Int.add_emod_emod, List.length_append, if_true, if_false, Bool.false_eq_true, Bool.true_eq_false, not_true_eq_false, not_false_eq_true, reduceCtorEq, Int.add_mul_emod_self_right, Int.natCast_pos, Int.zero_sub, false_and, and_false] at h ⊢))
    | (rw [if_pos (by omega)])
    | (rw [if_neg (by omega)])
    | (exfalso; omega)
    | fail

theorem b52 {k : Nat} {a b : List Int} {r : Int} (h : P.brindlewoodref3_Compare.f k a b = some r) : F52 a b = some ((r, ()), ()) := by
  unfold P.brindlewoodref3_Compare.f at h
  rw [F52_eq]
  try simp only [F52_J4_eq, F52_J5_eq, F52_J8_eq, F52_J12_eq, F52_J10_eq, F52_J7_eq]
  try simp only [decide_eq_true_eq, bne_iff_ne, beq_iff_eq, ne_eq, Bool.not_eq_true', Bool.not_eq_true, Bool.not_eq_false, w64e, wu32, wu8, gt_iff_lt, ge_iff_le, List.length_cons, List.length_nil, Nat.zero_add, Int.le_refl, true_and, and_true, rdl, rdmap, rdb, esub, n64, n32, List.map_cons, List.map_nil, List.length_map, List.replicate_zero, List.take_length, shr1, shlP, beq_eq_false_iff_ne, List.drop_zero, Int.toNat_natCast, not_lt', decide_true, decide_false, Option.bind_some, shr30, shr27, shr31, shr32, shr33, shr8, shr16, quoi, quou, quo32, w64u, biti, Int.emod_add_emod, Int.add_emod_emod, List.length_append, if_true, if_false, Bool.false_eq_true, Bool.true_eq_false, not_true_eq_false, not_false_eq_true, reduceCtorEq, Int.add_mul_emod_self_right, Int.natCast_pos, Int.zero_sub, false_and, and_false] at h ⊢
  repeat' first
    | (cases h; done)
    | (cases h; rfl)
    | (cases h; simp only [*]; done)
    | (with_reducible exact b52_L6 h)
    | (split at h <;> rename_i hc <;> (try simp only [hc, decide_eq_true_eq, bne_iff_ne, beq_iff_eq, ne_eq, Bool.not_eq_true', Bool.not_eq_true, Bool.not_eq_false, w64e, wu32, wu8, gt_iff_lt, ge_iff_le, List.length_cons, List.length_nil, Nat.zero_add, Int.le_refl, true_and, and_true, rdl, rdmap, rdb, esub, n64, n32, List.map_cons, List.map_nil, List.length_map, List.replicate_zero, List.take_length, shr1, shlP, beq_eq_false_iff_ne, List.drop_zero, Int.toNat_natCast, not_lt', decide_true, decide_false, Option.bind_some, shr30, shr27, shr31, shr32, shr33, shr8, shr16, quoi, quou, quo32, w64u, biti, Int.emod_add_emod, Int.add_emod_emod, List.length_append, if_true, if_false, Bool.false_eq_true, Bool.true_eq_false, not_true_eq_false, not_false_eq_true, reduceCtorEq, Int.add_mul_emod_self_right, Int.natCast_pos, Int.zero_sub, false_and, and_false] at h ⊢))
    | (rw [if_pos (by omega)])
    | (rw [if_neg (by omega)])
    | (exfalso; omega)
    | fail

theorem b34 {k : Nat} {a : List Int} {r : List Int} (h : P.brindlewoodref3_Limbs.f k a = some r) : F34 a = some ((r, ()), ()) := by
  unfold P.brindlewoodref3_Limbs.f at h
  rw [F34_eq]
  try simp only [F34_J5_eq, F34_J9_eq, F34_J8_eq, F34_J4_eq]
  try simp only [decide_eq_true_eq, bne_iff_ne, beq_iff_eq, ne_eq, Bool.not_eq_true', Bool.not_eq_true, Bool.not_eq_false, w64e, wu32, wu8, gt_iff_lt, ge_iff_le, List.length_cons, List.length_nil, Nat.zero_add, Int.le_refl, true_and, and_true, rdl, rdmap, rdb, esub, n64, n32, List.map_cons, List.map_nil, List.length_map, List.replicate_zero, List.take_length, shr1, shlP, beq_eq_false_iff_ne, List.drop_zero, Int.toNat_natCast, not_lt', decide_true, decide_false, Option.bind_some, shr30, shr27, shr31, shr32, shr33, shr8, shr16, quoi, quou, quo32, w64u, biti, Int.emod_add_emod, Int.add_emod_emod, List.length_append, if_true, if_false, Bool.false_eq_true, Bool.true_eq_false, not_true_eq_false, not_false_eq_true, reduceCtorEq, Int.add_mul_emod_self_right, Int.natCast_pos, Int.zero_sub, false_and, and_false] at h ⊢
  repeat' first
    | (cases h; done)
    | (cases h; rfl)
    | (cases h; simp only [*]; done)
    | (with_reducible exact b34_L3 h)
    | (split at h <;> rename_i hc <;> (try simp only [hc, decide_eq_true_eq, bne_iff_ne, beq_iff_eq, ne_eq, Bool.not_eq_true', Bool.not_eq_true, Bool.not_eq_false, w64e, wu32, wu8, gt_iff_lt, ge_iff_le, List.length_cons, List.length_nil, Nat.zero_add, Int.le_refl, true_and, and_true, rdl, rdmap, rdb, esub, n64, n32, List.map_cons, List.map_nil, List.length_map, List.replicate_zero, List.take_length, shr1, shlP, beq_eq_false_iff_ne, List.drop_zero, Int.toNat_natCast, not_lt', decide_true, decide_false, Option.bind_some, shr30, shr27, shr31, shr32, shr33, shr8, shr16, quoi, quou, quo32, w64u, biti, Int.emod_add_emod, Int.add_emod_emod, List.length_append, if_true, if_false, Bool.false_eq_true, Bool.true_eq_false, not_true_eq_false, not_false_eq_true, reduceCtorEq, Int.add_mul_emod_self_right, Int.natCast_pos, Int.zero_sub, false_and, and_false] at h ⊢))
    | (rw [if_pos (by omega)])
    | (rw [if_neg (by omega)])
    | (exfalso; omega)
    | fail

theorem b50 {k : Nat} {a : List Int} {r : List Int} (h : P.brindlewoodref3_Of.f k a = some r) : F50 a = some ((r, ()), ()) := by
  unfold P.brindlewoodref3_Of.f at h
  rw [F50_eq]
  try simp only [F50_J5_eq, F50_J6_eq]
  try simp only [decide_eq_true_eq, bne_iff_ne, beq_iff_eq, ne_eq, Bool.not_eq_true', Bool.not_eq_true, Bool.not_eq_false, w64e, wu32, wu8, gt_iff_lt, ge_iff_le, List.length_cons, List.length_nil, Nat.zero_add, Int.le_refl, true_and, and_true, rdl, rdmap, rdb, esub, n64, n32, List.map_cons, List.map_nil, List.length_map, List.replicate_zero, List.take_length, shr1, shlP, beq_eq_false_iff_ne, List.drop_zero, Int.toNat_natCast, not_lt', decide_true, decide_false, Option.bind_some, shr30, shr27, shr31, shr32, shr33, shr8, shr16, quoi, quou, quo32, w64u, biti, Int.emod_add_emod, Int.add_emod_emod, List.length_append, if_true, if_false, Bool.false_eq_true, Bool.true_eq_false, not_true_eq_false, not_false_eq_true, reduceCtorEq, Int.add_mul_emod_self_right, Int.natCast_pos, Int.zero_sub, false_and, and_false] at h ⊢
  repeat' first
    | (cases h; done)
    | (cases h; rfl)
    | (cases h; simp only [*]; done)
    | (with_reducible exact b50_L3 h)
    | (split at h <;> rename_i hc <;> (try simp only [hc, decide_eq_true_eq, bne_iff_ne, beq_iff_eq, ne_eq, Bool.not_eq_true', Bool.not_eq_true, Bool.not_eq_false, w64e, wu32, wu8, gt_iff_lt, ge_iff_le, List.length_cons, List.length_nil, Nat.zero_add, Int.le_refl, true_and, and_true, rdl, rdmap, rdb, esub, n64, n32, List.map_cons, List.map_nil, List.length_map, List.replicate_zero, List.take_length, shr1, shlP, beq_eq_false_iff_ne, List.drop_zero, Int.toNat_natCast, not_lt', decide_true, decide_false, Option.bind_some, shr30, shr27, shr31, shr32, shr33, shr8, shr16, quoi, quou, quo32, w64u, biti, Int.emod_add_emod, Int.add_emod_emod, List.length_append, if_true, if_false, Bool.false_eq_true, Bool.true_eq_false, not_true_eq_false, not_false_eq_true, reduceCtorEq, Int.add_mul_emod_self_right, Int.natCast_pos, Int.zero_sub, false_and, and_false] at h ⊢))
    | (rw [if_pos (by omega)])
    | (rw [if_neg (by omega)])
    | (exfalso; omega)
    | fail

theorem b72 {k : Nat} {a b : List Int} {r : List Int × Int × Int} (h : P.natural_Add.f k a b = some r) : F72 a b = some ((r.1, (r.2, ())), ()) := by
  unfold P.natural_Add.f at h
  rw [F72_eq]
  try simp only [F72_J4_eq]
  try simp only [decide_eq_true_eq, bne_iff_ne, beq_iff_eq, ne_eq, Bool.not_eq_true', Bool.not_eq_true, Bool.not_eq_false, w64e, wu32, wu8, gt_iff_lt, ge_iff_le, List.length_cons, List.length_nil, Nat.zero_add, Int.le_refl, true_and, and_true, rdl, rdmap, rdb, esub, n64, n32, List.map_cons, List.map_nil, List.length_map, List.replicate_zero, List.take_length, shr1, shlP, beq_eq_false_iff_ne, List.drop_zero, Int.toNat_natCast, not_lt', decide_true, decide_false, Option.bind_some, shr30, shr27, shr31, shr32, shr33, shr8, shr16, quoi, quou, quo32, w64u, biti, Int.emod_add_emod, Int.add_emod_emod, List.length_append, if_true, if_false, Bool.false_eq_true, Bool.true_eq_false, not_true_eq_false, not_false_eq_true, reduceCtorEq, Int.add_mul_emod_self_right, Int.natCast_pos, Int.zero_sub, false_and, and_false] at h ⊢
  repeat' first
    | (cases h; done)
    | (cases h; rfl)
    | (cases h; simp only [*]; done)
    | (obtain ⟨t, ht, h⟩ := Option.bind_eq_some_iff.1 h; (first | replace ht := b70 ht | replace ht := b79 ht | replace ht := b78 ht); simp only [ht, Option.bind_some])
    | (replace h := b70 h; simp only [h, Option.bind_some]; done)
    | (replace h := b79 h; simp only [h, Option.bind_some]; done)
    | (replace h := b78 h; simp only [h, Option.bind_some]; done)
    | (split at h <;> rename_i hc <;> (try simp only [hc, decide_eq_true_eq, bne_iff_ne, beq_iff_eq, ne_eq, Bool.not_eq_true', Bool.not_eq_true, Bool.not_eq_false, w64e, wu32, wu8, gt_iff_lt, ge_iff_le, List.length_cons, List.length_nil, Nat.zero_add, Int.le_refl, true_and, and_true, rdl, rdmap, rdb, esub, n64, n32, List.map_cons, List.map_nil, List.length_map, List.replicate_zero, List.take_length, shr1, shlP, beq_eq_false_iff_ne, List.drop_zero, Int.toNat_natCast, not_lt', decide_true, decide_false, Option.bind_some, shr30, shr27, shr31, shr32, shr33, shr8, shr16, quoi, quou, quo32, w64u, biti, Int.emod_add_emod, Int.add_emod_emod, List.length_append, if_true, if_false, Bool.false_eq_true, Bool.true_eq_false, not_true_eq_false, not_false_eq_true, reduceCtorEq, Int.add_mul_emod_self_right, Int.natCast_pos, Int.zero_sub, false_and, and_false] at h ⊢))
    | (rw [if_pos (by omega)])
    | (rw [if_neg (by omega)])
    | (exfalso; omega)
    | fail

theorem b73 {c : Bool} {a : List Int} {r : Bool × List Int × Int × Int} (h : P.integer_signed.f c a = some r) : F73 c a = some (((r.1, r.2.1), (r.2.2, ())), ()) := by
  unfold P.integer_signed.f at h
  rw [F73_eq]
  try simp only [F73_J3_eq]
  try simp only [decide_eq_true_eq, bne_iff_ne, beq_iff_eq, ne_eq, Bool.not_eq_true', Bool.not_eq_true, Bool.not_eq_false, w64e, wu32, wu8, gt_iff_lt, ge_iff_le, List.length_cons, List.length_nil, Nat.zero_add, Int.le_refl, true_and, and_true, rdl, rdmap, rdb, esub, n64, n32, List.map_cons, List.map_nil, List.length_map, List.replicate_zero, List.take_length, shr1, shlP, beq_eq_false_iff_ne, List.drop_zero, Int.toNat_natCast, not_lt', decide_true, decide_false, Option.bind_some, shr30, shr27, shr31, shr32, shr33, shr8, shr16, quoi, quou, quo32, w64u, biti, Int.emod_add_emod, Int.add_emod_emod, List.length_append, if_true, if_false, Bool.false_eq_true, Bool.true_eq_false, not_true_eq_false, not_false_eq_true, reduceCtorEq, Int.add_mul_emod_self_right, Int.natCast_pos, Int.zero_sub, false_and, and_false] at h ⊢
  repeat' first
    | (cases h; done)
    | (cases h; rfl)
    | (cases h; simp only [*]; done)
    | (obtain ⟨t, ht, h⟩ := Option.bind_eq_some_iff.1 h; (first | replace ht := b69 ht); simp only [ht, Option.bind_some])
    | (replace h := b69 h; simp only [h, Option.bind_some]; done)
    | (split at h <;> rename_i hc <;> (try simp only [hc, decide_eq_true_eq, bne_iff_ne, beq_iff_eq, ne_eq, Bool.not_eq_true', Bool.not_eq_true, Bool.not_eq_false, w64e, wu32, wu8, gt_iff_lt, ge_iff_le, List.length_cons, List.length_nil, Nat.zero_add, Int.le_refl, true_and, and_true, rdl, rdmap, rdb, esub, n64, n32, List.map_cons, List.map_nil, List.length_map, List.replicate_zero, List.take_length, shr1, shlP, beq_eq_false_iff_ne, List.drop_zero, Int.toNat_natCast, not_lt', decide_true, decide_false, Option.bind_some, shr30, shr27, shr31, shr32, shr33, shr8, shr16, quoi, quou, quo32, w64u, biti, Int.emod_add_emod, Int.add_emod_emod, List.length_append, if_true, if_false, Bool.false_eq_true, Bool.true_eq_false, not_true_eq_false, not_false_eq_true, reduceCtorEq, Int.add_mul_emod_self_right, Int.natCast_pos, Int.zero_sub, false_and, and_false] at h ⊢))
    | (rw [if_pos (by omega)])
    | (rw [if_neg (by omega)])
    | (exfalso; omega)
    | fail

theorem b83 {a b c : Int} {r : Int × Int} (h : P.bits_Sub32.f a b c = some r) : F83 a b c = some ((r.1, (r.2, ())), ()) := by
  unfold P.bits_Sub32.f at h
  rw [F83_eq]
  try simp only [decide_eq_true_eq, bne_iff_ne, beq_iff_eq, ne_eq, Bool.not_eq_true', Bool.not_eq_true, Bool.not_eq_false, w64e, wu32, wu8, gt_iff_lt, ge_iff_le, List.length_cons, List.length_nil, Nat.zero_add, Int.le_refl, true_and, and_true, rdl, rdmap, rdb, esub, n64, n32, List.map_cons, List.map_nil, List.length_map, List.replicate_zero, List.take_length, shr1, shlP, beq_eq_false_iff_ne, List.drop_zero, Int.toNat_natCast, not_lt', decide_true, decide_false, Option.bind_some, shr30, shr27, shr31, shr32, shr33, shr8, shr16, quoi, quou, quo32, w64u, biti, Int.emod_add_emod, Int.add_emod_emod, List.length_append, if_true, if_false, Bool.false_eq_true, Bool.true_eq_false, not_true_eq_false, not_false_eq_true, reduceCtorEq, Int.add_mul_emod_self_right, Int.natCast_pos, Int.zero_sub, false_and, and_false] at h ⊢
  repeat' first
    | (cases h; done)
    | (cases h; rfl)
    | (cases h; simp only [*]; done)
    | (split at h <;> rename_i hc <;> (try simp only [hc, decide_eq_true_eq, bne_iff_ne, beq_iff_eq, ne_eq, Bool.not_eq_true', Bool.not_eq_true, Bool.not_eq_false, w64e, wu32, wu8, gt_iff_lt, ge_iff_le, List.length_cons, List.length_nil, Nat.zero_add, Int.le_refl, true_and, and_true, rdl, rdmap, rdb, esub, n64, n32, List.map_cons, List.map_nil, List.length_map, List.replicate_zero, List.take_length, shr1, shlP, beq_eq_false_iff_ne, List.drop_zero, Int.toNat_natCast, not_lt', decide_true, decide_false, Option.bind_some, shr30, shr27, shr31, shr32, shr33, shr8, shr16, quoi, quou, quo32, w64u, biti, Int.emod_add_emod, Int.add_emod_emod, List.length_append, if_true, if_false, Bool.false_eq_true, Bool.true_eq_false, not_true_eq_false, not_false_eq_true, reduceCtorEq, Int.add_mul_emod_self_right, Int.natCast_pos, Int.zero_sub, false_and, and_false] at h ⊢))
    | (rw [if_pos (by omega)])
    | (rw [if_neg (by omega)])
    | (exfalso; omega)
    | fail

theorem b80_loops : ∀ n : Nat, (∀ k, k ≤ n → ∀ (x1 x5 : List Int) (x6 x12 x13 : Int) {r : List Int}, P.natural_sub.l0 k x1 x5 x6 x12 x13 = some r → F80_L4_1 x1 x6 x12 x13 x5 = some ((r, ()), ()))
  | 0 => fun k hk x1 x5 x6 x12 x13 r h => by
    obtain rfl : k = 0 := by omega
    unfold P.natural_sub.l0 at h; cases h
  | n + 1 => by
    have ih0 := b80_loops n
    intro k hk x1 x5 x6 x12 x13 r h
    cases k with
    | zero => unfold P.natural_sub.l0 at h; cases h
    | succ k =>
    unfold P.natural_sub.l0 at h
    rw [F80_L4_1_eq]
    try simp only [F80_J5_eq, F80_J11_eq, F80_J5_1_eq, F80_J11_1_eq, F80_J9_eq, F80_J9_1_eq, F80_J10_eq]
    try simp only [decide_eq_true_eq, bne_iff_ne, beq_iff_eq, ne_eq, Bool.not_eq_true', Bool.not_eq_true, Bool.not_eq_false, w64e, wu32, wu8, gt_iff_lt, ge_iff_le, List.length_cons, List.length_nil, Nat.zero_add, Int.le_refl, true_and, and_true, rdl, rdmap, rdb, esub, n64, n32, List.map_cons, List.map_nil, List.length_map, List.replicate_zero, List.take_length, shr1, shlP, beq_eq_false_iff_ne, List.drop_zero, Int.toNat_natCast, not_lt', decide_true, decide_false, Option.bind_some, shr30, shr27, shr31, shr32, shr33, shr8, shr16, quoi, quou, quo32, w64u, biti, Int.emod_add_emod, Int.add_emod_emod, List.length_append, if_true, if_false, Bool.false_eq_true, Bool.true_eq_false, not_true_eq_false, not_false_eq_true, reduceCtorEq, Int.add_mul_emod_self_right, Int.natCast_pos, Int.zero_sub, false_and, and_false] at h ⊢
    repeat' first
      | (cases h; done)
      | (cases h; rfl)
      | (cases h; simp only [*]; done)
      | exact (ih0 _ (by omega) _ _ _ _ _) h
      | (obtain ⟨t, ht, h⟩ := Option.bind_eq_some_iff.1 h; (first | replace ht := b83 ht | replace ht := b81 ht); simp only [ht, Option.bind_some])
      | (replace h := b83 h; simp only [h, Option.bind_some]; done)
      | (replace h := b81 h; simp only [h, Option.bind_some]; done)
      | (split at h <;> rename_i hc <;> (try simp only [hc, decide_eq_true_eq, bne_iff_ne, beq_iff_eq, ne_eq, Bool.not_eq_true', Bool.not_eq_true, Bool.not_eq_false, w64e, wu32, wu8, gt_iff_lt, ge_iff_le, List.length_cons, List.length_nil, Nat.zero_add, Int.le_refl, true_and, and_true, rdl, rdmap, rdb, esub, n64, n32, List.map_cons, List.map_nil, List.length_map, List.replicate_zero, List.take_length, shr1, shlP, beq_eq_false_iff_ne, List.drop_zero, Int.toNat_natCast, not_lt', decide_true, decide_false, Option.bind_some, shr30, shr27, shr31, shr32, shr33, shr8, shr16, quoi, quou, quo32, w64u, biti, Int.emod_add_emod, Int.add_emod_emod, List.length_append, if_true, if_false, Bool.false_eq_true, Bool.true_eq_false, not_true_eq_false, not_false_eq_true, reduceCtorEq, Int.add_mul_emod_self_right, Int.natCast_pos, Int.zero_sub, false_and, and_false] at h ⊢))
      | (rw [if_pos (by omega)])
      | (rw [if_neg (by omega)])
      | (exfalso; omega)
      | fail

theorem b80_L4_1 {k : Nat} {x1 x5 : List Int} {x6 x12 x13 : Int} {r : List Int} (h : P.natural_sub.l0 k x1 x5 x6 x12 x13 = some r) : F80_L4_1 x1 x6 x12 x13 x5 = some ((r, ()), ()) := (b80_loops k) k (Nat.le_refl _) _ _ _ _ _ h

theorem F82_def (l : List Int) : F82 l = if l.length * 4 ≤ 140737488355328 then some ((l, ()), ()) else none := by
  exact (callI_foreign (E := E) (Fn := Fn) (G := G) (f := 82) (x := (l, ())) (by kernel_rfl)).trans ((gOne_eq (E := E) (f0 := 82) (g := g82) (rest := gNone) (x := (l, ()))).trans rfl)
theorem b80 {k : Nat} {a b r : List Int} (h : P.natural_sub.f k a b = some r) : F80 a b = some ((r, ()), ()) := by
  unfold P.natural_sub.f at h
  obtain ⟨t, ht, h⟩ := Option.bind_eq_some_iff.1 h
  unfold P.slices_Clone_uint32_uint32.f at ht
  split at ht
  case isFalse => cases ht
  cases ht
  rw [F80_eq, F82_def, if_pos (by omega)]
  simp only [Option.bind_some]
  cases a with
  | cons x l => exact b80_L4_1 h
  | nil =>
    cases k with
    | zero => unfold P.natural_sub.l0 at h; cases h
    | succ k =>
      unfold P.natural_sub.l0 at h
      simp only [List.length_nil, Int.natCast_zero, Int.lt_irrefl, if_false] at h
      obtain ⟨t, ht, h⟩ := Option.bind_eq_some_iff.1 h
      cases h
      show F80_L4 b [] 0 (([] : List Int).length : Int) 0 = _
      rw [F80_L4_eq, F80_J11_eq, b81 ht]
      simp

theorem b74 {k : Nat} {a b : List Int} {r : List Int × Int × Int} (h : P.natural_Sub.f k a b = some r) : F74 a b = some ((r.1, (r.2, ())), ()) := by
  unfold P.natural_Sub.f at h
  rw [F74_eq]
  try simp only [F74_J4_eq, F74_J6_eq]
  try simp only [decide_eq_true_eq, bne_iff_ne, beq_iff_eq, ne_eq, Bool.not_eq_true', Bool.not_eq_true, Bool.not_eq_false, w64e, wu32, wu8, gt_iff_lt, ge_iff_le, List.length_cons, List.length_nil, Nat.zero_add, Int.le_refl, true_and, and_true, rdl, rdmap, rdb, esub, n64, n32, List.map_cons, List.map_nil, List.length_map, List.replicate_zero, List.take_length, shr1, shlP, beq_eq_false_iff_ne, List.drop_zero, Int.toNat_natCast, not_lt', decide_true, decide_false, Option.bind_some, shr30, shr27, shr31, shr32, shr33, shr8, shr16, quoi, quou, quo32, w64u, biti, Int.emod_add_emod, Int.add_emod_emod, List.length_append, if_true, if_false, Bool.false_eq_true, Bool.true_eq_false, not_true_eq_false, not_false_eq_true, reduceCtorEq, Int.add_mul_emod_self_right, Int.natCast_pos, Int.zero_sub, false_and, and_false] at h ⊢
  repeat' first
    | (cases h; done)
    | (cases h; rfl)
    | (cases h; simp only [*]; done)
    | (obtain ⟨t, ht, h⟩ := Option.bind_eq_some_iff.1 h; (first | replace ht := b70 ht | replace ht := b71 ht | replace ht := b76 ht | replace ht := b80 ht); simp only [ht, Option.bind_some])
    | (replace h := b70 h; simp only [h, Option.bind_some]; done)
    | (replace h := b71 h; simp only [h, Option.bind_some]; done)
    | (replace h := b76 h; simp only [h, Option.bind_some]; done)
    | (replace h := b80 h; simp only [h, Option.bind_some]; done)
    | (split at h <;> rename_i hc <;> (try simp only [hc, decide_eq_true_eq, bne_iff_ne, beq_iff_eq, ne_eq, Bool.not_eq_true', Bool.not_eq_true, Bool.not_eq_false, w64e, wu32, wu8, gt_iff_lt, ge_iff_le, List.length_cons, List.length_nil, Nat.zero_add, Int.le_refl, true_and, and_true, rdl, rdmap, rdb, esub, n64, n32, List.map_cons, List.map_nil, List.length_map, List.replicate_zero, List.take_length, shr1, shlP, beq_eq_false_iff_ne, List.drop_zero, Int.toNat_natCast, not_lt', decide_true, decide_false, Option.bind_some, shr30, shr27, shr31, shr32, shr33, shr8, shr16, quoi, quou, quo32, w64u, biti, Int.emod_add_emod, Int.add_emod_emod, List.length_append, if_true, if_false, Bool.false_eq_true, Bool.true_eq_false, not_true_eq_false, not_false_eq_true, reduceCtorEq, Int.add_mul_emod_self_right, Int.natCast_pos, Int.zero_sub, false_and, and_false] at h ⊢))
    | (rw [if_pos (by omega)])
    | (rw [if_neg (by omega)])
    | (exfalso; omega)
    | fail

theorem b62_loops : ∀ n : Nat, (∀ k, k ≤ n → ∀ (x5 : List P.S24) (x6 x7 : Int) {r : Int × Int}, P.integer_check.l0 k x5 x6 x7 = some r → F62_L2 (x5.map fun s => (s.f0, s.f1)) x6 x7 0 0 = some ((r, ()), ()))
  | 0 => fun k hk x5 x6 x7 r h => by
    obtain rfl : k = 0 := by omega
    unfold P.integer_check.l0 at h; cases h
  | n + 1 => by
    have ih0 := b62_loops n
    intro k hk x5 x6 x7 r h
    cases k with
    | zero => unfold P.integer_check.l0 at h; cases h
    | succ k =>
    unfold P.integer_check.l0 at h
    rw [F62_L2_eq]
    try simp only [F62_J3_eq, F62_J7_eq, F62_J6_eq]
    try simp only [decide_eq_true_eq, bne_iff_ne, beq_iff_eq, ne_eq, Bool.not_eq_true', Bool.not_eq_true, Bool.not_eq_false, w64e, wu32, wu8, gt_iff_lt, ge_iff_le, List.length_cons, List.length_nil, Nat.zero_add, Int.le_refl, true_and, and_true, rdl, rdmap, rdb, esub, n64, n32, List.map_cons, List.map_nil, List.length_map, List.replicate_zero, List.take_length, shr1, shlP, beq_eq_false_iff_ne, List.drop_zero, Int.toNat_natCast, not_lt', decide_true, decide_false, Option.bind_some, shr30, shr27, shr31, shr32, shr33, shr8, shr16, quoi, quou, quo32, w64u, biti, Int.emod_add_emod, Int.add_emod_emod, List.length_append, if_true, if_false, Bool.false_eq_true, Bool.true_eq_false, not_true_eq_false, not_false_eq_true, reduceCtorEq, Int.add_mul_emod_self_right, Int.natCast_pos, Int.zero_sub, false_and, and_false] at h ⊢
    repeat' first
      | (cases h; done)
      | (cases h; rfl)
      | (cases h; simp only [*]; done)
      | exact (ih0 _ (by omega) _ _ _) h
      | (obtain ⟨t, ht, h⟩ := Option.bind_eq_some_iff.1 h; (first | replace ht := b36 ht | replace ht := b69 ht); simp only [ht, Option.bind_some])
      | (replace h := b36 h; simp only [h, Option.bind_some]; done)
      | (replace h := b69 h; simp only [h, Option.bind_some]; done)
      | (split at h <;> rename_i hc <;> (try simp only [hc, decide_eq_true_eq, bne_iff_ne, beq_iff_eq, ne_eq, Bool.not_eq_true', Bool.not_eq_true, Bool.not_eq_false, w64e, wu32, wu8, gt_iff_lt, ge_iff_le, List.length_cons, List.length_nil, Nat.zero_add, Int.le_refl, true_and, and_true, rdl, rdmap, rdb, esub, n64, n32, List.map_cons, List.map_nil, List.length_map, List.replicate_zero, List.take_length, shr1, shlP, beq_eq_false_iff_ne, List.drop_zero, Int.toNat_natCast, not_lt', decide_true, decide_false, Option.bind_some, shr30, shr27, shr31, shr32, shr33, shr8, shr16, quoi, quou, quo32, w64u, biti, Int.emod_add_emod, Int.add_emod_emod, List.length_append, if_true, if_false, Bool.false_eq_true, Bool.true_eq_false, not_true_eq_false, not_false_eq_true, reduceCtorEq, Int.add_mul_emod_self_right, Int.natCast_pos, Int.zero_sub, false_and, and_false] at h ⊢))
      | (rw [if_pos (by omega)])
      | (rw [if_neg (by omega)])
      | (exfalso; omega)
      | fail

theorem b62_L2 {k : Nat} {x5 : List P.S24} {x6 x7 : Int} {r : Int × Int} (h : P.integer_check.l0 k x5 x6 x7 = some r) : F62_L2 (x5.map fun s => (s.f0, s.f1)) x6 x7 0 0 = some ((r, ()), ()) := (b62_loops k) k (Nat.le_refl _) _ _ _ h

theorem b62 {k : Nat} {l : List P.S24} {r : Int × Int} (h : P.integer_check.f k l = some r) : F62 (l.map fun s => (s.f0, s.f1)) = some ((r, ()), ()) := by
  rw [F62_eq, List.length_map]
  exact b62_L2 h
theorem b62_1 {k : Nat} {c : Bool} {a : List Int} {r : Int × Int} (h : P.integer_check.f k [⟨c, a⟩] = some r) : F62 [(c, a)] = some ((r, ()), ()) := b62 h
theorem b62_2 {k : Nat} {c d : Bool} {a b : List Int} {r : Int × Int} (h : P.integer_check.f k [⟨c, a⟩, ⟨d, b⟩] = some r) : F62 [(c, a), (d, b)] = some ((r, ()), ()) := b62 h

theorem b64 {k : Nat} {c d : Bool} {a b : List Int} {r : Bool × List Int × Int × Int} (h : P.integer_plus.f k c a d b = some r) : F64 (c, a) (d, b) = some (((r.1, r.2.1), (r.2.2, ())), ()) := by
  unfold P.integer_plus.f at h
  rw [F64_eq]
  try simp only [F64_J4_eq, F64_J7_eq]
  try simp only [decide_eq_true_eq, bne_iff_ne, beq_iff_eq, ne_eq, Bool.not_eq_true', Bool.not_eq_true, Bool.not_eq_false, w64e, wu32, wu8, gt_iff_lt, ge_iff_le, List.length_cons, List.length_nil, Nat.zero_add, Int.le_refl, true_and, and_true, rdl, rdmap, rdb, esub, n64, n32, List.map_cons, List.map_nil, List.length_map, List.replicate_zero, List.take_length, shr1, shlP, beq_eq_false_iff_ne, List.drop_zero, Int.toNat_natCast, not_lt', decide_true, decide_false, Option.bind_some, shr30, shr27, shr31, shr32, shr33, shr8, shr16, quoi, quou, quo32, w64u, biti, Int.emod_add_emod, Int.add_emod_emod, List.length_append, if_true, if_false, Bool.false_eq_true, Bool.true_eq_false, not_true_eq_false, not_false_eq_true, reduceCtorEq, Int.add_mul_emod_self_right, Int.natCast_pos, Int.zero_sub, false_and, and_false] at h ⊢
  repeat' first
    | (cases h; done)
    | (cases h; rfl)
    | (cases h; simp only [*]; done)
    | (obtain ⟨t, ht, h⟩ := Option.bind_eq_some_iff.1 h; (first | replace ht := b72 ht | replace ht := b73 ht | replace ht := b63 ht | replace ht := b74 ht); simp only [ht, Option.bind_some])
    | (replace h := b72 h; simp only [h, Option.bind_some]; done)
    | (replace h := b73 h; simp only [h, Option.bind_some]; done)
    | (replace h := b63 h; simp only [h, Option.bind_some]; done)
    | (replace h := b74 h; simp only [h, Option.bind_some]; done)
    | (split at h <;> rename_i hc <;> (try simp only [hc, decide_eq_true_eq, bne_iff_ne, beq_iff_eq, ne_eq, Bool.not_eq_true', Bool.not_eq_true, Bool.not_eq_false, w64e, wu32, wu8, gt_iff_lt, ge_iff_le, List.length_cons, List.length_nil, Nat.zero_add, Int.le_refl, true_and, and_true, rdl, rdmap, rdb, esub, n64, n32, List.map_cons, List.map_nil, List.length_map, List.replicate_zero, List.take_length, shr1, shlP, beq_eq_false_iff_ne, List.drop_zero, Int.toNat_natCast, not_lt', decide_true, decide_false, Option.bind_some, shr30, shr27, shr31, shr32, shr33, shr8, shr16, quoi, quou, quo32, w64u, biti, Int.emod_add_emod, Int.add_emod_emod, List.length_append, if_true, if_false, Bool.false_eq_true, Bool.true_eq_false, not_true_eq_false, not_false_eq_true, reduceCtorEq, Int.add_mul_emod_self_right, Int.natCast_pos, Int.zero_sub, false_and, and_false] at h ⊢))
    | (rw [if_pos (by omega)])
    | (rw [if_neg (by omega)])
    | (exfalso; omega)
    | fail

theorem b45 {k : Nat} {c d : Bool} {a b : List Int} {r : Bool × List Int × Int × Int} (h : P.integer_Sub.f k c a d b = some r) : F45 (c, a) (d, b) = some (((r.1, r.2.1), (r.2.2, ())), ()) := by
  unfold P.integer_Sub.f at h
  rw [F45_eq]
  try simp only [F45_J4_eq]
  try simp only [decide_eq_true_eq, bne_iff_ne, beq_iff_eq, ne_eq, Bool.not_eq_true', Bool.not_eq_true, Bool.not_eq_false, w64e, wu32, wu8, gt_iff_lt, ge_iff_le, List.length_cons, List.length_nil, Nat.zero_add, Int.le_refl, true_and, and_true, rdl, rdmap, rdb, esub, n64, n32, List.map_cons, List.map_nil, List.length_map, List.replicate_zero, List.take_length, shr1, shlP, beq_eq_false_iff_ne, List.drop_zero, Int.toNat_natCast, not_lt', decide_true, decide_false, Option.bind_some, shr30, shr27, shr31, shr32, shr33, shr8, shr16, quoi, quou, quo32, w64u, biti, Int.emod_add_emod, Int.add_emod_emod, List.length_append, if_true, if_false, Bool.false_eq_true, Bool.true_eq_false, not_true_eq_false, not_false_eq_true, reduceCtorEq, Int.add_mul_emod_self_right, Int.natCast_pos, Int.zero_sub, false_and, and_false] at h ⊢
  repeat' first
    | (cases h; done)
    | (cases h; rfl)
    | (cases h; simp only [*]; done)
    | (obtain ⟨t, ht, h⟩ := Option.bind_eq_some_iff.1 h; (first | replace ht := b62_2 ht | replace ht := b64 ht); simp only [ht, Option.bind_some])
    | (replace h := b62_2 h; simp only [h, Option.bind_some]; done)
    | (replace h := b64 h; simp only [h, Option.bind_some]; done)
    | (split at h <;> rename_i hc <;> (try simp only [hc, decide_eq_true_eq, bne_iff_ne, beq_iff_eq, ne_eq, Bool.not_eq_true', Bool.not_eq_true, Bool.not_eq_false, w64e, wu32, wu8, gt_iff_lt, ge_iff_le, List.length_cons, List.length_nil, Nat.zero_add, Int.le_refl, true_and, and_true, rdl, rdmap, rdb, esub, n64, n32, List.map_cons, List.map_nil, List.length_map, List.replicate_zero, List.take_length, shr1, shlP, beq_eq_false_iff_ne, List.drop_zero, Int.toNat_natCast, not_lt', decide_true, decide_false, Option.bind_some, shr30, shr27, shr31, shr32, shr33, shr8, shr16, quoi, quou, quo32, w64u, biti, Int.emod_add_emod, Int.add_emod_emod, List.length_append, if_true, if_false, Bool.false_eq_true, Bool.true_eq_false, not_true_eq_false, not_false_eq_true, reduceCtorEq, Int.add_mul_emod_self_right, Int.natCast_pos, Int.zero_sub, false_and, and_false] at h ⊢))
    | (rw [if_pos (by omega)])
    | (rw [if_neg (by omega)])
    | (exfalso; omega)
    | fail

theorem b46 {k : Nat} {c d : Bool} {a b : List Int} {r : Bool × List Int × Int × Int} (h : P.integer_Add.f k c a d b = some r) : F46 (c, a) (d, b) = some (((r.1, r.2.1), (r.2.2, ())), ()) := by
  unfold P.integer_Add.f at h
  rw [F46_eq]
  try simp only [F46_J4_eq]
  try simp only [decide_eq_true_eq, bne_iff_ne, beq_iff_eq, ne_eq, Bool.not_eq_true', Bool.not_eq_true, Bool.not_eq_false, w64e, wu32, wu8, gt_iff_lt, ge_iff_le, List.length_cons, List.length_nil, Nat.zero_add, Int.le_refl, true_and, and_true, rdl, rdmap, rdb, esub, n64, n32, List.map_cons, List.map_nil, List.length_map, List.replicate_zero, List.take_length, shr1, shlP, beq_eq_false_iff_ne, List.drop_zero, Int.toNat_natCast, not_lt', decide_true, decide_false, Option.bind_some, shr30, shr27, shr31, shr32, shr33, shr8, shr16, quoi, quou, quo32, w64u, biti, Int.emod_add_emod, Int.add_emod_emod, List.length_append, if_true, if_false, Bool.false_eq_true, Bool.true_eq_false, not_true_eq_false, not_false_eq_true, reduceCtorEq, Int.add_mul_emod_self_right, Int.natCast_pos, Int.zero_sub, false_and, and_false] at h ⊢
  repeat' first
    | (cases h; done)
    | (cases h; rfl)
    | (cases h; simp only [*]; done)
    | (obtain ⟨t, ht, h⟩ := Option.bind_eq_some_iff.1 h; (first | replace ht := b62_2 ht | replace ht := b64 ht); simp only [ht, Option.bind_some])
    | (replace h := b62_2 h; simp only [h, Option.bind_some]; done)
    | (replace h := b64 h; simp only [h, Option.bind_some]; done)
    | (split at h <;> rename_i hc <;> (try simp only [hc, decide_eq_true_eq, bne_iff_ne, beq_iff_eq, ne_eq, Bool.not_eq_true', Bool.not_eq_true, Bool.not_eq_false, w64e, wu32, wu8, gt_iff_lt, ge_iff_le, List.length_cons, List.length_nil, Nat.zero_add, Int.le_refl, true_and, and_true, rdl, rdmap, rdb, esub, n64, n32, List.map_cons, List.map_nil, List.length_map, List.replicate_zero, List.take_length, shr1, shlP, beq_eq_false_iff_ne, List.drop_zero, Int.toNat_natCast, not_lt', decide_true, decide_false, Option.bind_some, shr30, shr27, shr31, shr32, shr33, shr8, shr16, quoi, quou, quo32, w64u, biti, Int.emod_add_emod, Int.add_emod_emod, List.length_append, if_true, if_false, Bool.false_eq_true, Bool.true_eq_false, not_true_eq_false, not_false_eq_true, reduceCtorEq, Int.add_mul_emod_self_right, Int.natCast_pos, Int.zero_sub, false_and, and_false] at h ⊢))
    | (rw [if_pos (by omega)])
    | (rw [if_neg (by omega)])
    | (exfalso; omega)
    | fail

theorem b44 {k : Nat} {c d : Bool} {a b : List Int} {r : Int × Int × Int} (h : P.integer_Cmp.f k c a d b = some r) : F44 (c, a) (d, b) = some ((r.1, (r.2, ())), ()) := by
  unfold P.integer_Cmp.f at h
  rw [F44_eq]
  try simp only [F44_J4_eq, F44_J11_eq]
  try simp only [decide_eq_true_eq, bne_iff_ne, beq_iff_eq, ne_eq, Bool.not_eq_true', Bool.not_eq_true, Bool.not_eq_false, w64e, wu32, wu8, gt_iff_lt, ge_iff_le, List.length_cons, List.length_nil, Nat.zero_add, Int.le_refl, true_and, and_true, rdl, rdmap, rdb, esub, n64, n32, List.map_cons, List.map_nil, List.length_map, List.replicate_zero, List.take_length, shr1, shlP, beq_eq_false_iff_ne, List.drop_zero, Int.toNat_natCast, not_lt', decide_true, decide_false, Option.bind_some, shr30, shr27, shr31, shr32, shr33, shr8, shr16, quoi, quou, quo32, w64u, biti, Int.emod_add_emod, Int.add_emod_emod, List.length_append, if_true, if_false, Bool.false_eq_true, Bool.true_eq_false, not_true_eq_false, not_false_eq_true, reduceCtorEq, Int.add_mul_emod_self_right, Int.natCast_pos, Int.zero_sub, false_and, and_false] at h ⊢
  repeat' first
    | (cases h; done)
    | (cases h; rfl)
    | (cases h; simp only [*]; done)
    | (obtain ⟨t, ht, h⟩ := Option.bind_eq_some_iff.1 h; (first | replace ht := b62_2 ht | replace ht := b63 ht); simp only [ht, Option.bind_some])
    | (replace h := b62_2 h; simp only [h, Option.bind_some]; done)
    | (replace h := b63 h; simp only [h, Option.bind_some]; done)
    | (split at h <;> rename_i hc <;> (try simp only [hc, decide_eq_true_eq, bne_iff_ne, beq_iff_eq, ne_eq, Bool.not_eq_true', Bool.not_eq_true, Bool.not_eq_false, w64e, wu32, wu8, gt_iff_lt, ge_iff_le, List.length_cons, List.length_nil, Nat.zero_add, Int.le_refl, true_and, and_true, rdl, rdmap, rdb, esub, n64, n32, List.map_cons, List.map_nil, List.length_map, List.replicate_zero, List.take_length, shr1, shlP, beq_eq_false_iff_ne, List.drop_zero, Int.toNat_natCast, not_lt', decide_true, decide_false, Option.bind_some, shr30, shr27, shr31, shr32, shr33, shr8, shr16, quoi, quou, quo32, w64u, biti, Int.emod_add_emod, Int.add_emod_emod, List.length_append, if_true, if_false, Bool.false_eq_true, Bool.true_eq_false, not_true_eq_false, not_false_eq_true, reduceCtorEq, Int.add_mul_emod_self_right, Int.natCast_pos, Int.zero_sub, false_and, and_false] at h ⊢))
    | (rw [if_pos (by omega)])
    | (rw [if_neg (by omega)])
    | (exfalso; omega)
    | fail

theorem b40 {a b : Int} {r : Int × Int × Int} (h : P.random_source_next.f a b = some r) : F40 (a, b) = some ((r.1, ()), (r.2, ())) := by
  unfold P.random_source_next.f at h
  rw [F40_eq]
  try simp only [decide_eq_true_eq, bne_iff_ne, beq_iff_eq, ne_eq, Bool.not_eq_true', Bool.not_eq_true, Bool.not_eq_false, w64e, wu32, wu8, gt_iff_lt, ge_iff_le, List.length_cons, List.length_nil, Nat.zero_add, Int.le_refl, true_and, and_true, rdl, rdmap, rdb, esub, n64, n32, List.map_cons, List.map_nil, List.length_map, List.replicate_zero, List.take_length, shr1, shlP, beq_eq_false_iff_ne, List.drop_zero, Int.toNat_natCast, not_lt', decide_true, decide_false, Option.bind_some, shr30, shr27, shr31, shr32, shr33, shr8, shr16, quoi, quou, quo32, w64u, biti, Int.emod_add_emod, Int.add_emod_emod, List.length_append, if_true, if_false, Bool.false_eq_true, Bool.true_eq_false, not_true_eq_false, not_false_eq_true, reduceCtorEq, Int.add_mul_emod_self_right, Int.natCast_pos, Int.zero_sub, false_and, and_false] at h ⊢
  repeat' first
    | (cases h; done)
    | (cases h; rfl)
    | (cases h; simp only [*]; done)
    | (obtain ⟨t, ht, h⟩ := Option.bind_eq_some_iff.1 h; (first | replace ht := b38 ht); simp only [ht, Option.bind_some])
    | (replace h := b38 h; simp only [h, Option.bind_some]; done)
    | (split at h <;> rename_i hc <;> (try simp only [hc, decide_eq_true_eq, bne_iff_ne, beq_iff_eq, ne_eq, Bool.not_eq_true', Bool.not_eq_true, Bool.not_eq_false, w64e, wu32, wu8, gt_iff_lt, ge_iff_le, List.length_cons, List.length_nil, Nat.zero_add, Int.le_refl, true_and, and_true, rdl, rdmap, rdb, esub, n64, n32, List.map_cons, List.map_nil, List.length_map, List.replicate_zero, List.take_length, shr1, shlP, beq_eq_false_iff_ne, List.drop_zero, Int.toNat_natCast, not_lt', decide_true, decide_false, Option.bind_some, shr30, shr27, shr31, shr32, shr33, shr8, shr16, quoi, quou, quo32, w64u, biti, Int.emod_add_emod, Int.add_emod_emod, List.length_append, if_true, if_false, Bool.false_eq_true, Bool.true_eq_false, not_true_eq_false, not_false_eq_true, reduceCtorEq, Int.add_mul_emod_self_right, Int.natCast_pos, Int.zero_sub, false_and, and_false] at h ⊢))
    | (rw [if_pos (by omega)])
    | (rw [if_neg (by omega)])
    | (exfalso; omega)
    | fail

theorem b15 {a b : Int} {r : Int × Int × Int} (h : P.brindlewoodref4_Random_Draw.f a b = some r) : F15 (a, b) = some ((r.1, ()), (r.2, ())) := by
  unfold P.brindlewoodref4_Random_Draw.f at h
  rw [F15_eq]
  try simp only [decide_eq_true_eq, bne_iff_ne, beq_iff_eq, ne_eq, Bool.not_eq_true', Bool.not_eq_true, Bool.not_eq_false, w64e, wu32, wu8, gt_iff_lt, ge_iff_le, List.length_cons, List.length_nil, Nat.zero_add, Int.le_refl, true_and, and_true, rdl, rdmap, rdb, esub, n64, n32, List.map_cons, List.map_nil, List.length_map, List.replicate_zero, List.take_length, shr1, shlP, beq_eq_false_iff_ne, List.drop_zero, Int.toNat_natCast, not_lt', decide_true, decide_false, Option.bind_some, shr30, shr27, shr31, shr32, shr33, shr8, shr16, quoi, quou, quo32, w64u, biti, Int.emod_add_emod, Int.add_emod_emod, List.length_append, if_true, if_false, Bool.false_eq_true, Bool.true_eq_false, not_true_eq_false, not_false_eq_true, reduceCtorEq, Int.add_mul_emod_self_right, Int.natCast_pos, Int.zero_sub, false_and, and_false] at h ⊢
  repeat' first
    | (cases h; done)
    | (cases h; rfl)
    | (cases h; simp only [*]; done)
    | (obtain ⟨t, ht, h⟩ := Option.bind_eq_some_iff.1 h; (first | replace ht := b42 ht); simp only [ht, Option.bind_some])
    | (replace h := b42 h; simp only [h, Option.bind_some]; done)
    | (split at h <;> rename_i hc <;> (try simp only [hc, decide_eq_true_eq, bne_iff_ne, beq_iff_eq, ne_eq, Bool.not_eq_true', Bool.not_eq_true, Bool.not_eq_false, w64e, wu32, wu8, gt_iff_lt, ge_iff_le, List.length_cons, List.length_nil, Nat.zero_add, Int.le_refl, true_and, and_true, rdl, rdmap, rdb, esub, n64, n32, List.map_cons, List.map_nil, List.length_map, List.replicate_zero, List.take_length, shr1, shlP, beq_eq_false_iff_ne, List.drop_zero, Int.toNat_natCast, not_lt', decide_true, decide_false, Option.bind_some, shr30, shr27, shr31, shr32, shr33, shr8, shr16, quoi, quou, quo32, w64u, biti, Int.emod_add_emod, Int.add_emod_emod, List.length_append, if_true, if_false, Bool.false_eq_true, Bool.true_eq_false, not_true_eq_false, not_false_eq_true, reduceCtorEq, Int.add_mul_emod_self_right, Int.natCast_pos, Int.zero_sub, false_and, and_false] at h ⊢))
    | (rw [if_pos (by omega)])
    | (rw [if_neg (by omega)])
    | (exfalso; omega)
    | fail

theorem b8_loops : ∀ n : Nat, (∀ k, k ≤ n → ∀ (x4 : Int) (x21 : List Int) (x22 x23 : Int) {r : Int × Int × Int × Int}, P.random_Seed.l0 k x4 x21 x22 x23 = some r → F8_L7 x4 x21 x22 x23 0 0 0 0 = some (((r.1, r.2.1), (r.2.2, ())), ()))
  | 0 => fun k hk x4 x21 x22 x23 r h => by
    obtain rfl : k = 0 := by omega
    unfold P.random_Seed.l0 at h; cases h
  | n + 1 => by
    have ih0 := b8_loops n
    intro k hk x4 x21 x22 x23 r h
    cases k with
    | zero => unfold P.random_Seed.l0 at h; cases h
    | succ k =>
    unfold P.random_Seed.l0 at h
    rw [F8_L7_eq]
    try simp only [F8_J3_eq, F8_J6_eq, F8_J8_eq, F8_J11_eq]
    try simp only [decide_eq_true_eq, bne_iff_ne, beq_iff_eq, ne_eq, Bool.not_eq_true', Bool.not_eq_true, Bool.not_eq_false, w64e, wu32, wu8, gt_iff_lt, ge_iff_le, List.length_cons, List.length_nil, Nat.zero_add, Int.le_refl, true_and, and_true, rdl, rdmap, rdb, esub, n64, n32, List.map_cons, List.map_nil, List.length_map, List.replicate_zero, List.take_length, shr1, shlP, beq_eq_false_iff_ne, List.drop_zero, Int.toNat_natCast, not_lt', decide_true, decide_false, Option.bind_some, shr30, shr27, shr31, shr32, shr33, shr8, shr16, quoi, quou, quo32, w64u, biti, Int.emod_add_emod, Int.add_emod_emod, List.length_append, if_true, if_false, Bool.false_eq_true, Bool.true_eq_false, not_true_eq_false, not_false_eq_true, reduceCtorEq, Int.add_mul_emod_self_right, Int.natCast_pos, Int.zero_sub, false_and, and_false] at h ⊢
    repeat' first
      | (cases h; done)
      | (cases h; rfl)
      | (cases h; simp only [*]; done)
      | exact (ih0 _ (by omega) _ _ _ _) h
      | (obtain ⟨t, ht, h⟩ := Option.bind_eq_some_iff.1 h; (first | replace ht := b38 ht); simp only [ht, Option.bind_some])
      | (replace h := b38 h; simp only [h, Option.bind_some]; done)
      | (split at h <;> rename_i hc <;> (try simp only [hc, decide_eq_true_eq, bne_iff_ne, beq_iff_eq, ne_eq, Bool.not_eq_true', Bool.not_eq_true, Bool.not_eq_false, w64e, wu32, wu8, gt_iff_lt, ge_iff_le, List.length_cons, List.length_nil, Nat.zero_add, Int.le_refl, true_and, and_true, rdl, rdmap, rdb, esub, n64, n32, List.map_cons, List.map_nil, List.length_map, List.replicate_zero, List.take_length, shr1, shlP, beq_eq_false_iff_ne, List.drop_zero, Int.toNat_natCast, not_lt', decide_true, decide_false, Option.bind_some, shr30, shr27, shr31, shr32, shr33, shr8, shr16, quoi, quou, quo32, w64u, biti, Int.emod_add_emod, Int.add_emod_emod, List.length_append, if_true, if_false, Bool.false_eq_true, Bool.true_eq_false, not_true_eq_false, not_false_eq_true, reduceCtorEq, Int.add_mul_emod_self_right, Int.natCast_pos, Int.zero_sub, false_and, and_false] at h ⊢))
      | (rw [if_pos (by omega)])
      | (rw [if_neg (by omega)])
      | (unfold P.random_Seed.j0 at h; (try simp only [decide_eq_true_eq, bne_iff_ne, beq_iff_eq, ne_eq, Bool.not_eq_true', Bool.not_eq_true, Bool.not_eq_false, w64e, wu32, wu8, gt_iff_lt, ge_iff_le, List.length_cons, List.length_nil, Nat.zero_add, Int.le_refl, true_and, and_true, rdl, rdmap, rdb, esub, n64, n32, List.map_cons, List.map_nil, List.length_map, List.replicate_zero, List.take_length, shr1, shlP, beq_eq_false_iff_ne, List.drop_zero, Int.toNat_natCast, not_lt', decide_true, decide_false, Option.bind_some, shr30, shr27, shr31, shr32, shr33, shr8, shr16, quoi, quou, quo32, w64u, biti, Int.emod_add_emod, Int.add_emod_emod, List.length_append, if_true, if_false, Bool.false_eq_true, Bool.true_eq_false, not_true_eq_false, not_false_eq_true, reduceCtorEq, Int.add_mul_emod_self_right, Int.natCast_pos, Int.zero_sub, false_and, and_false] at h))
      | (exfalso; omega)
      | fail

theorem b8_L7 {k : Nat} {x4 : Int} {x21 : List Int} {x22 x23 : Int} {r : Int × Int × Int × Int} (h : P.random_Seed.l0 k x4 x21 x22 x23 = some r) : F8_L7 x4 x21 x22 x23 0 0 0 0 = some (((r.1, r.2.1), (r.2.2, ())), ()) := (b8_loops k) k (Nat.le_refl _) _ _ _ _ h

theorem b8 {k : Nat} {c : Bool} {a : List Int} {r : Int × Int × Int × Int} (h : P.random_Seed.f k c a = some r) : F8 (c, a) = some (((r.1, r.2.1), (r.2.2, ())), ()) := by
  unfold P.random_Seed.f at h
  rw [F8_eq]
  try simp only [F8_J3_eq, F8_J6_eq, F8_J8_eq, F8_J11_eq]
  try simp only [decide_eq_true_eq, bne_iff_ne, beq_iff_eq, ne_eq, Bool.not_eq_true', Bool.not_eq_true, Bool.not_eq_false, w64e, wu32, wu8, gt_iff_lt, ge_iff_le, List.length_cons, List.length_nil, Nat.zero_add, Int.le_refl, true_and, and_true, rdl, rdmap, rdb, esub, n64, n32, List.map_cons, List.map_nil, List.length_map, List.replicate_zero, List.take_length, shr1, shlP, beq_eq_false_iff_ne, List.drop_zero, Int.toNat_natCast, not_lt', decide_true, decide_false, Option.bind_some, shr30, shr27, shr31, shr32, shr33, shr8, shr16, quoi, quou, quo32, w64u, biti, Int.emod_add_emod, Int.add_emod_emod, List.length_append, if_true, if_false, Bool.false_eq_true, Bool.true_eq_false, not_true_eq_false, not_false_eq_true, reduceCtorEq, Int.add_mul_emod_self_right, Int.natCast_pos, Int.zero_sub, false_and, and_false] at h ⊢
  repeat' first
    | (cases h; done)
    | (cases h; rfl)
    | (cases h; simp only [*]; done)
    | (with_reducible exact b8_L7 h)
    | (obtain ⟨t, ht, h⟩ := Option.bind_eq_some_iff.1 h; (first | replace ht := b36 ht | replace ht := b37 ht); simp only [ht, Option.bind_some])
    | (replace h := b36 h; simp only [h, Option.bind_some]; done)
    | (replace h := b37 h; simp only [h, Option.bind_some]; done)
    | (split at h <;> rename_i hc <;> (try simp only [hc, decide_eq_true_eq, bne_iff_ne, beq_iff_eq, ne_eq, Bool.not_eq_true', Bool.not_eq_true, Bool.not_eq_false, w64e, wu32, wu8, gt_iff_lt, ge_iff_le, List.length_cons, List.length_nil, Nat.zero_add, Int.le_refl, true_and, and_true, rdl, rdmap, rdb, esub, n64, n32, List.map_cons, List.map_nil, List.length_map, List.replicate_zero, List.take_length, shr1, shlP, beq_eq_false_iff_ne, List.drop_zero, Int.toNat_natCast, not_lt', decide_true, decide_false, Option.bind_some, shr30, shr27, shr31, shr32, shr33, shr8, shr16, quoi, quou, quo32, w64u, biti, Int.emod_add_emod, Int.add_emod_emod, List.length_append, if_true, if_false, Bool.false_eq_true, Bool.true_eq_false, not_true_eq_false, not_false_eq_true, reduceCtorEq, Int.add_mul_emod_self_right, Int.natCast_pos, Int.zero_sub, false_and, and_false] at h ⊢))
    | (rw [if_pos (by omega)])
    | (rw [if_neg (by omega)])
    | (unfold P.random_Seed.j0 at h; (try simp only [decide_eq_true_eq, bne_iff_ne, beq_iff_eq, ne_eq, Bool.not_eq_true', Bool.not_eq_true, Bool.not_eq_false, w64e, wu32, wu8, gt_iff_lt, ge_iff_le, List.length_cons, List.length_nil, Nat.zero_add, Int.le_refl, true_and, and_true, rdl, rdmap, rdb, esub, n64, n32, List.map_cons, List.map_nil, List.length_map, List.replicate_zero, List.take_length, shr1, shlP, beq_eq_false_iff_ne, List.drop_zero, Int.toNat_natCast, not_lt', decide_true, decide_false, Option.bind_some, shr30, shr27, shr31, shr32, shr33, shr8, shr16, quoi, quou, quo32, w64u, biti, Int.emod_add_emod, Int.add_emod_emod, List.length_append, if_true, if_false, Bool.false_eq_true, Bool.true_eq_false, not_true_eq_false, not_false_eq_true, reduceCtorEq, Int.add_mul_emod_self_right, Int.natCast_pos, Int.zero_sub, false_and, and_false] at h))
    | (exfalso; omega)
    | fail

theorem b14_loops : ∀ n : Nat, (∀ k, k ≤ n → ∀ (x3 x4 : Int) (c : Bool) (a : List Int) {r : Int × Int}, P.brindlewoodref4_Seeded.l0 k x3 x4 c a = some r → F14_L5 x3 x4 c a 0 0 = some ((r, ()), ()))
  | 0 => fun k hk x3 x4 c a r h => by
    obtain rfl : k = 0 := by omega
    unfold P.brindlewoodref4_Seeded.l0 at h; cases h
  | n + 1 => by
    have ih0 := b14_loops n
    intro k hk x3 x4 c a r h
    cases k with
    | zero => unfold P.brindlewoodref4_Seeded.l0 at h; cases h
    | succ k =>
    unfold P.brindlewoodref4_Seeded.l0 at h
    rw [F14_L5_eq]
    try simp only [F14_J4_eq, F14_J7_eq, F14_J8_eq]
    try simp only [decide_eq_true_eq, bne_iff_ne, beq_iff_eq, ne_eq, Bool.not_eq_true', Bool.not_eq_true, Bool.not_eq_false, w64e, wu32, wu8, gt_iff_lt, ge_iff_le, List.length_cons, List.length_nil, Nat.zero_add, Int.le_refl, true_and, and_true, rdl, rdmap, rdb, esub, n64, n32, List.map_cons, List.map_nil, List.length_map, List.replicate_zero, List.take_length, shr1, shlP, beq_eq_false_iff_ne, List.drop_zero, Int.toNat_natCast, not_lt', decide_true, decide_false, Option.bind_some, shr30, shr27, shr31, shr32, shr33, shr8, shr16, quoi, quou, quo32, w64u, biti, Int.emod_add_emod, Int.add_emod_emod, List.length_append, if_true, if_false, Bool.false_eq_true, Bool.true_eq_false, not_true_eq_false, not_false_eq_true, reduceCtorEq, Int.add_mul_emod_self_right, Int.natCast_pos, Int.zero_sub, false_and, and_false] at h ⊢
    repeat' first
      | (cases h; done)
      | (cases h; rfl)
      | (cases h; simp only [*]; done)
      | exact (ih0 _ (by omega) _ _ _ _) h
      | (obtain ⟨t, ht, h⟩ := Option.bind_eq_some_iff.1 h; (first | replace ht := b42 ht); simp only [ht, Option.bind_some])
      | (replace h := b42 h; simp only [h, Option.bind_some]; done)
      | (split at h <;> rename_i hc <;> (try simp only [hc, decide_eq_true_eq, bne_iff_ne, beq_iff_eq, ne_eq, Bool.not_eq_true', Bool.not_eq_true, Bool.not_eq_false, w64e, wu32, wu8, gt_iff_lt, ge_iff_le, List.length_cons, List.length_nil, Nat.zero_add, Int.le_refl, true_and, and_true, rdl, rdmap, rdb, esub, n64, n32, List.map_cons, List.map_nil, List.length_map, List.replicate_zero, List.take_length, shr1, shlP, beq_eq_false_iff_ne, List.drop_zero, Int.toNat_natCast, not_lt', decide_true, decide_false, Option.bind_some, shr30, shr27, shr31, shr32, shr33, shr8, shr16, quoi, quou, quo32, w64u, biti, Int.emod_add_emod, Int.add_emod_emod, List.length_append, if_true, if_false, Bool.false_eq_true, Bool.true_eq_false, not_true_eq_false, not_false_eq_true, reduceCtorEq, Int.add_mul_emod_self_right, Int.natCast_pos, Int.zero_sub, false_and, and_false] at h ⊢))
      | (rw [if_pos (by omega)])
      | (rw [if_neg (by omega)])
      | (unfold P.brindlewoodref4_Seeded.j0 at h; (try simp only [decide_eq_true_eq, bne_iff_ne, beq_iff_eq, ne_eq, Bool.not_eq_true', Bool.not_eq_true, Bool.not_eq_false, w64e, wu32, wu8, gt_iff_lt, ge_iff_le, List.length_cons, List.length_nil, Nat.zero_add, Int.le_refl, true_and, and_true, rdl, rdmap, rdb, esub, n64, n32, List.map_cons, List.map_nil, List.length_map, List.replicate_zero, List.take_length, shr1, shlP, beq_eq_false_iff_ne, List.drop_zero, Int.toNat_natCast, not_lt', decide_true, decide_false, Option.bind_some, shr30, shr27, shr31, shr32, shr33, shr8, shr16, quoi, quou, quo32, w64u, biti, Int.emod_add_emod, Int.add_emod_emod, List.length_append, if_true, if_false, Bool.false_eq_true, Bool.true_eq_false, not_true_eq_false, not_false_eq_true, reduceCtorEq, Int.add_mul_emod_self_right, Int.natCast_pos, Int.zero_sub, false_and, and_false] at h))
      | (exfalso; omega)
      | fail

theorem b14_L5 {k : Nat} {x3 x4 : Int} {c : Bool} {a : List Int} {r : Int × Int} (h : P.brindlewoodref4_Seeded.l0 k x3 x4 c a = some r) : F14_L5 x3 x4 c a 0 0 = some ((r, ()), ()) := (b14_loops k) k (Nat.le_refl _) _ _ _ _ h

theorem b14 {k : Nat} {c : Bool} {a : List Int} {r : Int × Int} (h : P.brindlewoodref4_Seeded.f k c a = some r) : F14 (c, a) = some ((r, ()), ()) := by
  unfold P.brindlewoodref4_Seeded.f at h
  rw [F14_eq]
  try simp only [F14_J4_eq, F14_J7_eq, F14_J8_eq]
  try simp only [decide_eq_true_eq, bne_iff_ne, beq_iff_eq, ne_eq, Bool.not_eq_true', Bool.not_eq_true, Bool.not_eq_false, w64e, wu32, wu8, gt_iff_lt, ge_iff_le, List.length_cons, List.length_nil, Nat.zero_add, Int.le_refl, true_and, and_true, rdl, rdmap, rdb, esub, n64, n32, List.map_cons, List.map_nil, List.length_map, List.replicate_zero, List.take_length, shr1, shlP, beq_eq_false_iff_ne, List.drop_zero, Int.toNat_natCast, not_lt', decide_true, decide_false, Option.bind_some, shr30, shr27, shr31, shr32, shr33, shr8, shr16, quoi, quou, quo32, w64u, biti, Int.emod_add_emod, Int.add_emod_emod, List.length_append, if_true, if_false, Bool.false_eq_true, Bool.true_eq_false, not_true_eq_false, not_false_eq_true, reduceCtorEq, Int.add_mul_emod_self_right, Int.natCast_pos, Int.zero_sub, false_and, and_false] at h ⊢
  repeat' first
    | (cases h; done)
    | (cases h; rfl)
    | (cases h; simp only [*]; done)
    | (with_reducible exact b14_L5 h)
    | (split at h <;> rename_i hc <;> (try simp only [hc, decide_eq_true_eq, bne_iff_ne, beq_iff_eq, ne_eq, Bool.not_eq_true', Bool.not_eq_true, Bool.not_eq_false, w64e, wu32, wu8, gt_iff_lt, ge_iff_le, List.length_cons, List.length_nil, Nat.zero_add, Int.le_refl, true_and, and_true, rdl, rdmap, rdb, esub, n64, n32, List.map_cons, List.map_nil, List.length_map, List.replicate_zero, List.take_length, shr1, shlP, beq_eq_false_iff_ne, List.drop_zero, Int.toNat_natCast, not_lt', decide_true, decide_false, Option.bind_some, shr30, shr27, shr31, shr32, shr33, shr8, shr16, quoi, quou, quo32, w64u, biti, Int.emod_add_emod, Int.add_emod_emod, List.length_append, if_true, if_false, Bool.false_eq_true, Bool.true_eq_false, not_true_eq_false, not_false_eq_true, reduceCtorEq, Int.add_mul_emod_self_right, Int.natCast_pos, Int.zero_sub, false_and, and_false] at h ⊢))
    | (rw [if_pos (by omega)])
    | (rw [if_neg (by omega)])
    | (unfold P.brindlewoodref4_Seeded.j0 at h; (try simp only [decide_eq_true_eq, bne_iff_ne, beq_iff_eq, ne_eq, Bool.not_eq_true', Bool.not_eq_true, Bool.not_eq_false, w64e, wu32, wu8, gt_iff_lt, ge_iff_le, List.length_cons, List.length_nil, Nat.zero_add, Int.le_refl, true_and, and_true, rdl, rdmap, rdb, esub, n64, n32, List.map_cons, List.map_nil, List.length_map, List.replicate_zero, List.take_length, shr1, shlP, beq_eq_false_iff_ne, List.drop_zero, Int.toNat_natCast, not_lt', decide_true, decide_false, Option.bind_some, shr30, shr27, shr31, shr32, shr33, shr8, shr16, quoi, quou, quo32, w64u, biti, Int.emod_add_emod, Int.add_emod_emod, List.length_append, if_true, if_false, Bool.false_eq_true, Bool.true_eq_false, not_true_eq_false, not_false_eq_true, reduceCtorEq, Int.add_mul_emod_self_right, Int.natCast_pos, Int.zero_sub, false_and, and_false] at h))
    | (exfalso; omega)
    | fail

theorem b49_loops : ∀ n : Nat, (∀ k, k ≤ n → ∀ (x0 : List Bool) (x3 : List Int) (x4 : Int) {r : List Int}, P.brindlewoodref3_Binary.l0 k x0 x3 x4 = some r → F49_L3 x0 x4 x3 = some ((r, ()), ())) ∧ (∀ k, k ≤ n → ∀ (x0 : List Bool) (x3 : List Int) (x4 x5 x6 : Int) {r : List Int}, P.brindlewoodref3_Binary.l1 k x0 x3 x4 x5 x6 = some r → F49_L7 x0 x4 x5 x6 x3 = some ((r, ()), ()))
  | 0 => ⟨(fun k hk x0 x3 x4 r h => by
    obtain rfl : k = 0 := by omega
    unfold P.brindlewoodref3_Binary.l0 at h; cases h), (fun k hk x0 x3 x4 x5 x6 r h => by
    obtain rfl : k = 0 := by omega
    unfold P.brindlewoodref3_Binary.l1 at h; cases h)⟩
  | n + 1 => by
    obtain ⟨ih0, ih1⟩ := b49_loops n
    refine ⟨?_, ?_⟩
    · intro k hk x0 x3 x4 r h
      cases k with
      | zero => unfold P.brindlewoodref3_Binary.l0 at h; cases h
      | succ k =>
      unfold P.brindlewoodref3_Binary.l0 at h
      rw [F49_L3_eq]
      try simp only [F49_J5_eq, F49_J13_eq, F49_J9_eq, F49_J12_eq, F49_J8_eq, F49_J4_eq]
      try simp only [decide_eq_true_eq, bne_iff_ne, beq_iff_eq, ne_eq, Bool.not_eq_true', Bool.not_eq_true, Bool.not_eq_false, w64e, wu32, wu8, gt_iff_lt, ge_iff_le, List.length_cons, List.length_nil, Nat.zero_add, Int.le_refl, true_and, and_true, rdl, rdmap, rdb, esub, n64, n32, List.map_cons, List.map_nil, List.length_map, List.replicate_zero, List.take_length, shr1, shlP, beq_eq_false_iff_ne, List.drop_zero, Int.toNat_natCast, not_lt', decide_true, decide_false, Option.bind_some, shr30, shr27, shr31, shr32, shr33, shr8, shr16, quoi, quou, quo32, w64u, biti, Int.emod_add_emod, Int.add_emod_emod, List.length_append, if_true, if_false, Bool.false_eq_true, Bool.true_eq_false, not_true_eq_false, not_false_eq_true, reduceCtorEq, Int.add_mul_emod_self_right, Int.natCast_pos, Int.zero_sub, false_and, and_false] at h ⊢
      repeat' first
        | (cases h; done)
        | (cases h; rfl)
        | (cases h; simp only [*]; done)
        | exact (ih0 _ (by omega) _ _ _) h
        | exact (ih1 _ (by omega) _ _ _ _ _) h
        | (obtain ⟨t, ht, h⟩ := Option.bind_eq_some_iff.1 h; (first | replace ht := b65 ht); simp only [ht, Option.bind_some])
        | (replace h := b65 h; simp only [h, Option.bind_some]; done)
        | (split at h <;> rename_i hc <;> (try simp only [hc, decide_eq_true_eq, bne_iff_ne, beq_iff_eq, ne_eq, Bool.not_eq_true', Bool.not_eq_true, Bool.not_eq_false, w64e, wu32, wu8, gt_iff_lt, ge_iff_le, List.length_cons, List.length_nil, Nat.zero_add, Int.le_refl, true_and, and_true, rdl, rdmap, rdb, esub, n64, n32, List.map_cons, List.map_nil, List.length_map, List.replicate_zero, List.take_length, shr1, shlP, beq_eq_false_iff_ne, List.drop_zero, Int.toNat_natCast, not_lt', decide_true, decide_false, Option.bind_some, shr30, shr27, shr31, shr32, shr33, shr8, shr16, quoi, quou, quo32, w64u, biti, Int.emod_add_emod, Int.add_emod_emod, List.length_append, if_true, if_false, Bool.false_eq_true, Bool.true_eq_false, not_true_eq_false, not_false_eq_true, reduceCtorEq, Int.add_mul_emod_self_right, Int.natCast_pos, Int.zero_sub, false_and, and_false] at h ⊢))
        | (rw [if_pos (by omega)])
        | (rw [if_neg (by omega)])
        | (exfalso; omega)
        | fail
    · intro k hk x0 x3 x4 x5 x6 r h
      cases k with
      | zero => unfold P.brindlewoodref3_Binary.l1 at h; cases h
      | succ k =>
      unfold P.brindlewoodref3_Binary.l1 at h
      rw [F49_L7_eq]
      try simp only [F49_J5_eq, F49_J13_eq, F49_J9_eq, F49_J12_eq, F49_J8_eq, F49_J4_eq]
      try simp only [decide_eq_true_eq, bne_iff_ne, beq_iff_eq, ne_eq, Bool.not_eq_true', Bool.not_eq_true, Bool.not_eq_false, w64e, wu32, wu8, gt_iff_lt, ge_iff_le, List.length_cons, List.length_nil, Nat.zero_add, Int.le_refl, true_and, and_true, rdl, rdmap, rdb, esub, n64, n32, List.map_cons, List.map_nil, List.length_map, List.replicate_zero, List.take_length, shr1, shlP, beq_eq_false_iff_ne, List.drop_zero, Int.toNat_natCast, not_lt', decide_true, decide_false, Option.bind_some, shr30, shr27, shr31, shr32, shr33, shr8, shr16, quoi, quou, quo32, w64u, biti, Int.emod_add_emod, Int.add_emod_emod, List.length_append, if_true, if_false, Bool.false_eq_true, Bool.true_eq_false, not_true_eq_false, not_false_eq_true, reduceCtorEq, Int.add_mul_emod_self_right, Int.natCast_pos, Int.zero_sub, false_and, and_false] at h ⊢
      repeat' first
        | (cases h; done)
        | (cases h; rfl)
        | (cases h; simp only [*]; done)
        | exact (ih0 _ (by omega) _ _ _) h
        | exact (ih1 _ (by omega) _ _ _ _ _) h
        | (obtain ⟨t, ht, h⟩ := Option.bind_eq_some_iff.1 h; (first | replace ht := b65 ht); simp only [ht, Option.bind_some])
        | (replace h := b65 h; simp only [h, Option.bind_some]; done)
        | (split at h <;> rename_i hc <;> (try simp only [hc, decide_eq_true_eq, bne_iff_ne, beq_iff_eq, ne_eq, Bool.not_eq_true', Bool.not_eq_true, Bool.not_eq_false, w64e, wu32, wu8, gt_iff_lt, ge_iff_le, List.length_cons, List.length_nil, Nat.zero_add, Int.le_refl, true_and, and_true, rdl, rdmap, rdb, esub, n64, n32, List.map_cons, List.map_nil, List.length_map, List.replicate_zero, List.take_length, shr1, shlP, beq_eq_false_iff_ne, List.drop_zero, Int.toNat_natCast, not_lt', decide_true, decide_false, Option.bind_some, shr30, shr27, shr31, shr32, shr33, shr8, shr16, quoi, quou, quo32, w64u, biti, Int.emod_add_emod, Int.add_emod_emod, List.length_append, if_true, if_false, Bool.false_eq_true, Bool.true_eq_false, not_true_eq_false, not_false_eq_true, reduceCtorEq, Int.add_mul_emod_self_right, Int.natCast_pos, Int.zero_sub, false_and, and_false] at h ⊢))
        | (rw [if_pos (by omega)])
        | (rw [if_neg (by omega)])
        | (exfalso; omega)
        | fail

theorem b49_L3 {k : Nat} {x0 : List Bool} {x3 : List Int} {x4 : Int} {r : List Int} (h : P.brindlewoodref3_Binary.l0 k x0 x3 x4 = some r) : F49_L3 x0 x4 x3 = some ((r, ()), ()) := (b49_loops k).1 k (Nat.le_refl _) _ _ _ h

theorem b49_L7 {k : Nat} {x0 : List Bool} {x3 : List Int} {x4 x5 x6 : Int} {r : List Int} (h : P.brindlewoodref3_Binary.l1 k x0 x3 x4 x5 x6 = some r) : F49_L7 x0 x4 x5 x6 x3 = some ((r, ()), ()) := (b49_loops k).2 k (Nat.le_refl _) _ _ _ _ _ h

theorem b49 {k : Nat} {a : List Bool} {r : List Int} (h : P.brindlewoodref3_Binary.f k a = some r) : F49 a = some ((r, ()), ()) := by
  unfold P.brindlewoodref3_Binary.f at h
  rw [F49_eq]
  try simp only [F49_J5_eq, F49_J13_eq, F49_J9_eq, F49_J12_eq, F49_J8_eq, F49_J4_eq]
  try simp only [decide_eq_true_eq, bne_iff_ne, beq_iff_eq, ne_eq, Bool.not_eq_true', Bool.not_eq_true, Bool.not_eq_false, w64e, wu32, wu8, gt_iff_lt, ge_iff_le, List.length_cons, List.length_nil, Nat.zero_add, Int.le_refl, true_and, and_true, rdl, rdmap, rdb, esub, n64, n32, List.map_cons, List.map_nil, List.length_map, List.replicate_zero, List.take_length, shr1, shlP, beq_eq_false_iff_ne, List.drop_zero, Int.toNat_natCast, not_lt', decide_true, decide_false, Option.bind_some, shr30, shr27, shr31, shr32, shr33, shr8, shr16, quoi, quou, quo32, w64u, biti, Int.emod_add_emod, Int.add_emod_emod, List.length_append, if_true, if_false, Bool.false_eq_true, Bool.true_eq_false, not_true_eq_false, not_false_eq_true, reduceCtorEq, Int.add_mul_emod_self_right, Int.natCast_pos, Int.zero_sub, false_and, and_false] at h ⊢
  repeat' first
    | (cases h; done)
    | (cases h; rfl)
    | (cases h; simp only [*]; done)
    | (with_reducible exact b49_L3 h)
    | (split at h <;> rename_i hc <;> (try simp only [hc, decide_eq_true_eq, bne_iff_ne, beq_iff_eq, ne_eq, Bool.not_eq_true', Bool.not_eq_true, Bool.not_eq_false, w64e, wu32, wu8, gt_iff_lt, ge_iff_le, List.length_cons, List.length_nil, Nat.zero_add, Int.le_refl, true_and, and_true, rdl, rdmap, rdb, esub, n64, n32, List.map_cons, List.map_nil, List.length_map, List.replicate_zero, List.take_length, shr1, shlP, beq_eq_false_iff_ne, List.drop_zero, Int.toNat_natCast, not_lt', decide_true, decide_false, Option.bind_some, shr30, shr27, shr31, shr32, shr33, shr8, shr16, quoi, quou, quo32, w64u, biti, Int.emod_add_emod, Int.add_emod_emod, List.length_append, if_true, if_false, Bool.false_eq_true, Bool.true_eq_false, not_true_eq_false, not_false_eq_true, reduceCtorEq, Int.add_mul_emod_self_right, Int.natCast_pos, Int.zero_sub, false_and, and_false] at h ⊢))
    | (rw [if_pos (by omega)])
    | (rw [if_neg (by omega)])
    | (exfalso; omega)
    | fail

theorem b25_loops : ∀ n : Nat, (∀ k, k ≤ n → ∀ (x0 : Int) (x3 : List Bool) (x4 : Bool) {r : Bool × List Int}, P.brindlewoodref3_Number.l0 k x0 x3 x4 = some r → F25_L3 x0 x4 false x3 = some ((r, ()), ()))
  | 0 => fun k hk x0 x3 x4 r h => by
    obtain rfl : k = 0 := by omega
    unfold P.brindlewoodref3_Number.l0 at h; cases h
  | n + 1 => by
    have ih0 := b25_loops n
    intro k hk x0 x3 x4 r h
    cases k with
    | zero => unfold P.brindlewoodref3_Number.l0 at h; cases h
    | succ k =>
    unfold P.brindlewoodref3_Number.l0 at h
    rw [F25_L3_eq]
    try simp only [F25_J4_eq, F25_J6_eq]
    try simp only [decide_eq_true_eq, bne_iff_ne, beq_iff_eq, ne_eq, Bool.not_eq_true', Bool.not_eq_true, Bool.not_eq_false, w64e, wu32, wu8, gt_iff_lt, ge_iff_le, List.length_cons, List.length_nil, Nat.zero_add, Int.le_refl, true_and, and_true, rdl, rdmap, rdb, esub, n64, n32, List.map_cons, List.map_nil, List.length_map, List.replicate_zero, List.take_length, shr1, shlP, beq_eq_false_iff_ne, List.drop_zero, Int.toNat_natCast, not_lt', decide_true, decide_false, Option.bind_some, shr30, shr27, shr31, shr32, shr33, shr8, shr16, quoi, quou, quo32, w64u, biti, Int.emod_add_emod, Int.add_emod_emod, List.length_append, if_true, if_false, Bool.false_eq_true, Bool.true_eq_false, not_true_eq_false, not_false_eq_true, reduceCtorEq, Int.add_mul_emod_self_right, Int.natCast_pos, Int.zero_sub, false_and, and_false] at h ⊢
    repeat' first
      | (cases h; done)
      | (cases h; rfl)
      | (cases h; simp only [*]; done)
      | exact (ih0 _ (by omega) _ _ _) h
      | (obtain ⟨t, ht, h⟩ := Option.bind_eq_some_iff.1 h; (first | replace ht := b49 ht); simp only [ht, Option.bind_some])
      | (replace h := b49 h; simp only [h, Option.bind_some]; done)
      | (split at h <;> rename_i hc <;> (try simp only [hc, decide_eq_true_eq, bne_iff_ne, beq_iff_eq, ne_eq, Bool.not_eq_true', Bool.not_eq_true, Bool.not_eq_false, w64e, wu32, wu8, gt_iff_lt, ge_iff_le, List.length_cons, List.length_nil, Nat.zero_add, Int.le_refl, true_and, and_true, rdl, rdmap, rdb, esub, n64, n32, List.map_cons, List.map_nil, List.length_map, List.replicate_zero, List.take_length, shr1, shlP, beq_eq_false_iff_ne, List.drop_zero, Int.toNat_natCast, not_lt', decide_true, decide_false, Option.bind_some, shr30, shr27, shr31, shr32, shr33, shr8, shr16, quoi, quou, quo32, w64u, biti, Int.emod_add_emod, Int.add_emod_emod, List.length_append, if_true, if_false, Bool.false_eq_true, Bool.true_eq_false, not_true_eq_false, not_false_eq_true, reduceCtorEq, Int.add_mul_emod_self_right, Int.natCast_pos, Int.zero_sub, false_and, and_false] at h ⊢))
      | (rw [if_pos (by omega)])
      | (rw [if_neg (by omega)])
      | (exfalso; omega)
      | fail

theorem b25_L3 {k : Nat} {x0 : Int} {x3 : List Bool} {x4 : Bool} {r : Bool × List Int} (h : P.brindlewoodref3_Number.l0 k x0 x3 x4 = some r) : F25_L3 x0 x4 false x3 = some ((r, ()), ()) := (b25_loops k) k (Nat.le_refl _) _ _ _ h

theorem b25 {k : Nat} {a : Int} {r : Bool × List Int} (h : P.brindlewoodref3_Number.f k a = some r) : F25 a = some ((r, ()), ()) := by
  unfold P.brindlewoodref3_Number.f at h
  rw [F25_eq]
  try simp only [F25_J4_eq, F25_J6_eq]
  try simp only [decide_eq_true_eq, bne_iff_ne, beq_iff_eq, ne_eq, Bool.not_eq_true', Bool.not_eq_true, Bool.not_eq_false, w64e, wu32, wu8, gt_iff_lt, ge_iff_le, List.length_cons, List.length_nil, Nat.zero_add, Int.le_refl, true_and, and_true, rdl, rdmap, rdb, esub, n64, n32, List.map_cons, List.map_nil, List.length_map, List.replicate_zero, List.take_length, shr1, shlP, beq_eq_false_iff_ne, List.drop_zero, Int.toNat_natCast, not_lt', decide_true, decide_false, Option.bind_some, shr30, shr27, shr31, shr32, shr33, shr8, shr16, quoi, quou, quo32, w64u, biti, Int.emod_add_emod, Int.add_emod_emod, List.length_append, if_true, if_false, Bool.false_eq_true, Bool.true_eq_false, not_true_eq_false, not_false_eq_true, reduceCtorEq, Int.add_mul_emod_self_right, Int.natCast_pos, Int.zero_sub, false_and, and_false] at h ⊢
  repeat' first
    | (cases h; done)
    | (cases h; rfl)
    | (cases h; simp only [*]; done)
    | (with_reducible exact b25_L3 h)
    | (split at h <;> rename_i hc <;> (try simp only [hc, decide_eq_true_eq, bne_iff_ne, beq_iff_eq, ne_eq, Bool.not_eq_true', Bool.not_eq_true, Bool.not_eq_false, w64e, wu32, wu8, gt_iff_lt, ge_iff_le, List.length_cons, List.length_nil, Nat.zero_add, Int.le_refl, true_and, and_true, rdl, rdmap, rdb, esub, n64, n32, List.map_cons, List.map_nil, List.length_map, List.replicate_zero, List.take_length, shr1, shlP, beq_eq_false_iff_ne, List.drop_zero, Int.toNat_natCast, not_lt', decide_true, decide_false, Option.bind_some, shr30, shr27, shr31, shr32, shr33, shr8, shr16, quoi, quou, quo32, w64u, biti, Int.emod_add_emod, Int.add_emod_emod, List.length_append, if_true, if_false, Bool.false_eq_true, Bool.true_eq_false, not_true_eq_false, not_false_eq_true, reduceCtorEq, Int.add_mul_emod_self_right, Int.natCast_pos, Int.zero_sub, false_and, and_false] at h ⊢))
    | (rw [if_pos (by omega)])
    | (rw [if_neg (by omega)])
    | (exfalso; omega)
    | fail

theorem b48_loops : ∀ n : Nat, (∀ k, k ≤ n → ∀ (x0 : List Int) (x3 : List Bool) (x4 : Int) {r : List Bool}, P.brindlewoodref3_Ones.l0 k x0 x3 x4 = some r → F48_L3 x0 x4 x3 = some ((r, ()), ())) ∧ (∀ k, k ≤ n → ∀ (x0 : List Int) (x3 : List Bool) (x4 x5 x6 : Int) {r : List Bool}, P.brindlewoodref3_Ones.l1 k x0 x3 x4 x5 x6 = some r → F48_L7 x0 x4 x5 x6 x3 = some ((r, ()), ())) ∧ (∀ k, k ≤ n → ∀ (x3 : List Bool) {r : List Bool}, P.brindlewoodref3_Ones.l2 k x3 = some r → F48_L11 x3 = some ((r, ()), ())) ∧ (∀ k, k ≤ n → ∀ (x3 : List Bool) {r : List Bool}, P.brindlewoodref3_Ones.l2 k x3 = some r → F48_L11_1 x3 = some ((r, ()), ()))
  | 0 => ⟨(fun k hk x0 x3 x4 r h => by
    obtain rfl : k = 0 := by omega
    unfold P.brindlewoodref3_Ones.l0 at h; cases h), (fun k hk x0 x3 x4 x5 x6 r h => by
    obtain rfl : k = 0 := by omega
    unfold P.brindlewoodref3_Ones.l1 at h; cases h), (fun k hk x3 r h => by
    obtain rfl : k = 0 := by omega
    unfold P.brindlewoodref3_Ones.l2 at h; cases h), (fun k hk x3 r h => by
    obtain rfl : k = 0 := by omega
    unfold P.brindlewoodref3_Ones.l2 at h; cases h)⟩
  | n + 1 => by
    obtain ⟨ih0, ih1, ih2, ih3⟩ := b48_loops n
    refine ⟨?_, ?_, ?_, ?_⟩
    · intro k hk x0 x3 x4 r h
      cases k with
      | zero => unfold P.brindlewoodref3_Ones.l0 at h; cases h
      | succ k =>
      unfold P.brindlewoodref3_Ones.l0 at h
      rw [F48_L3_eq]
      try simp only [F48_J5_eq, F48_J12_eq, F48_J13_eq, F48_J9_eq, F48_J4_eq, F48_J12_1_eq, F48_J13_1_eq]
      try simp only [decide_eq_true_eq, bne_iff_ne, beq_iff_eq, ne_eq, Bool.not_eq_true', Bool.not_eq_true, Bool.not_eq_false, w64e, wu32, wu8, gt_iff_lt, ge_iff_le, List.length_cons, List.length_nil, Nat.zero_add, Int.le_refl, true_and, and_true, rdl, rdmap, rdb, esub, n64, n32, List.map_cons, List.map_nil, List.length_map, List.replicate_zero, List.take_length, shr1, shlP, beq_eq_false_iff_ne, List.drop_zero, Int.toNat_natCast, not_lt', decide_true, decide_false, Option.bind_some, shr30, shr27, shr31, shr32, shr33, shr8, shr16, quoi, quou, quo32, w64u, biti, Int.emod_add_emod, Int.add_emod_emod, List.length_append, if_true, if_false, Bool.false_eq_true, Bool.true_eq_false, not_true_eq_false, not_false_eq_true, reduceCtorEq, Int.add_mul_emod_self_right, Int.natCast_pos, Int.zero_sub, false_and, and_false] at h ⊢
      repeat' first
        | (cases h; done)
        | (cases h; rfl)
        | (cases h; simp only [*]; done)
        | exact (ih0 _ (by omega) _ _ _) h
        | exact (ih1 _ (by omega) _ _ _ _ _) h
        | exact (ih2 _ (by omega) _) h
        | exact (ih3 _ (by omega) _) h
        | (split at h <;> rename_i hc <;> (try simp only [hc, decide_eq_true_eq, bne_iff_ne, beq_iff_eq, ne_eq, Bool.not_eq_true', Bool.not_eq_true, Bool.not_eq_false, w64e, wu32, wu8, gt_iff_lt, ge_iff_le, List.length_cons, List.length_nil, Nat.zero_add, Int.le_refl, true_and, and_true, rdl, rdmap, rdb, esub, n64, n32, List.map_cons, List.map_nil, List.length_map, List.replicate_zero, List.take_length, shr1, shlP, beq_eq_false_iff_ne, List.drop_zero, Int.toNat_natCast, not_lt', decide_true, decide_false, Option.bind_some, shr30, shr27, shr31, shr32, shr33, shr8, shr16, quoi, quou, quo32, w64u, biti, Int.emod_add_emod, Int.add_emod_emod, List.length_append, if_true, if_false, Bool.false_eq_true, Bool.true_eq_false, not_true_eq_false, not_false_eq_true, reduceCtorEq, Int.add_mul_emod_self_right, Int.natCast_pos, Int.zero_sub, false_and, and_false] at h ⊢))
        | (rw [if_pos (by omega)])
        | (rw [if_neg (by omega)])
        | (exfalso; omega)
        | fail
    · intro k hk x0 x3 x4 x5 x6 r h
      cases k with
      | zero => unfold P.brindlewoodref3_Ones.l1 at h; cases h
      | succ k =>
      unfold P.brindlewoodref3_Ones.l1 at h
      rw [F48_L7_eq]
      try simp only [F48_J5_eq, F48_J12_eq, F48_J13_eq, F48_J9_eq, F48_J4_eq, F48_J12_1_eq, F48_J13_1_eq]
      try simp only [decide_eq_true_eq, bne_iff_ne, beq_iff_eq, ne_eq, Bool.not_eq_true', Bool.not_eq_true, Bool.not_eq_false, w64e, wu32, wu8, gt_iff_lt, ge_iff_le, List.length_cons, List.length_nil, Nat.zero_add, Int.le_refl, true_and, and_true, rdl, rdmap, rdb, esub, n64, n32, List.map_cons, List.map_nil, List.length_map, List.replicate_zero, List.take_length, shr1, shlP, beq_eq_false_iff_ne, List.drop_zero, Int.toNat_natCast, not_lt', decide_true, decide_false, Option.bind_some, shr30, shr27, shr31, shr32, shr33, shr8, shr16, quoi, quou, quo32, w64u, biti, Int.emod_add_emod, Int.add_emod_emod, List.length_append, if_true, if_false, Bool.false_eq_true, Bool.true_eq_false, not_true_eq_false, not_false_eq_true, reduceCtorEq, Int.add_mul_emod_self_right, Int.natCast_pos, Int.zero_sub, false_and, and_false] at h ⊢
      repeat' first
        | (cases h; done)
        | (cases h; rfl)
        | (cases h; simp only [*]; done)
        | exact (ih0 _ (by omega) _ _ _) h
        | exact (ih1 _ (by omega) _ _ _ _ _) h
        | exact (ih2 _ (by omega) _) h
        | exact (ih3 _ (by omega) _) h
        | (split at h <;> rename_i hc <;> (try simp only [hc, decide_eq_true_eq, bne_iff_ne, beq_iff_eq, ne_eq, Bool.not_eq_true', Bool.not_eq_true, Bool.not_eq_false, w64e, wu32, wu8, gt_iff_lt, ge_iff_le, List.length_cons, List.length_nil, Nat.zero_add, Int.le_refl, true_and, and_true, rdl, rdmap, rdb, esub, n64, n32, List.map_cons, List.map_nil, List.length_map, List.replicate_zero, List.take_length, shr1, shlP, beq_eq_false_iff_ne, List.drop_zero, Int.toNat_natCast, not_lt', decide_true, decide_false, Option.bind_some, shr30, shr27, shr31, shr32, shr33, shr8, shr16, quoi, quou, quo32, w64u, biti, Int.emod_add_emod, Int.add_emod_emod, List.length_append, if_true, if_false, Bool.false_eq_true, Bool.true_eq_false, not_true_eq_false, not_false_eq_true, reduceCtorEq, Int.add_mul_emod_self_right, Int.natCast_pos, Int.zero_sub, false_and, and_false] at h ⊢))
        | (rw [if_pos (by omega)])
        | (rw [if_neg (by omega)])
        | (exfalso; omega)
        | fail
    · intro k hk x3 r h
      cases k with
      | zero => unfold P.brindlewoodref3_Ones.l2 at h; cases h
      | succ k =>
      unfold P.brindlewoodref3_Ones.l2 at h
      rw [F48_L11_eq]
      try simp only [F48_J5_eq, F48_J12_eq, F48_J13_eq, F48_J9_eq, F48_J4_eq, F48_J12_1_eq, F48_J13_1_eq]
      try simp only [decide_eq_true_eq, bne_iff_ne, beq_iff_eq, ne_eq, Bool.not_eq_true', Bool.not_eq_true, Bool.not_eq_false, w64e, wu32, wu8, gt_iff_lt, ge_iff_le, List.length_cons, List.length_nil, Nat.zero_add, Int.le_refl, true_and, and_true, rdl, rdmap, rdb, esub, n64, n32, List.map_cons, List.map_nil, List.length_map, List.replicate_zero, List.take_length, shr1, shlP, beq_eq_false_iff_ne, List.drop_zero, Int.toNat_natCast, not_lt', decide_true, decide_false, Option.bind_some, shr30, shr27, shr31, shr32, shr33, shr8, shr16, quoi, quou, quo32, w64u, biti, Int.emod_add_emod, Int.add_emod_emod, List.length_append, if_true, if_false, Bool.false_eq_true, Bool.true_eq_false, not_true_eq_false, not_false_eq_true, reduceCtorEq, Int.add_mul_emod_self_right, Int.natCast_pos, Int.zero_sub, false_and, and_false] at h ⊢
      repeat' first
        | (cases h; done)
        | (cases h; rfl)
        | (cases h; simp only [*]; done)
        | exact (ih0 _ (by omega) _ _ _) h
        | exact (ih1 _ (by omega) _ _ _ _ _) h
        | exact (ih2 _ (by omega) _) h
        | exact (ih3 _ (by omega) _) h
        | (split at h <;> rename_i hc <;> (try simp only [hc, decide_eq_true_eq, bne_iff_ne, beq_iff_eq, ne_eq, Bool.not_eq_true', Bool.not_eq_true, Bool.not_eq_false, w64e, wu32, wu8, gt_iff_lt, ge_iff_le, List.length_cons, List.length_nil, Nat.zero_add, Int.le_refl, true_and, and_true, rdl, rdmap, rdb, esub, n64, n32, List.map_cons, List.map_nil, List.length_map, List.replicate_zero, List.take_length, shr1, shlP, beq_eq_false_iff_ne, List.drop_zero, Int.toNat_natCast, not_lt', decide_true, decide_false, Option.bind_some, shr30, shr27, shr31, shr32, shr33, shr8, shr16, quoi, quou, quo32, w64u, biti, Int.emod_add_emod, Int.add_emod_emod, List.length_append, if_true, if_false, Bool.false_eq_true, Bool.true_eq_false, not_true_eq_false, not_false_eq_true, reduceCtorEq, Int.add_mul_emod_self_right, Int.natCast_pos, Int.zero_sub, false_and, and_false] at h ⊢))
        | (rw [if_pos (by omega)])
        | (rw [if_neg (by omega)])
        | (exfalso; omega)
        | fail
    · intro k hk x3 r h
      cases k with
      | zero => unfold P.brindlewoodref3_Ones.l2 at h; cases h
      | succ k =>
      unfold P.brindlewoodref3_Ones.l2 at h
      rw [F48_L11_1_eq]
      try simp only [F48_J5_eq, F48_J12_eq, F48_J13_eq, F48_J9_eq, F48_J4_eq, F48_J12_1_eq, F48_J13_1_eq]
      try simp only [decide_eq_true_eq, bne_iff_ne, beq_iff_eq, ne_eq, Bool.not_eq_true', Bool.not_eq_true, Bool.not_eq_false, w64e, wu32, wu8, gt_iff_lt, ge_iff_le, List.length_cons, List.length_nil, Nat.zero_add, Int.le_refl, true_and, and_true, rdl, rdmap, rdb, esub, n64, n32, List.map_cons, List.map_nil, List.length_map, List.replicate_zero, List.take_length, shr1, shlP, beq_eq_false_iff_ne, List.drop_zero, Int.toNat_natCast, not_lt', decide_true, decide_false, Option.bind_some, shr30, shr27, shr31, shr32, shr33, shr8, shr16, quoi, quou, quo32, w64u, biti, Int.emod_add_emod, Int.add_emod_emod, List.length_append, if_true, if_false, Bool.false_eq_true, Bool.true_eq_false, not_true_eq_false, not_false_eq_true, reduceCtorEq, Int.add_mul_emod_self_right, Int.natCast_pos, Int.zero_sub, false_and, and_false] at h ⊢
      repeat' first
        | (cases h; done)
        | (cases h; rfl)
        | (cases h; simp only [*]; done)
        | exact (ih0 _ (by omega) _ _ _) h
        | exact (ih1 _ (by omega) _ _ _ _ _) h
        | exact (ih2 _ (by omega) _) h
        | exact (ih3 _ (by omega) _) h
        | (split at h <;> rename_i hc <;> (try simp only [hc, decide_eq_true_eq, bne_iff_ne, beq_iff_eq, ne_eq, Bool.not_eq_true', Bool.not_eq_true, Bool.not_eq_false, w64e, wu32, wu8, gt_iff_lt, ge_iff_le, List.length_cons, List.length_nil, Nat.zero_add, Int.le_refl, true_and, and_true, rdl, rdmap, rdb, esub, n64, n32, List.map_cons, List.map_nil, List.length_map, List.replicate_zero, List.take_length, shr1, shlP, beq_eq_false_iff_ne, List.drop_zero, Int.toNat_natCast, not_lt', decide_true, decide_false, Option.bind_some, shr30, shr27, shr31, shr32, shr33, shr8, shr16, quoi, quou, quo32, w64u, biti, Int.emod_add_emod, Int.add_emod_emod, List.length_append, if_true, if_false, Bool.false_eq_true, Bool.true_eq_false, not_true_eq_false, not_false_eq_true, reduceCtorEq, Int.add_mul_emod_self_right, Int.natCast_pos, Int.zero_sub, false_and, and_false] at h ⊢))
        | (rw [if_pos (by omega)])
        | (rw [if_neg (by omega)])
        | (exfalso; omega)
        | fail

theorem b48_L3 {k : Nat} {x0 : List Int} {x3 : List Bool} {x4 : Int} {r : List Bool} (h : P.brindlewoodref3_Ones.l0 k x0 x3 x4 = some r) : F48_L3 x0 x4 x3 = some ((r, ()), ()) := (b48_loops k).1 k (Nat.le_refl _) _ _ _ h

theorem b48_L7 {k : Nat} {x0 : List Int} {x3 : List Bool} {x4 x5 x6 : Int} {r : List Bool} (h : P.brindlewoodref3_Ones.l1 k x0 x3 x4 x5 x6 = some r) : F48_L7 x0 x4 x5 x6 x3 = some ((r, ()), ()) := (b48_loops k).2.1 k (Nat.le_refl _) _ _ _ _ _ h

theorem b48_L11 {k : Nat} {x3 : List Bool} {r : List Bool} (h : P.brindlewoodref3_Ones.l2 k x3 = some r) : F48_L11 x3 = some ((r, ()), ()) := (b48_loops k).2.2.1 k (Nat.le_refl _) _ h

theorem b48_L11_1 {k : Nat} {x3 : List Bool} {r : List Bool} (h : P.brindlewoodref3_Ones.l2 k x3 = some r) : F48_L11_1 x3 = some ((r, ()), ()) := (b48_loops k).2.2.2 k (Nat.le_refl _) _ h

theorem b48 {k : Nat} {a : List Int} {r : List Bool} (h : P.brindlewoodref3_Ones.f k a = some r) : F48 a = some ((r, ()), ()) := by
  unfold P.brindlewoodref3_Ones.f at h
  rw [F48_eq]
  try simp only [F48_J5_eq, F48_J12_eq, F48_J13_eq, F48_J9_eq, F48_J4_eq, F48_J12_1_eq, F48_J13_1_eq]
  try simp only [decide_eq_true_eq, bne_iff_ne, beq_iff_eq, ne_eq, Bool.not_eq_true', Bool.not_eq_true, Bool.not_eq_false, w64e, wu32, wu8, gt_iff_lt, ge_iff_le, List.length_cons, List.length_nil, Nat.zero_add, Int.le_refl, true_and, and_true, rdl, rdmap, rdb, esub, n64, n32, List.map_cons, List.map_nil, List.length_map, List.replicate_zero, List.take_length, shr1, shlP, beq_eq_false_iff_ne, List.drop_zero, Int.toNat_natCast, not_lt', decide_true, decide_false, Option.bind_some, shr30, shr27, shr31, shr32, shr33, shr8, shr16, quoi, quou, quo32, w64u, biti, Int.emod_add_emod, Int.add_emod_emod, List.length_append, if_true, if_false, Bool.false_eq_true, Bool.true_eq_false, not_true_eq_false, not_false_eq_true, reduceCtorEq, Int.add_mul_emod_self_right, Int.natCast_pos, Int.zero_sub, false_and, and_false] at h ⊢
  repeat' first
    | (cases h; done)
    | (cases h; rfl)
    | (cases h; simp only [*]; done)
    | (with_reducible exact b48_L3 h)
    | (split at h <;> rename_i hc <;> (try simp only [hc, decide_eq_true_eq, bne_iff_ne, beq_iff_eq, ne_eq, Bool.not_eq_true', Bool.not_eq_true, Bool.not_eq_false, w64e, wu32, wu8, gt_iff_lt, ge_iff_le, List.length_cons, List.length_nil, Nat.zero_add, Int.le_refl, true_and, and_true, rdl, rdmap, rdb, esub, n64, n32, List.map_cons, List.map_nil, List.length_map, List.replicate_zero, List.take_length, shr1, shlP, beq_eq_false_iff_ne, List.drop_zero, Int.toNat_natCast, not_lt', decide_true, decide_false, Option.bind_some, shr30, shr27, shr31, shr32, shr33, shr8, shr16, quoi, quou, quo32, w64u, biti, Int.emod_add_emod, Int.add_emod_emod, List.length_append, if_true, if_false, Bool.false_eq_true, Bool.true_eq_false, not_true_eq_false, not_false_eq_true, reduceCtorEq, Int.add_mul_emod_self_right, Int.natCast_pos, Int.zero_sub, false_and, and_false] at h ⊢))
    | (rw [if_pos (by omega)])
    | (rw [if_neg (by omega)])
    | (exfalso; omega)
    | fail

theorem b22_J2 {k : Nat} {x y c d : Bool} {a b : List Int} {r : Int} (h : P.brindlewoodref3_Int_Order.j0 k x y c a d b = some r) : F22_J2 x y c a d b = some ((r, ()), ()) := by
  cases k with
  | zero => unfold P.brindlewoodref3_Int_Order.j0 at h; cases h
  | succ k =>
  unfold P.brindlewoodref3_Int_Order.j0 at h
  rw [F22_J2_eq]
  simp only [F22_J8_eq]
  cases k with
  | zero => cases x <;> simp only [Bool.false_eq_true, if_true, if_false] at h <;> unfold P.brindlewoodref3_Int_Order.j1 at h <;> cases h
  | succ k =>
  cases x <;> cases y <;> simp only [Bool.false_eq_true, if_true, if_false] at h ⊢ <;> unfold P.brindlewoodref3_Int_Order.j1 at h <;> simp only [Bool.false_eq_true, if_true, if_false] at h ⊢ <;> first | (cases h; rfl) | (obtain ⟨t, ht, h⟩ := Option.bind_eq_some_iff.1 h; rw [b52 ht]; cases h; rfl)
theorem b22 {k : Nat} {c d : Bool} {a b : List Int} {r : Int} (h : P.brindlewoodref3_Int_Order.f k c a d b = some r) : F22 (c, a) (d, b) = some ((r, ()), ()) := by
  unfold P.brindlewoodref3_Int_Order.f at h
  rw [F22_eq]
  cases c <;> cases d <;> simp only [Bool.false_eq_true, if_true, if_false, gt_iff_lt, Int.natCast_pos] at h ⊢ <;> exact b22_J2 h

theorem b20 {k : Nat} {c : Bool} {a : List Int} {r : Bool × List Int} (h : P.brindlewoodref3_IntOf.f k c a = some r) : F20 (c, a) = some ((r, ()), ()) := by
  unfold P.brindlewoodref3_IntOf.f at h
  rw [F20_eq]
  try simp only [decide_eq_true_eq, bne_iff_ne, beq_iff_eq, ne_eq, Bool.not_eq_true', Bool.not_eq_true, Bool.not_eq_false, w64e, wu32, wu8, gt_iff_lt, ge_iff_le, List.length_cons, List.length_nil, Nat.zero_add, Int.le_refl, true_and, and_true, rdl, rdmap, rdb, esub, n64, n32, List.map_cons, List.map_nil, List.length_map, List.replicate_zero, List.take_length, shr1, shlP, beq_eq_false_iff_ne, List.drop_zero, Int.toNat_natCast, not_lt', decide_true, decide_false, Option.bind_some, shr30, shr27, shr31, shr32, shr33, shr8, shr16, quoi, quou, quo32, w64u, biti, Int.emod_add_emod, Int.add_emod_emod, List.length_append, if_true, if_false, Bool.false_eq_true, Bool.true_eq_false, not_true_eq_false, not_false_eq_true, reduceCtorEq, Int.add_mul_emod_self_right, Int.natCast_pos, Int.zero_sub, false_and, and_false] at h ⊢
  repeat' first
    | (cases h; done)
    | (cases h; rfl)
    | (cases h; simp only [*]; done)
    | (obtain ⟨t, ht, h⟩ := Option.bind_eq_some_iff.1 h; (first | replace ht := b50 ht); simp only [ht, Option.bind_some])
    | (replace h := b50 h; simp only [h, Option.bind_some]; done)
    | (split at h <;> rename_i hc <;> (try simp only [hc, decide_eq_true_eq, bne_iff_ne, beq_iff_eq, ne_eq, Bool.not_eq_true', Bool.not_eq_true, Bool.not_eq_false, w64e, wu32, wu8, gt_iff_lt, ge_iff_le, List.length_cons, List.length_nil, Nat.zero_add, Int.le_refl, true_and, and_true, rdl, rdmap, rdb, esub, n64, n32, List.map_cons, List.map_nil, List.length_map, List.replicate_zero, List.take_length, shr1, shlP, beq_eq_false_iff_ne, List.drop_zero, Int.toNat_natCast, not_lt', decide_true, decide_false, Option.bind_some, shr30, shr27, shr31, shr32, shr33, shr8, shr16, quoi, quou, quo32, w64u, biti, Int.emod_add_emod, Int.add_emod_emod, List.length_append, if_true, if_false, Bool.false_eq_true, Bool.true_eq_false, not_true_eq_false, not_false_eq_true, reduceCtorEq, Int.add_mul_emod_self_right, Int.natCast_pos, Int.zero_sub, false_and, and_false] at h ⊢))
    | (rw [if_pos (by omega)])
    | (rw [if_neg (by omega)])
    | (exfalso; omega)
    | fail
end Go.AM.RU
