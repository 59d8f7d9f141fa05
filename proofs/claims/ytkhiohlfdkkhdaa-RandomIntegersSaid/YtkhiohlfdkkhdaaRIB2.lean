/- The functions written with fuel are those of the equations, part 2. Conditions: those of each lemma. -/
import Derived.Test.YtkhiohlfdkkhdaaRIB1
set_option linter.unusedVariables false
set_option linter.unusedSimpArgs false
set_option maxRecDepth 100000
set_option maxHeartbeats 4000000
namespace Go.AM.RT
open Go.RowKit Go.Proofs.YtkhiohlfdkkhdaaW.PrintWords Go.Proofs.Ytkhiohlfdkkhdaa
theorem shrP (k : IntKind) (x y : Int) : shrI k x (Int.toNat y) = shr k x y := by
  unfold shrI shr
  exact Int.fdiv_eq_ediv_of_nonneg _ (Int.le_of_lt (Int.pow_pos (by decide)))
theorem beqd (a b : Int) : (a == b) = decide (a = b) := rfl
theorem tm2 (a : Int) : (Int.tmod a 2 = 0) = (a % 2 = 0) := by
  apply propext
  rw [← Int.dvd_iff_tmod_eq_zero, Int.dvd_iff_emod_eq_zero]
theorem b39_no {a b : Int} (h : b % 2 = 0) : F39 (a, b) = some ((none, ((6, -1), ())), ()) := by
  rw [F39_eq]
  simp only [beq_iff_eq, tm2, h, if_true]
  rw [b37 (r := (6, -1)) rfl]
  rfl
theorem b39_ok {a b : Int} (h : ¬ b % 2 = 0) : F39 (a, b) = some ((some (a, b), ((0, 0), ())), ()) := by
  rw [F39_eq]
  simp only [beq_iff_eq, tm2, h, if_false]
  rw [F39_J3_eq]
def T77 : List UInt8 := (0 :: (1 :: (2 :: (2 :: (3 :: (3 :: (3 :: (3 :: (4 :: (4 :: (4 :: (4 :: (4 :: (4 :: (4 :: (4 :: (5 :: (5 :: (5 :: (5 :: (5 :: (5 :: (5 :: (5 :: (5 :: (5 :: (5 :: (5 :: (5 :: (5 :: (5 :: (5 :: (6 :: (6 :: (6 :: (6 :: (6 :: (6 :: (6 :: (6 :: (6 :: (6 :: (6 :: (6 :: (6 :: (6 :: (6 :: (6 :: (6 :: (6 :: (6 :: (6 :: (6 :: (6 :: (6 :: (6 :: (6 :: (6 :: (6 :: (6 :: (6 :: (6 :: (6 :: (6 :: (7 :: (7 :: (7 :: (7 :: (7 :: (7 :: (7 :: (7 :: (7 :: (7 :: (7 :: (7 :: (7 :: (7 :: (7 :: (7 :: (7 :: (7 :: (7 :: (7 :: (7 :: (7 :: (7 :: (7 :: (7 :: (7 :: (7 :: (7 :: (7 :: (7 :: (7 :: (7 :: (7 :: (7 :: (7 :: (7 :: (7 :: (7 :: (7 :: (7 :: (7 :: (7 :: (7 :: (7 :: (7 :: (7 :: (7 :: (7 :: (7 :: (7 :: (7 :: (7 :: (7 :: (7 :: (7 :: (7 :: (7 :: (7 :: (7 :: (7 :: (7 :: (7 :: (7 :: (7 :: (8 :: (8 :: (8 :: (8 :: (8 :: (8 :: (8 :: (8 :: (8 :: (8 :: (8 :: (8 :: (8 :: (8 :: (8 :: (8 :: (8 :: (8 :: (8 :: (8 :: (8 :: (8 :: (8 :: (8 :: (8 :: (8 :: (8 :: (8 :: (8 :: (8 :: (8 :: (8 :: (8 :: (8 :: (8 :: (8 :: (8 :: (8 :: (8 :: (8 :: (8 :: (8 :: (8 :: (8 :: (8 :: (8 :: (8 :: (8 :: (8 :: (8 :: (8 :: (8 :: (8 :: (8 :: (8 :: (8 :: (8 :: (8 :: (8 :: (8 :: (8 :: (8 :: (8 :: (8 :: (8 :: (8 :: (8 :: (8 :: (8 :: (8 :: (8 :: (8 :: (8 :: (8 :: (8 :: (8 :: (8 :: (8 :: (8 :: (8 :: (8 :: (8 :: (8 :: (8 :: (8 :: (8 :: (8 :: (8 :: (8 :: (8 :: (8 :: (8 :: (8 :: (8 :: (8 :: (8 :: (8 :: (8 :: (8 :: (8 :: (8 :: (8 :: (8 :: (8 :: (8 :: (8 :: (8 :: (8 :: (8 :: (8 :: (8 :: (8 :: (8 :: (8 :: (8 :: (8 :: (8 :: (8 :: (8 :: (8 :: (8 :: (8 :: (8 :: (8 :: (8 :: (8 :: (8 :: (8 :: []))))))))))))))))))))))))))))))))))))))))))))))))))))))))))))))))))))))))))))))))))))))))))))))))))))))))))))))))))))))))))))))))))))))))))))))))))))))))))))))))))))))))))))))))))))))))))))))))))))))))))))))))))))))))))))))))))))))))))))))))))))))))))))))))
theorem b77_J7e (x0 x1 : Int) : F77_J7 x0 x1 = if 0 ≤ IntKind.wrap .u8 x0 then (if IntKind.wrap .u8 x0 < ((T77.length : Nat) : Int) then some (((IntKind.wrap .i64 (x1 + IntKind.wrap .i64 (((UInt8.toNat (T77.getD (Int.toNat (IntKind.wrap .u8 x0)) 0) : Nat) : Int)))), ()), ()) else none) else none := F77_J7_eq x0 x1
theorem b77_T : ∀ i : Fin 256, (T77.getD i.1 0).toNat = Lib.bitLen i.1 := by decide +kernel
theorem b77_J7 (x : Nat) (n : Int) (h : x < 256) (hn : 0 ≤ n) (hn2 : n ≤ 100) : F77_J7 (x : Int) n = some (((n + (Lib.bitLen x : Nat) : Int), ()), ()) := by
  have e : IntKind.wrap .u8 (x : Int) = (x : Int) := by rw [wu8]; omega
  have hT : T77.length = 256 := by decide +kernel
  have hk : (T77.getD x 0).toNat = Lib.bitLen x := b77_T ⟨x, h⟩
  have hb := (T77.getD x 0).toNat_lt
  rw [b77_J7e, e, hT, if_pos (by omega), if_pos (by omega), Int.toNat_natCast, ← hk, w64e, w64e]
  have e2 : wrap64 (((T77.getD x 0).toNat : Nat) : Int) = ((T77.getD x 0).toNat : Int) := by unfold wrap64; omega
  rw [e2]
  have e3 : wrap64 (n + ((T77.getD x 0).toNat : Int)) = n + ((T77.getD x 0).toNat : Int) := by unfold wrap64; omega
  rw [e3]
theorem bl_aux : ∀ (f x : Nat), x < 2 ^ f → Lib.bitLenAux (f + 1) x = Lib.bitLenAux f x
  | 0, x, h => by
    have : x = 0 := by omega
    subst this
    simp [Lib.bitLenAux]
  | f + 1, x, h => by
    show (if x = 0 then 0 else 1 + Lib.bitLenAux (f + 1) (x / 2)) = (if x = 0 then 0 else 1 + Lib.bitLenAux f (x / 2))
    rw [bl_aux f (x / 2) (by rw [Nat.pow_succ] at h; omega)]
theorem bl_le : ∀ (d f x : Nat), x < 2 ^ f → Lib.bitLenAux (f + d) x = Lib.bitLenAux f x
  | 0, f, x, h => rfl
  | d + 1, f, x, h => by
    rw [← Nat.add_assoc, bl_aux (f + d) x (Nat.lt_of_lt_of_le h (Nat.pow_le_pow_right (by decide) (by omega))), bl_le d f x h]
theorem bl_step (f x : Nat) (h : x ≠ 0) : Lib.bitLenAux (f + 1) x = 1 + Lib.bitLenAux f (x / 2) := by rw [Lib.bitLenAux, if_neg h]
theorem bl_256 (x : Nat) (h : 256 ≤ x) (h2 : x < 2 ^ 56) : Lib.bitLen x = 8 + Lib.bitLen (x / 256) := by
  unfold Lib.bitLen
  rw [show (64 : Nat) = 56 + 8 from rfl, bl_le 8 56 (x / 256) (by omega)]
  rw [bl_step _ x (by omega), bl_step _ (x / 2) (by omega), bl_step _ (x / 2 / 2) (by omega), bl_step _ (x / 2 / 2 / 2) (by omega), bl_step _ (x / 2 / 2 / 2 / 2) (by omega), bl_step _ (x / 2 / 2 / 2 / 2 / 2) (by omega), bl_step _ (x / 2 / 2 / 2 / 2 / 2 / 2) (by omega), bl_step _ (x / 2 / 2 / 2 / 2 / 2 / 2 / 2) (by omega)]
  rw [show x / 2 / 2 / 2 / 2 / 2 / 2 / 2 / 2 = x / 256 by omega]
  omega
theorem b77_J4 (x : Nat) (n : Int) (h : x < 65536) (hn : 0 ≤ n) (hn2 : n ≤ 50) : F77_J4 (x : Int) n = some (((n + (Lib.bitLen x : Nat) : Int), ()), ()) := by
  rw [F77_J4_eq]
  simp only [decide_eq_true_eq, shr8, w64e]
  by_cases hx : (x : Int) ≥ 256
  · rw [if_pos hx]
    have e : wrap64 (n + 8) = n + 8 := by unfold wrap64; omega
    have e2 : (x : Int) / 256 = ((x / 256 : Nat) : Int) := by omega
    rw [e, e2, b77_J7 (x / 256) (n + 8) (by omega) (by omega) (by omega), bl_256 x (by omega) (by omega)]
    have e3 : n + 8 + ((Lib.bitLen (x / 256) : Nat) : Int) = n + ((8 + Lib.bitLen (x / 256) : Nat) : Int) := by omega
    rw [e3]
  · rw [if_neg hx, b77_J7 x n (by omega) hn (by omega)]
theorem b77 {a r : Int} (h : P.bits_Len32.f a = some r) : F77 a = some ((r, ()), ()) := by
  unfold P.bits_Len32.f at h
  split at h
  case isFalse => cases h
  rename_i hc
  cases h
  obtain ⟨n, rfl⟩ := Int.eq_ofNat_of_zero_le hc.1
  rw [F77_eq, Int.toNat_natCast]
  simp only [decide_eq_true_eq, shr16]
  by_cases hx : (n : Int) ≥ 65536
  · rw [if_pos hx]
    have e2 : (n : Int) / 65536 = ((n / 65536 : Nat) : Int) := by omega
    rw [e2, b77_J4 (n / 65536) 16 (by omega) (by omega) (by omega), bl_256 n (by omega) (by omega), bl_256 (n / 256) (by omega) (by omega), show n / 256 / 256 = n / 65536 by omega]
    have e3 : (16 : Int) + ((Lib.bitLen (n / 65536) : Nat) : Int) = ((8 + (8 + Lib.bitLen (n / 65536)) : Nat) : Int) := by omega
    rw [e3]
  · rw [if_neg hx, b77_J4 n 0 (by omega) (by omega) (by omega), Int.zero_add]

theorem b68 {a : List Int} {r : Int × Int × Int} (h : P.natural_Bits.f a = some r) : F68 a = some ((r.1, (r.2, ())), ()) := by
  unfold P.natural_Bits.f at h
  rw [F68_eq]
  try simp only [F68_J3_eq, F68_J5_eq]
  try simp only [decide_eq_true_eq, bne_iff_ne, beq_iff_eq, ne_eq, Bool.not_eq_true', Bool.not_eq_true, Bool.not_eq_false, w64e, wu32, wu8, gt_iff_lt, ge_iff_le, List.length_cons, List.length_nil, Nat.zero_add, Int.le_refl, true_and, and_true, rdl, rdmap, rdb, esub, n64, n32, List.map_cons, List.map_nil, List.length_map, shrP, beqd, Bool.and_eq_true, Bool.and_true, Bool.or_eq_true, Bool.not_and, decide_eq_false_iff_not, tm2, List.replicate_zero, List.drop_zero, Int.toNat_natCast, not_lt', decide_true, decide_false, Option.bind_some, shr30, shr27, shr31, shr32, shr33, shr8, shr16, quoi, quou, quo32, w64u, biti, Int.emod_add_emod, Int.add_emod_emod, List.length_append, if_true, if_false, Bool.false_eq_true, Bool.true_eq_false, not_true_eq_false, not_false_eq_true, reduceCtorEq, Int.add_mul_emod_self_right, Int.natCast_pos, Int.zero_sub, false_and, and_false] at h ⊢
  repeat' first
    | (cases h; done)
    | (cases h; rfl)
    | (cases h; simp only [*]; done)
    | (obtain ⟨t, ht, h⟩ := Option.bind_eq_some_iff.1 h; (first | replace ht := b75 ht | replace ht := b76 ht | replace ht := b77 ht); simp only [ht, Option.bind_some])
    | (replace h := b75 h; simp only [h, Option.bind_some]; done)
    | (replace h := b76 h; simp only [h, Option.bind_some]; done)
    | (replace h := b77 h; simp only [h, Option.bind_some]; done)
    | (split at h <;> rename_i hc <;> (try simp only [hc, decide_eq_true_eq, bne_iff_ne, beq_iff_eq, ne_eq, Bool.not_eq_true', Bool.not_eq_true, Bool.not_eq_false, w64e, wu32, wu8, gt_iff_lt, ge_iff_le, List.length_cons, List.length_nil, Nat.zero_add, Int.le_refl, true_and, and_true, rdl, rdmap, rdb, esub, n64, n32, List.map_cons, List.map_nil, List.length_map, shrP, beqd, Bool.and_eq_true, Bool.and_true, Bool.or_eq_true, Bool.not_and, decide_eq_false_iff_not, tm2, List.replicate_zero, List.drop_zero, Int.toNat_natCast, not_lt', decide_true, decide_false, Option.bind_some, shr30, shr27, shr31, shr32, shr33, shr8, shr16, quoi, quou, quo32, w64u, biti, Int.emod_add_emod, Int.add_emod_emod, List.length_append, if_true, if_false, Bool.false_eq_true, Bool.true_eq_false, not_true_eq_false, not_false_eq_true, reduceCtorEq, Int.add_mul_emod_self_right, Int.natCast_pos, Int.zero_sub, false_and, and_false] at h ⊢))
    | (rw [if_pos (by omega)])
    | (rw [if_neg (by omega)])
    | (exfalso; omega)
    | fail

theorem b60 {k : Nat} {c : Bool} {a : List Int} {r : Int × Int × Int} (h : P.integer_Bits.f k c a = some r) : F60 (c, a) = some ((r.1, (r.2, ())), ()) := by
  unfold P.integer_Bits.f at h
  rw [F60_eq]
  try simp only [F60_J4_eq]
  try simp only [decide_eq_true_eq, bne_iff_ne, beq_iff_eq, ne_eq, Bool.not_eq_true', Bool.not_eq_true, Bool.not_eq_false, w64e, wu32, wu8, gt_iff_lt, ge_iff_le, List.length_cons, List.length_nil, Nat.zero_add, Int.le_refl, true_and, and_true, rdl, rdmap, rdb, esub, n64, n32, List.map_cons, List.map_nil, List.length_map, shrP, beqd, Bool.and_eq_true, Bool.and_true, Bool.or_eq_true, Bool.not_and, decide_eq_false_iff_not, tm2, List.replicate_zero, List.drop_zero, Int.toNat_natCast, not_lt', decide_true, decide_false, Option.bind_some, shr30, shr27, shr31, shr32, shr33, shr8, shr16, quoi, quou, quo32, w64u, biti, Int.emod_add_emod, Int.add_emod_emod, List.length_append, if_true, if_false, Bool.false_eq_true, Bool.true_eq_false, not_true_eq_false, not_false_eq_true, reduceCtorEq, Int.add_mul_emod_self_right, Int.natCast_pos, Int.zero_sub, false_and, and_false] at h ⊢
  repeat' first
    | (cases h; done)
    | (cases h; rfl)
    | (cases h; simp only [*]; done)
    | (obtain ⟨t, ht, h⟩ := Option.bind_eq_some_iff.1 h; (first | replace ht := b62_1 ht | replace ht := b68 ht); simp only [ht, Option.bind_some])
    | (replace h := b62_1 h; simp only [h, Option.bind_some]; done)
    | (replace h := b68 h; simp only [h, Option.bind_some]; done)
    | (split at h <;> rename_i hc <;> (try simp only [hc, decide_eq_true_eq, bne_iff_ne, beq_iff_eq, ne_eq, Bool.not_eq_true', Bool.not_eq_true, Bool.not_eq_false, w64e, wu32, wu8, gt_iff_lt, ge_iff_le, List.length_cons, List.length_nil, Nat.zero_add, Int.le_refl, true_and, and_true, rdl, rdmap, rdb, esub, n64, n32, List.map_cons, List.map_nil, List.length_map, shrP, beqd, Bool.and_eq_true, Bool.and_true, Bool.or_eq_true, Bool.not_and, decide_eq_false_iff_not, tm2, List.replicate_zero, List.drop_zero, Int.toNat_natCast, not_lt', decide_true, decide_false, Option.bind_some, shr30, shr27, shr31, shr32, shr33, shr8, shr16, quoi, quou, quo32, w64u, biti, Int.emod_add_emod, Int.add_emod_emod, List.length_append, if_true, if_false, Bool.false_eq_true, Bool.true_eq_false, not_true_eq_false, not_false_eq_true, reduceCtorEq, Int.add_mul_emod_self_right, Int.natCast_pos, Int.zero_sub, false_and, and_false] at h ⊢))
    | (rw [if_pos (by omega)])
    | (rw [if_neg (by omega)])
    | (exfalso; omega)
    | fail

theorem b47_loops : ∀ n : Nat, (∀ k, k ≤ n → ∀ (x0 : Int) (x4 : List Int) {r : Bool × List Int}, P.integer_Of.l0 k x0 x4 = some r → F47_L5 x0 false x4 = some ((r, ()), ())) ∧ (∀ k, k ≤ n → ∀ (x0 : Int) (x4 : List Int) {r : Bool × List Int}, P.integer_Of.l0 k x0 x4 = some r → F47_L5_1 x0 x4 false = some ((r, ()), ()))
  | 0 => ⟨(fun k hk x0 x4 r h => by
    obtain rfl : k = 0 := by omega
    unfold P.integer_Of.l0 at h; cases h), (fun k hk x0 x4 r h => by
    obtain rfl : k = 0 := by omega
    unfold P.integer_Of.l0 at h; cases h)⟩
  | n + 1 => by
    obtain ⟨ih0, ih1⟩ := b47_loops n
    refine ⟨?_, ?_⟩
    · intro k hk x0 x4 r h
      cases k with
      | zero => unfold P.integer_Of.l0 at h; cases h
      | succ k =>
      unfold P.integer_Of.l0 at h
      rw [F47_L5_eq]
      try simp only [F47_J4_eq, F47_J6_eq, F47_J7_eq, F47_J6_1_eq, F47_J7_1_eq]
      try simp only [decide_eq_true_eq, bne_iff_ne, beq_iff_eq, ne_eq, Bool.not_eq_true', Bool.not_eq_true, Bool.not_eq_false, w64e, wu32, wu8, gt_iff_lt, ge_iff_le, List.length_cons, List.length_nil, Nat.zero_add, Int.le_refl, true_and, and_true, rdl, rdmap, rdb, esub, n64, n32, List.map_cons, List.map_nil, List.length_map, shrP, beqd, Bool.and_eq_true, Bool.and_true, Bool.or_eq_true, Bool.not_and, decide_eq_false_iff_not, tm2, List.replicate_zero, List.drop_zero, Int.toNat_natCast, not_lt', decide_true, decide_false, Option.bind_some, shr30, shr27, shr31, shr32, shr33, shr8, shr16, quoi, quou, quo32, w64u, biti, Int.emod_add_emod, Int.add_emod_emod, List.length_append, if_true, if_false, Bool.false_eq_true, Bool.true_eq_false, not_true_eq_false, not_false_eq_true, reduceCtorEq, Int.add_mul_emod_self_right, Int.natCast_pos, Int.zero_sub, false_and, and_false] at h ⊢
      repeat' first
        | (cases h; done)
        | (cases h; rfl)
        | (cases h; simp only [*]; done)
        | exact (ih0 _ (by omega) _ _) h
        | exact (ih1 _ (by omega) _ _) h
        | (split at h <;> rename_i hc <;> (try simp only [hc, decide_eq_true_eq, bne_iff_ne, beq_iff_eq, ne_eq, Bool.not_eq_true', Bool.not_eq_true, Bool.not_eq_false, w64e, wu32, wu8, gt_iff_lt, ge_iff_le, List.length_cons, List.length_nil, Nat.zero_add, Int.le_refl, true_and, and_true, rdl, rdmap, rdb, esub, n64, n32, List.map_cons, List.map_nil, List.length_map, shrP, beqd, Bool.and_eq_true, Bool.and_true, Bool.or_eq_true, Bool.not_and, decide_eq_false_iff_not, tm2, List.replicate_zero, List.drop_zero, Int.toNat_natCast, not_lt', decide_true, decide_false, Option.bind_some, shr30, shr27, shr31, shr32, shr33, shr8, shr16, quoi, quou, quo32, w64u, biti, Int.emod_add_emod, Int.add_emod_emod, List.length_append, if_true, if_false, Bool.false_eq_true, Bool.true_eq_false, not_true_eq_false, not_false_eq_true, reduceCtorEq, Int.add_mul_emod_self_right, Int.natCast_pos, Int.zero_sub, false_and, and_false] at h ⊢))
        | (rw [if_pos (by omega)])
        | (rw [if_neg (by omega)])
        | (unfold P.integer_Of.j0 at h)
        | (exfalso; omega)
        | fail
    · intro k hk x0 x4 r h
      cases k with
      | zero => unfold P.integer_Of.l0 at h; cases h
      | succ k =>
      unfold P.integer_Of.l0 at h
      rw [F47_L5_1_eq]
      try simp only [F47_J4_eq, F47_J6_eq, F47_J7_eq, F47_J6_1_eq, F47_J7_1_eq]
      try simp only [decide_eq_true_eq, bne_iff_ne, beq_iff_eq, ne_eq, Bool.not_eq_true', Bool.not_eq_true, Bool.not_eq_false, w64e, wu32, wu8, gt_iff_lt, ge_iff_le, List.length_cons, List.length_nil, Nat.zero_add, Int.le_refl, true_and, and_true, rdl, rdmap, rdb, esub, n64, n32, List.map_cons, List.map_nil, List.length_map, shrP, beqd, Bool.and_eq_true, Bool.and_true, Bool.or_eq_true, Bool.not_and, decide_eq_false_iff_not, tm2, List.replicate_zero, List.drop_zero, Int.toNat_natCast, not_lt', decide_true, decide_false, Option.bind_some, shr30, shr27, shr31, shr32, shr33, shr8, shr16, quoi, quou, quo32, w64u, biti, Int.emod_add_emod, Int.add_emod_emod, List.length_append, if_true, if_false, Bool.false_eq_true, Bool.true_eq_false, not_true_eq_false, not_false_eq_true, reduceCtorEq, Int.add_mul_emod_self_right, Int.natCast_pos, Int.zero_sub, false_and, and_false] at h ⊢
      repeat' first
        | (cases h; done)
        | (cases h; rfl)
        | (cases h; simp only [*]; done)
        | exact (ih0 _ (by omega) _ _) h
        | exact (ih1 _ (by omega) _ _) h
        | (split at h <;> rename_i hc <;> (try simp only [hc, decide_eq_true_eq, bne_iff_ne, beq_iff_eq, ne_eq, Bool.not_eq_true', Bool.not_eq_true, Bool.not_eq_false, w64e, wu32, wu8, gt_iff_lt, ge_iff_le, List.length_cons, List.length_nil, Nat.zero_add, Int.le_refl, true_and, and_true, rdl, rdmap, rdb, esub, n64, n32, List.map_cons, List.map_nil, List.length_map, shrP, beqd, Bool.and_eq_true, Bool.and_true, Bool.or_eq_true, Bool.not_and, decide_eq_false_iff_not, tm2, List.replicate_zero, List.drop_zero, Int.toNat_natCast, not_lt', decide_true, decide_false, Option.bind_some, shr30, shr27, shr31, shr32, shr33, shr8, shr16, quoi, quou, quo32, w64u, biti, Int.emod_add_emod, Int.add_emod_emod, List.length_append, if_true, if_false, Bool.false_eq_true, Bool.true_eq_false, not_true_eq_false, not_false_eq_true, reduceCtorEq, Int.add_mul_emod_self_right, Int.natCast_pos, Int.zero_sub, false_and, and_false] at h ⊢))
        | (rw [if_pos (by omega)])
        | (rw [if_neg (by omega)])
        | (unfold P.integer_Of.j0 at h)
        | (exfalso; omega)
        | fail

theorem b47_L5 {k : Nat} {x0 : Int} {x4 : List Int} {r : Bool × List Int} (h : P.integer_Of.l0 k x0 x4 = some r) : F47_L5 x0 false x4 = some ((r, ()), ()) := (b47_loops k).1 k (Nat.le_refl _) _ _ h

theorem b47_L5_1 {k : Nat} {x0 : Int} {x4 : List Int} {r : Bool × List Int} (h : P.integer_Of.l0 k x0 x4 = some r) : F47_L5_1 x0 x4 false = some ((r, ()), ()) := (b47_loops k).2 k (Nat.le_refl _) _ _ h

theorem b47 {k : Nat} {a : Int} {r : Bool × List Int} (h : P.integer_Of.f k a = some r) : F47 a = some ((r, ()), ()) := by
  unfold P.integer_Of.f at h
  rw [F47_eq]
  try simp only [F47_J4_eq, F47_J6_eq, F47_J7_eq, F47_J6_1_eq, F47_J7_1_eq]
  try simp only [decide_eq_true_eq, bne_iff_ne, beq_iff_eq, ne_eq, Bool.not_eq_true', Bool.not_eq_true, Bool.not_eq_false, w64e, wu32, wu8, gt_iff_lt, ge_iff_le, List.length_cons, List.length_nil, Nat.zero_add, Int.le_refl, true_and, and_true, rdl, rdmap, rdb, esub, n64, n32, List.map_cons, List.map_nil, List.length_map, shrP, beqd, Bool.and_eq_true, Bool.and_true, Bool.or_eq_true, Bool.not_and, decide_eq_false_iff_not, tm2, List.replicate_zero, List.drop_zero, Int.toNat_natCast, not_lt', decide_true, decide_false, Option.bind_some, shr30, shr27, shr31, shr32, shr33, shr8, shr16, quoi, quou, quo32, w64u, biti, Int.emod_add_emod, Int.add_emod_emod, List.length_append, if_true, if_false, Bool.false_eq_true, Bool.true_eq_false, not_true_eq_false, not_false_eq_true, reduceCtorEq, Int.add_mul_emod_self_right, Int.natCast_pos, Int.zero_sub, false_and, and_false] at h ⊢
  repeat' first
    | (cases h; done)
    | (cases h; rfl)
    | (cases h; simp only [*]; done)
    | (with_reducible exact b47_L5 h)
    | (split at h <;> rename_i hc <;> (try simp only [hc, decide_eq_true_eq, bne_iff_ne, beq_iff_eq, ne_eq, Bool.not_eq_true', Bool.not_eq_true, Bool.not_eq_false, w64e, wu32, wu8, gt_iff_lt, ge_iff_le, List.length_cons, List.length_nil, Nat.zero_add, Int.le_refl, true_and, and_true, rdl, rdmap, rdb, esub, n64, n32, List.map_cons, List.map_nil, List.length_map, shrP, beqd, Bool.and_eq_true, Bool.and_true, Bool.or_eq_true, Bool.not_and, decide_eq_false_iff_not, tm2, List.replicate_zero, List.drop_zero, Int.toNat_natCast, not_lt', decide_true, decide_false, Option.bind_some, shr30, shr27, shr31, shr32, shr33, shr8, shr16, quoi, quou, quo32, w64u, biti, Int.emod_add_emod, Int.add_emod_emod, List.length_append, if_true, if_false, Bool.false_eq_true, Bool.true_eq_false, not_true_eq_false, not_false_eq_true, reduceCtorEq, Int.add_mul_emod_self_right, Int.natCast_pos, Int.zero_sub, false_and, and_false] at h ⊢))
    | (rw [if_pos (by omega)])
    | (rw [if_neg (by omega)])
    | (unfold P.integer_Of.j0 at h)
    | (exfalso; omega)
    | fail

theorem b61_loops : ∀ n : Nat, (∀ k, k ≤ n → ∀ (x1 : Int) (x5 : List Int) (s t : Int) {r : Bool × List Int × Int × Int}, P.random_source_bits.l0 k x1 x5 s t = some r → F61_L2 x1 s t false x5 = some (((r.1, r.2.1), ()), (r.2.2, ()))) ∧ (∀ k, k ≤ n → ∀ (x5 : List Int) (s t : Int) {r : Bool × List Int × Int × Int}, P.random_source_bits.l1 k x5 s t = some r → F61_L8 s t false x5 = some (((r.1, r.2.1), ()), (r.2.2, ()))) ∧ (∀ k, k ≤ n → ∀ (x5 : List Int) (s t : Int) {r : Bool × List Int × Int × Int}, P.random_source_bits.l1 k x5 s t = some r → F61_L8_1 x5 s t false = some (((r.1, r.2.1), ()), (r.2.2, ())))
  | 0 => ⟨(fun k hk x1 x5 s t r h => by
    obtain rfl : k = 0 := by omega
    unfold P.random_source_bits.l0 at h; cases h), (fun k hk x5 s t r h => by
    obtain rfl : k = 0 := by omega
    unfold P.random_source_bits.l1 at h; cases h), (fun k hk x5 s t r h => by
    obtain rfl : k = 0 := by omega
    unfold P.random_source_bits.l1 at h; cases h)⟩
  | n + 1 => by
    obtain ⟨ih0, ih1, ih2⟩ := b61_loops n
    refine ⟨?_, ?_, ?_⟩
    · intro k hk x1 x5 s t r h
      cases k with
      | zero => unfold P.random_source_bits.l0 at h; cases h
      | succ k =>
      unfold P.random_source_bits.l0 at h
      rw [F61_L2_eq]
      try simp only [F61_J4_eq, F61_J7_eq, F61_J9_eq, F61_J10_eq, F61_J3_eq, F61_J9_1_eq, F61_J10_1_eq]
      try simp only [decide_eq_true_eq, bne_iff_ne, beq_iff_eq, ne_eq, Bool.not_eq_true', Bool.not_eq_true, Bool.not_eq_false, w64e, wu32, wu8, gt_iff_lt, ge_iff_le, List.length_cons, List.length_nil, Nat.zero_add, Int.le_refl, true_and, and_true, rdl, rdmap, rdb, esub, n64, n32, List.map_cons, List.map_nil, List.length_map, shrP, beqd, Bool.and_eq_true, Bool.and_true, Bool.or_eq_true, Bool.not_and, decide_eq_false_iff_not, tm2, List.replicate_zero, List.drop_zero, Int.toNat_natCast, not_lt', decide_true, decide_false, Option.bind_some, shr30, shr27, shr31, shr32, shr33, shr8, shr16, quoi, quou, quo32, w64u, biti, Int.emod_add_emod, Int.add_emod_emod, List.length_append, if_true, if_false, Bool.false_eq_true, Bool.true_eq_false, not_true_eq_false, not_false_eq_true, reduceCtorEq, Int.add_mul_emod_self_right, Int.natCast_pos, Int.zero_sub, false_and, and_false] at h ⊢
      repeat' first
        | (cases h; done)
        | (cases h; rfl)
        | (cases h; simp only [*]; done)
        | exact (ih0 _ (by omega) _ _ _ _) h
        | exact (ih1 _ (by omega) _ _ _) h
        | exact (ih2 _ (by omega) _ _ _) h
        | (obtain ⟨t, ht, h⟩ := Option.bind_eq_some_iff.1 h; (first | replace ht := b40 ht); simp only [ht, Option.bind_some])
        | (replace h := b40 h; simp only [h, Option.bind_some]; done)
        | (split at h <;> rename_i hc <;> (try simp only [hc, decide_eq_true_eq, bne_iff_ne, beq_iff_eq, ne_eq, Bool.not_eq_true', Bool.not_eq_true, Bool.not_eq_false, w64e, wu32, wu8, gt_iff_lt, ge_iff_le, List.length_cons, List.length_nil, Nat.zero_add, Int.le_refl, true_and, and_true, rdl, rdmap, rdb, esub, n64, n32, List.map_cons, List.map_nil, List.length_map, shrP, beqd, Bool.and_eq_true, Bool.and_true, Bool.or_eq_true, Bool.not_and, decide_eq_false_iff_not, tm2, List.replicate_zero, List.drop_zero, Int.toNat_natCast, not_lt', decide_true, decide_false, Option.bind_some, shr30, shr27, shr31, shr32, shr33, shr8, shr16, quoi, quou, quo32, w64u, biti, Int.emod_add_emod, Int.add_emod_emod, List.length_append, if_true, if_false, Bool.false_eq_true, Bool.true_eq_false, not_true_eq_false, not_false_eq_true, reduceCtorEq, Int.add_mul_emod_self_right, Int.natCast_pos, Int.zero_sub, false_and, and_false] at h ⊢))
        | (rw [if_pos (by omega)])
        | (rw [if_neg (by omega)])
        | (exfalso; omega)
        | fail
    · intro k hk x5 s t r h
      cases k with
      | zero => unfold P.random_source_bits.l1 at h; cases h
      | succ k =>
      unfold P.random_source_bits.l1 at h
      rw [F61_L8_eq]
      try simp only [F61_J4_eq, F61_J7_eq, F61_J9_eq, F61_J10_eq, F61_J3_eq, F61_J9_1_eq, F61_J10_1_eq]
      try simp only [decide_eq_true_eq, bne_iff_ne, beq_iff_eq, ne_eq, Bool.not_eq_true', Bool.not_eq_true, Bool.not_eq_false, w64e, wu32, wu8, gt_iff_lt, ge_iff_le, List.length_cons, List.length_nil, Nat.zero_add, Int.le_refl, true_and, and_true, rdl, rdmap, rdb, esub, n64, n32, List.map_cons, List.map_nil, List.length_map, shrP, beqd, Bool.and_eq_true, Bool.and_true, Bool.or_eq_true, Bool.not_and, decide_eq_false_iff_not, tm2, List.replicate_zero, List.drop_zero, Int.toNat_natCast, not_lt', decide_true, decide_false, Option.bind_some, shr30, shr27, shr31, shr32, shr33, shr8, shr16, quoi, quou, quo32, w64u, biti, Int.emod_add_emod, Int.add_emod_emod, List.length_append, if_true, if_false, Bool.false_eq_true, Bool.true_eq_false, not_true_eq_false, not_false_eq_true, reduceCtorEq, Int.add_mul_emod_self_right, Int.natCast_pos, Int.zero_sub, false_and, and_false] at h ⊢
      repeat' first
        | (cases h; done)
        | (cases h; rfl)
        | (cases h; simp only [*]; done)
        | exact (ih0 _ (by omega) _ _ _ _) h
        | exact (ih1 _ (by omega) _ _ _) h
        | exact (ih2 _ (by omega) _ _ _) h
        | (obtain ⟨t, ht, h⟩ := Option.bind_eq_some_iff.1 h; (first | replace ht := b40 ht); simp only [ht, Option.bind_some])
        | (replace h := b40 h; simp only [h, Option.bind_some]; done)
        | (split at h <;> rename_i hc <;> (try simp only [hc, decide_eq_true_eq, bne_iff_ne, beq_iff_eq, ne_eq, Bool.not_eq_true', Bool.not_eq_true, Bool.not_eq_false, w64e, wu32, wu8, gt_iff_lt, ge_iff_le, List.length_cons, List.length_nil, Nat.zero_add, Int.le_refl, true_and, and_true, rdl, rdmap, rdb, esub, n64, n32, List.map_cons, List.map_nil, List.length_map, shrP, beqd, Bool.and_eq_true, Bool.and_true, Bool.or_eq_true, Bool.not_and, decide_eq_false_iff_not, tm2, List.replicate_zero, List.drop_zero, Int.toNat_natCast, not_lt', decide_true, decide_false, Option.bind_some, shr30, shr27, shr31, shr32, shr33, shr8, shr16, quoi, quou, quo32, w64u, biti, Int.emod_add_emod, Int.add_emod_emod, List.length_append, if_true, if_false, Bool.false_eq_true, Bool.true_eq_false, not_true_eq_false, not_false_eq_true, reduceCtorEq, Int.add_mul_emod_self_right, Int.natCast_pos, Int.zero_sub, false_and, and_false] at h ⊢))
        | (rw [if_pos (by omega)])
        | (rw [if_neg (by omega)])
        | (exfalso; omega)
        | fail
    · intro k hk x5 s t r h
      cases k with
      | zero => unfold P.random_source_bits.l1 at h; cases h
      | succ k =>
      unfold P.random_source_bits.l1 at h
      rw [F61_L8_1_eq]
      try simp only [F61_J4_eq, F61_J7_eq, F61_J9_eq, F61_J10_eq, F61_J3_eq, F61_J9_1_eq, F61_J10_1_eq]
      try simp only [decide_eq_true_eq, bne_iff_ne, beq_iff_eq, ne_eq, Bool.not_eq_true', Bool.not_eq_true, Bool.not_eq_false, w64e, wu32, wu8, gt_iff_lt, ge_iff_le, List.length_cons, List.length_nil, Nat.zero_add, Int.le_refl, true_and, and_true, rdl, rdmap, rdb, esub, n64, n32, List.map_cons, List.map_nil, List.length_map, shrP, beqd, Bool.and_eq_true, Bool.and_true, Bool.or_eq_true, Bool.not_and, decide_eq_false_iff_not, tm2, List.replicate_zero, List.drop_zero, Int.toNat_natCast, not_lt', decide_true, decide_false, Option.bind_some, shr30, shr27, shr31, shr32, shr33, shr8, shr16, quoi, quou, quo32, w64u, biti, Int.emod_add_emod, Int.add_emod_emod, List.length_append, if_true, if_false, Bool.false_eq_true, Bool.true_eq_false, not_true_eq_false, not_false_eq_true, reduceCtorEq, Int.add_mul_emod_self_right, Int.natCast_pos, Int.zero_sub, false_and, and_false] at h ⊢
      repeat' first
        | (cases h; done)
        | (cases h; rfl)
        | (cases h; simp only [*]; done)
        | exact (ih0 _ (by omega) _ _ _ _) h
        | exact (ih1 _ (by omega) _ _ _) h
        | exact (ih2 _ (by omega) _ _ _) h
        | (obtain ⟨t, ht, h⟩ := Option.bind_eq_some_iff.1 h; (first | replace ht := b40 ht); simp only [ht, Option.bind_some])
        | (replace h := b40 h; simp only [h, Option.bind_some]; done)
        | (split at h <;> rename_i hc <;> (try simp only [hc, decide_eq_true_eq, bne_iff_ne, beq_iff_eq, ne_eq, Bool.not_eq_true', Bool.not_eq_true, Bool.not_eq_false, w64e, wu32, wu8, gt_iff_lt, ge_iff_le, List.length_cons, List.length_nil, Nat.zero_add, Int.le_refl, true_and, and_true, rdl, rdmap, rdb, esub, n64, n32, List.map_cons, List.map_nil, List.length_map, shrP, beqd, Bool.and_eq_true, Bool.and_true, Bool.or_eq_true, Bool.not_and, decide_eq_false_iff_not, tm2, List.replicate_zero, List.drop_zero, Int.toNat_natCast, not_lt', decide_true, decide_false, Option.bind_some, shr30, shr27, shr31, shr32, shr33, shr8, shr16, quoi, quou, quo32, w64u, biti, Int.emod_add_emod, Int.add_emod_emod, List.length_append, if_true, if_false, Bool.false_eq_true, Bool.true_eq_false, not_true_eq_false, not_false_eq_true, reduceCtorEq, Int.add_mul_emod_self_right, Int.natCast_pos, Int.zero_sub, false_and, and_false] at h ⊢))
        | (rw [if_pos (by omega)])
        | (rw [if_neg (by omega)])
        | (exfalso; omega)
        | fail

theorem b61_L2 {k : Nat} {x1 : Int} {x5 : List Int} {s t : Int} {r : Bool × List Int × Int × Int} (h : P.random_source_bits.l0 k x1 x5 s t = some r) : F61_L2 x1 s t false x5 = some (((r.1, r.2.1), ()), (r.2.2, ())) := (b61_loops k).1 k (Nat.le_refl _) _ _ _ _ h

theorem b61_L8 {k : Nat} {x5 : List Int} {s t : Int} {r : Bool × List Int × Int × Int} (h : P.random_source_bits.l1 k x5 s t = some r) : F61_L8 s t false x5 = some (((r.1, r.2.1), ()), (r.2.2, ())) := (b61_loops k).2.1 k (Nat.le_refl _) _ _ _ h

theorem b61_L8_1 {k : Nat} {x5 : List Int} {s t : Int} {r : Bool × List Int × Int × Int} (h : P.random_source_bits.l1 k x5 s t = some r) : F61_L8_1 x5 s t false = some (((r.1, r.2.1), ()), (r.2.2, ())) := (b61_loops k).2.2 k (Nat.le_refl _) _ _ _ h

theorem b61 {k : Nat} {s t a : Int} {r : Bool × List Int × Int × Int} (h : P.random_source_bits.f k s t a = some r) : F61 (s, t) a = some (((r.1, r.2.1), ()), (r.2.2, ())) := by
  unfold P.random_source_bits.f at h
  rw [F61_eq]
  try simp only [F61_J4_eq, F61_J7_eq, F61_J9_eq, F61_J10_eq, F61_J3_eq, F61_J9_1_eq, F61_J10_1_eq]
  try simp only [decide_eq_true_eq, bne_iff_ne, beq_iff_eq, ne_eq, Bool.not_eq_true', Bool.not_eq_true, Bool.not_eq_false, w64e, wu32, wu8, gt_iff_lt, ge_iff_le, List.length_cons, List.length_nil, Nat.zero_add, Int.le_refl, true_and, and_true, rdl, rdmap, rdb, esub, n64, n32, List.map_cons, List.map_nil, List.length_map, shrP, beqd, Bool.and_eq_true, Bool.and_true, Bool.or_eq_true, Bool.not_and, decide_eq_false_iff_not, tm2, List.replicate_zero, List.drop_zero, Int.toNat_natCast, not_lt', decide_true, decide_false, Option.bind_some, shr30, shr27, shr31, shr32, shr33, shr8, shr16, quoi, quou, quo32, w64u, biti, Int.emod_add_emod, Int.add_emod_emod, List.length_append, if_true, if_false, Bool.false_eq_true, Bool.true_eq_false, not_true_eq_false, not_false_eq_true, reduceCtorEq, Int.add_mul_emod_self_right, Int.natCast_pos, Int.zero_sub, false_and, and_false] at h ⊢
  repeat' first
    | (cases h; done)
    | (cases h; rfl)
    | (cases h; simp only [*]; done)
    | (with_reducible exact b61_L2 h)
    | (split at h <;> rename_i hc <;> (try simp only [hc, decide_eq_true_eq, bne_iff_ne, beq_iff_eq, ne_eq, Bool.not_eq_true', Bool.not_eq_true, Bool.not_eq_false, w64e, wu32, wu8, gt_iff_lt, ge_iff_le, List.length_cons, List.length_nil, Nat.zero_add, Int.le_refl, true_and, and_true, rdl, rdmap, rdb, esub, n64, n32, List.map_cons, List.map_nil, List.length_map, shrP, beqd, Bool.and_eq_true, Bool.and_true, Bool.or_eq_true, Bool.not_and, decide_eq_false_iff_not, tm2, List.replicate_zero, List.drop_zero, Int.toNat_natCast, not_lt', decide_true, decide_false, Option.bind_some, shr30, shr27, shr31, shr32, shr33, shr8, shr16, quoi, quou, quo32, w64u, biti, Int.emod_add_emod, Int.add_emod_emod, List.length_append, if_true, if_false, Bool.false_eq_true, Bool.true_eq_false, not_true_eq_false, not_false_eq_true, reduceCtorEq, Int.add_mul_emod_self_right, Int.natCast_pos, Int.zero_sub, false_and, and_false] at h ⊢))
    | (rw [if_pos (by omega)])
    | (rw [if_neg (by omega)])
    | (exfalso; omega)
    | fail

theorem b43_loops : ∀ n : Nat, (∀ k, k ≤ n → ∀ (x7 s t : Int) (c : Bool) (b : List Int) {r : Bool × List Int × Int × Int}, P.random_source_below.l0 k x7 s t c b = some r → F43_L3 x7 s t c b false = some (((r.1, r.2.1), ()), (r.2.2, ())))
  | 0 => fun k hk x7 s t c b r h => by
    obtain rfl : k = 0 := by omega
    unfold P.random_source_below.l0 at h; cases h
  | n + 1 => by
    have ih0 := b43_loops n
    intro k hk x7 s t c b r h
    cases k with
    | zero => unfold P.random_source_below.l0 at h; cases h
    | succ k =>
    unfold P.random_source_below.l0 at h
    rw [F43_L3_eq]
    try simp only [decide_eq_true_eq, bne_iff_ne, beq_iff_eq, ne_eq, Bool.not_eq_true', Bool.not_eq_true, Bool.not_eq_false, w64e, wu32, wu8, gt_iff_lt, ge_iff_le, List.length_cons, List.length_nil, Nat.zero_add, Int.le_refl, true_and, and_true, rdl, rdmap, rdb, esub, n64, n32, List.map_cons, List.map_nil, List.length_map, shrP, beqd, Bool.and_eq_true, Bool.and_true, Bool.or_eq_true, Bool.not_and, decide_eq_false_iff_not, tm2, List.replicate_zero, List.drop_zero, Int.toNat_natCast, not_lt', decide_true, decide_false, Option.bind_some, shr30, shr27, shr31, shr32, shr33, shr8, shr16, quoi, quou, quo32, w64u, biti, Int.emod_add_emod, Int.add_emod_emod, List.length_append, if_true, if_false, Bool.false_eq_true, Bool.true_eq_false, not_true_eq_false, not_false_eq_true, reduceCtorEq, Int.add_mul_emod_self_right, Int.natCast_pos, Int.zero_sub, false_and, and_false] at h ⊢
    repeat' first
      | (cases h; done)
      | (cases h; rfl)
      | (cases h; simp only [*]; done)
      | exact (ih0 _ (by omega) _ _ _ _ _) h
      | (obtain ⟨t, ht, h⟩ := Option.bind_eq_some_iff.1 h; (first | replace ht := b61 ht | replace ht := b44 ht); simp only [ht, Option.bind_some])
      | (replace h := b61 h; simp only [h, Option.bind_some]; done)
      | (replace h := b44 h; simp only [h, Option.bind_some]; done)
      | (split at h <;> rename_i hc <;> (try simp only [hc, decide_eq_true_eq, bne_iff_ne, beq_iff_eq, ne_eq, Bool.not_eq_true', Bool.not_eq_true, Bool.not_eq_false, w64e, wu32, wu8, gt_iff_lt, ge_iff_le, List.length_cons, List.length_nil, Nat.zero_add, Int.le_refl, true_and, and_true, rdl, rdmap, rdb, esub, n64, n32, List.map_cons, List.map_nil, List.length_map, shrP, beqd, Bool.and_eq_true, Bool.and_true, Bool.or_eq_true, Bool.not_and, decide_eq_false_iff_not, tm2, List.replicate_zero, List.drop_zero, Int.toNat_natCast, not_lt', decide_true, decide_false, Option.bind_some, shr30, shr27, shr31, shr32, shr33, shr8, shr16, quoi, quou, quo32, w64u, biti, Int.emod_add_emod, Int.add_emod_emod, List.length_append, if_true, if_false, Bool.false_eq_true, Bool.true_eq_false, not_true_eq_false, not_false_eq_true, reduceCtorEq, Int.add_mul_emod_self_right, Int.natCast_pos, Int.zero_sub, false_and, and_false] at h ⊢))
      | (rw [if_pos (by omega)])
      | (rw [if_neg (by omega)])
      | (exfalso; omega)
      | fail

theorem b43_L3 {k : Nat} {x7 s t : Int} {c : Bool} {b : List Int} {r : Bool × List Int × Int × Int} (h : P.random_source_below.l0 k x7 s t c b = some r) : F43_L3 x7 s t c b false = some (((r.1, r.2.1), ()), (r.2.2, ())) := (b43_loops k) k (Nat.le_refl _) _ _ _ _ _ h

theorem b43 {k : Nat} {s t : Int} {c : Bool} {b : List Int} {r : Bool × List Int × Int × Int} (h : P.random_source_below.f k s t c b = some r) : F43 (s, t) (c, b) = some (((r.1, r.2.1), ()), (r.2.2, ())) := by
  unfold P.random_source_below.f at h
  rw [F43_eq]
  try simp only [decide_eq_true_eq, bne_iff_ne, beq_iff_eq, ne_eq, Bool.not_eq_true', Bool.not_eq_true, Bool.not_eq_false, w64e, wu32, wu8, gt_iff_lt, ge_iff_le, List.length_cons, List.length_nil, Nat.zero_add, Int.le_refl, true_and, and_true, rdl, rdmap, rdb, esub, n64, n32, List.map_cons, List.map_nil, List.length_map, shrP, beqd, Bool.and_eq_true, Bool.and_true, Bool.or_eq_true, Bool.not_and, decide_eq_false_iff_not, tm2, List.replicate_zero, List.drop_zero, Int.toNat_natCast, not_lt', decide_true, decide_false, Option.bind_some, shr30, shr27, shr31, shr32, shr33, shr8, shr16, quoi, quou, quo32, w64u, biti, Int.emod_add_emod, Int.add_emod_emod, List.length_append, if_true, if_false, Bool.false_eq_true, Bool.true_eq_false, not_true_eq_false, not_false_eq_true, reduceCtorEq, Int.add_mul_emod_self_right, Int.natCast_pos, Int.zero_sub, false_and, and_false] at h ⊢
  repeat' first
    | (cases h; done)
    | (cases h; rfl)
    | (cases h; simp only [*]; done)
    | (with_reducible exact b43_L3 h)
    | (obtain ⟨t, ht, h⟩ := Option.bind_eq_some_iff.1 h; (first | replace ht := b47 ht | replace ht := b45 ht | replace ht := b60 ht); simp only [ht, Option.bind_some])
    | (replace h := b47 h; simp only [h, Option.bind_some]; done)
    | (replace h := b45 h; simp only [h, Option.bind_some]; done)
    | (replace h := b60 h; simp only [h, Option.bind_some]; done)
    | (split at h <;> rename_i hc <;> (try simp only [hc, decide_eq_true_eq, bne_iff_ne, beq_iff_eq, ne_eq, Bool.not_eq_true', Bool.not_eq_true, Bool.not_eq_false, w64e, wu32, wu8, gt_iff_lt, ge_iff_le, List.length_cons, List.length_nil, Nat.zero_add, Int.le_refl, true_and, and_true, rdl, rdmap, rdb, esub, n64, n32, List.map_cons, List.map_nil, List.length_map, shrP, beqd, Bool.and_eq_true, Bool.and_true, Bool.or_eq_true, Bool.not_and, decide_eq_false_iff_not, tm2, List.replicate_zero, List.drop_zero, Int.toNat_natCast, not_lt', decide_true, decide_false, Option.bind_some, shr30, shr27, shr31, shr32, shr33, shr8, shr16, quoi, quou, quo32, w64u, biti, Int.emod_add_emod, Int.add_emod_emod, List.length_append, if_true, if_false, Bool.false_eq_true, Bool.true_eq_false, not_true_eq_false, not_false_eq_true, reduceCtorEq, Int.add_mul_emod_self_right, Int.natCast_pos, Int.zero_sub, false_and, and_false] at h ⊢))
    | (rw [if_pos (by omega)])
    | (rw [if_neg (by omega)])
    | (exfalso; omega)
    | fail

theorem b16 {k : Nat} {a b : Int} {c : Bool} {l : List Int} {r : Bool × List Int × Int × Int × Int × Int} (h : P.random_Below.f k a b c l = some r) : F16 (a, b) (c, l) = some (((r.1, r.2.1), ((r.2.2.1, r.2.2.2.1), (r.2.2.2.2, ()))), ()) := by
  unfold P.random_Below.f at h
  rw [F16_eq]
  try simp only [F16_J8_eq, F16_J8_1_eq]
  try simp only [decide_eq_true_eq, bne_iff_ne, beq_iff_eq, ne_eq, Bool.not_eq_true', Bool.not_eq_true, Bool.not_eq_false, w64e, wu32, wu8, gt_iff_lt, ge_iff_le, List.length_cons, List.length_nil, Nat.zero_add, Int.le_refl, true_and, and_true, rdl, rdmap, rdb, esub, n64, n32, List.map_cons, List.map_nil, List.length_map, shrP, beqd, Bool.and_eq_true, Bool.and_true, Bool.or_eq_true, Bool.not_and, decide_eq_false_iff_not, tm2, List.replicate_zero, List.drop_zero, Int.toNat_natCast, not_lt', decide_true, decide_false, Option.bind_some, shr30, shr27, shr31, shr32, shr33, shr8, shr16, quoi, quou, quo32, w64u, biti, Int.emod_add_emod, Int.add_emod_emod, List.length_append, if_true, if_false, Bool.false_eq_true, Bool.true_eq_false, not_true_eq_false, not_false_eq_true, reduceCtorEq, Int.add_mul_emod_self_right, Int.natCast_pos, Int.zero_sub, false_and, and_false] at h ⊢
  rcases Classical.em (b % 2 = 0) with ho | ho
  · simp only [ho, if_true, P.random_open_no.f, Option.bind_some] at h
    rw [b39_no ho]
    cases h
    simp
  simp only [ho, if_false, P.random_open_ok.f, Option.bind_some] at h
  rw [b39_ok ho]
  simp only [decide_eq_true_eq, bne_iff_ne, beq_iff_eq, ne_eq, Bool.not_eq_true', Bool.not_eq_true, Bool.not_eq_false, w64e, wu32, wu8, gt_iff_lt, ge_iff_le, List.length_cons, List.length_nil, Nat.zero_add, Int.le_refl, true_and, and_true, rdl, rdmap, rdb, esub, n64, n32, List.map_cons, List.map_nil, List.length_map, shrP, beqd, Bool.and_eq_true, Bool.and_true, Bool.or_eq_true, Bool.not_and, decide_eq_false_iff_not, tm2, List.replicate_zero, List.drop_zero, Int.toNat_natCast, not_lt', decide_true, decide_false, Option.bind_some, shr30, shr27, shr31, shr32, shr33, shr8, shr16, quoi, quou, quo32, w64u, biti, Int.emod_add_emod, Int.add_emod_emod, List.length_append, if_true, if_false, Bool.false_eq_true, Bool.true_eq_false, not_true_eq_false, not_false_eq_true, reduceCtorEq, Int.add_mul_emod_self_right, Int.natCast_pos, Int.zero_sub, false_and, and_false] at h ⊢
  repeat' first
    | (cases h; done)
    | (cases h; rfl)
    | (cases h; simp only [*]; done)
    | (obtain ⟨t, ht, h⟩ := Option.bind_eq_some_iff.1 h; (first | replace ht := b36 ht | replace ht := b37 ht | replace ht := b43 ht); simp only [ht, Option.bind_some])
    | (replace h := b36 h; simp only [h, Option.bind_some]; done)
    | (replace h := b37 h; simp only [h, Option.bind_some]; done)
    | (replace h := b43 h; simp only [h, Option.bind_some]; done)
    | (split at h <;> rename_i hc <;> (try simp only [hc, decide_eq_true_eq, bne_iff_ne, beq_iff_eq, ne_eq, Bool.not_eq_true', Bool.not_eq_true, Bool.not_eq_false, w64e, wu32, wu8, gt_iff_lt, ge_iff_le, List.length_cons, List.length_nil, Nat.zero_add, Int.le_refl, true_and, and_true, rdl, rdmap, rdb, esub, n64, n32, List.map_cons, List.map_nil, List.length_map, shrP, beqd, Bool.and_eq_true, Bool.and_true, Bool.or_eq_true, Bool.not_and, decide_eq_false_iff_not, tm2, List.replicate_zero, List.drop_zero, Int.toNat_natCast, not_lt', decide_true, decide_false, Option.bind_some, shr30, shr27, shr31, shr32, shr33, shr8, shr16, quoi, quou, quo32, w64u, biti, Int.emod_add_emod, Int.add_emod_emod, List.length_append, if_true, if_false, Bool.false_eq_true, Bool.true_eq_false, not_true_eq_false, not_false_eq_true, reduceCtorEq, Int.add_mul_emod_self_right, Int.natCast_pos, Int.zero_sub, false_and, and_false] at h ⊢))
    | (rw [if_pos (by omega)])
    | (rw [if_neg (by omega)])
    | (unfold P.random_Below.j0 at h)
    | (exfalso; omega)
    | fail

theorem b9 {a b : Int} {r : Int × Int × Int × Int × Int} (h : P.random_Next.f a b = some r) : F9 (a, b) = some ((r.1, ((r.2.1, r.2.2.1), (r.2.2.2, ()))), ()) := by
  unfold P.random_Next.f at h
  rw [F9_eq]
  try simp only [F9_J4_eq, F9_J4_1_eq]
  try simp only [decide_eq_true_eq, bne_iff_ne, beq_iff_eq, ne_eq, Bool.not_eq_true', Bool.not_eq_true, Bool.not_eq_false, w64e, wu32, wu8, gt_iff_lt, ge_iff_le, List.length_cons, List.length_nil, Nat.zero_add, Int.le_refl, true_and, and_true, rdl, rdmap, rdb, esub, n64, n32, List.map_cons, List.map_nil, List.length_map, shrP, beqd, Bool.and_eq_true, Bool.and_true, Bool.or_eq_true, Bool.not_and, decide_eq_false_iff_not, tm2, List.replicate_zero, List.drop_zero, Int.toNat_natCast, not_lt', decide_true, decide_false, Option.bind_some, shr30, shr27, shr31, shr32, shr33, shr8, shr16, quoi, quou, quo32, w64u, biti, Int.emod_add_emod, Int.add_emod_emod, List.length_append, if_true, if_false, Bool.false_eq_true, Bool.true_eq_false, not_true_eq_false, not_false_eq_true, reduceCtorEq, Int.add_mul_emod_self_right, Int.natCast_pos, Int.zero_sub, false_and, and_false] at h ⊢
  rcases Classical.em (b % 2 = 0) with ho | ho
  · simp only [ho, if_true, P.random_open_no.f, Option.bind_some] at h
    rw [b39_no ho]
    cases h
    simp
  simp only [ho, if_false, P.random_open_ok.f, Option.bind_some] at h
  rw [b39_ok ho]
  simp only [decide_eq_true_eq, bne_iff_ne, beq_iff_eq, ne_eq, Bool.not_eq_true', Bool.not_eq_true, Bool.not_eq_false, w64e, wu32, wu8, gt_iff_lt, ge_iff_le, List.length_cons, List.length_nil, Nat.zero_add, Int.le_refl, true_and, and_true, rdl, rdmap, rdb, esub, n64, n32, List.map_cons, List.map_nil, List.length_map, shrP, beqd, Bool.and_eq_true, Bool.and_true, Bool.or_eq_true, Bool.not_and, decide_eq_false_iff_not, tm2, List.replicate_zero, List.drop_zero, Int.toNat_natCast, not_lt', decide_true, decide_false, Option.bind_some, shr30, shr27, shr31, shr32, shr33, shr8, shr16, quoi, quou, quo32, w64u, biti, Int.emod_add_emod, Int.add_emod_emod, List.length_append, if_true, if_false, Bool.false_eq_true, Bool.true_eq_false, not_true_eq_false, not_false_eq_true, reduceCtorEq, Int.add_mul_emod_self_right, Int.natCast_pos, Int.zero_sub, false_and, and_false] at h ⊢
  repeat' first
    | (cases h; done)
    | (cases h; rfl)
    | (cases h; simp only [*]; done)
    | (obtain ⟨t, ht, h⟩ := Option.bind_eq_some_iff.1 h; (first | replace ht := b40 ht); simp only [ht, Option.bind_some])
    | (replace h := b40 h; simp only [h, Option.bind_some]; done)
    | (split at h <;> rename_i hc <;> (try simp only [hc, decide_eq_true_eq, bne_iff_ne, beq_iff_eq, ne_eq, Bool.not_eq_true', Bool.not_eq_true, Bool.not_eq_false, w64e, wu32, wu8, gt_iff_lt, ge_iff_le, List.length_cons, List.length_nil, Nat.zero_add, Int.le_refl, true_and, and_true, rdl, rdmap, rdb, esub, n64, n32, List.map_cons, List.map_nil, List.length_map, shrP, beqd, Bool.and_eq_true, Bool.and_true, Bool.or_eq_true, Bool.not_and, decide_eq_false_iff_not, tm2, List.replicate_zero, List.drop_zero, Int.toNat_natCast, not_lt', decide_true, decide_false, Option.bind_some, shr30, shr27, shr31, shr32, shr33, shr8, shr16, quoi, quou, quo32, w64u, biti, Int.emod_add_emod, Int.add_emod_emod, List.length_append, if_true, if_false, Bool.false_eq_true, Bool.true_eq_false, not_true_eq_false, not_false_eq_true, reduceCtorEq, Int.add_mul_emod_self_right, Int.natCast_pos, Int.zero_sub, false_and, and_false] at h ⊢))
    | (rw [if_pos (by omega)])
    | (rw [if_neg (by omega)])
    | (exfalso; omega)
    | fail

theorem b17 {k : Nat} {a b : Int} {c d : Bool} {l m : List Int} {r : Bool × List Int × Int × Int × Int × Int} (h : P.random_Between.f k a b c l d m = some r) : F17 (a, b) (c, l) (d, m) = some (((r.1, r.2.1), ((r.2.2.1, r.2.2.2.1), (r.2.2.2.2, ()))), ()) := by
  unfold P.random_Between.f at h
  rw [F17_eq]
  try simp only [F17_J8_eq, F17_J8_1_eq, F17_J11_eq, F17_J11_1_eq, F17_J14_eq, F17_J14_1_eq, F17_J16_eq, F17_J16_1_eq]
  try simp only [decide_eq_true_eq, bne_iff_ne, beq_iff_eq, ne_eq, Bool.not_eq_true', Bool.not_eq_true, Bool.not_eq_false, w64e, wu32, wu8, gt_iff_lt, ge_iff_le, List.length_cons, List.length_nil, Nat.zero_add, Int.le_refl, true_and, and_true, rdl, rdmap, rdb, esub, n64, n32, List.map_cons, List.map_nil, List.length_map, shrP, beqd, Bool.and_eq_true, Bool.and_true, Bool.or_eq_true, Bool.not_and, decide_eq_false_iff_not, tm2, List.replicate_zero, List.drop_zero, Int.toNat_natCast, not_lt', decide_true, decide_false, Option.bind_some, shr30, shr27, shr31, shr32, shr33, shr8, shr16, quoi, quou, quo32, w64u, biti, Int.emod_add_emod, Int.add_emod_emod, List.length_append, if_true, if_false, Bool.false_eq_true, Bool.true_eq_false, not_true_eq_false, not_false_eq_true, reduceCtorEq, Int.add_mul_emod_self_right, Int.natCast_pos, Int.zero_sub, false_and, and_false] at h ⊢
  rcases Classical.em (b % 2 = 0) with ho | ho
  · simp only [ho, if_true, P.random_open_no.f, Option.bind_some] at h
    rw [b39_no ho]
    cases h
    simp
  simp only [ho, if_false, P.random_open_ok.f, Option.bind_some] at h
  rw [b39_ok ho]
  simp only [decide_eq_true_eq, bne_iff_ne, beq_iff_eq, ne_eq, Bool.not_eq_true', Bool.not_eq_true, Bool.not_eq_false, w64e, wu32, wu8, gt_iff_lt, ge_iff_le, List.length_cons, List.length_nil, Nat.zero_add, Int.le_refl, true_and, and_true, rdl, rdmap, rdb, esub, n64, n32, List.map_cons, List.map_nil, List.length_map, shrP, beqd, Bool.and_eq_true, Bool.and_true, Bool.or_eq_true, Bool.not_and, decide_eq_false_iff_not, tm2, List.replicate_zero, List.drop_zero, Int.toNat_natCast, not_lt', decide_true, decide_false, Option.bind_some, shr30, shr27, shr31, shr32, shr33, shr8, shr16, quoi, quou, quo32, w64u, biti, Int.emod_add_emod, Int.add_emod_emod, List.length_append, if_true, if_false, Bool.false_eq_true, Bool.true_eq_false, not_true_eq_false, not_false_eq_true, reduceCtorEq, Int.add_mul_emod_self_right, Int.natCast_pos, Int.zero_sub, false_and, and_false] at h ⊢
  repeat' first
    | (cases h; done)
    | (cases h; rfl)
    | (cases h; simp only [*]; done)
    | (obtain ⟨t, ht, h⟩ := Option.bind_eq_some_iff.1 h; (first | replace ht := b36 ht | replace ht := b37 ht | replace ht := b43 ht | replace ht := b44 ht | replace ht := b45 ht | replace ht := b46 ht | replace ht := b47 ht); simp only [ht, Option.bind_some])
    | (replace h := b36 h; simp only [h, Option.bind_some]; done)
    | (replace h := b37 h; simp only [h, Option.bind_some]; done)
    | (replace h := b43 h; simp only [h, Option.bind_some]; done)
    | (replace h := b44 h; simp only [h, Option.bind_some]; done)
    | (replace h := b45 h; simp only [h, Option.bind_some]; done)
    | (replace h := b46 h; simp only [h, Option.bind_some]; done)
    | (replace h := b47 h; simp only [h, Option.bind_some]; done)
    | (split at h <;> rename_i hc <;> (try simp only [hc, decide_eq_true_eq, bne_iff_ne, beq_iff_eq, ne_eq, Bool.not_eq_true', Bool.not_eq_true, Bool.not_eq_false, w64e, wu32, wu8, gt_iff_lt, ge_iff_le, List.length_cons, List.length_nil, Nat.zero_add, Int.le_refl, true_and, and_true, rdl, rdmap, rdb, esub, n64, n32, List.map_cons, List.map_nil, List.length_map, shrP, beqd, Bool.and_eq_true, Bool.and_true, Bool.or_eq_true, Bool.not_and, decide_eq_false_iff_not, tm2, List.replicate_zero, List.drop_zero, Int.toNat_natCast, not_lt', decide_true, decide_false, Option.bind_some, shr30, shr27, shr31, shr32, shr33, shr8, shr16, quoi, quou, quo32, w64u, biti, Int.emod_add_emod, Int.add_emod_emod, List.length_append, if_true, if_false, Bool.false_eq_true, Bool.true_eq_false, not_true_eq_false, not_false_eq_true, reduceCtorEq, Int.add_mul_emod_self_right, Int.natCast_pos, Int.zero_sub, false_and, and_false] at h ⊢))
    | (rw [if_pos (by omega)])
    | (rw [if_neg (by omega)])
    | (unfold P.random_Between.j0 at h)
    | (exfalso; omega)
    | fail

theorem b41 {k : Nat} {a : Int} {r : Int × Bool × List Int × Bool × List Int × ByteArray × Int} (h : P.brindlewoodlaw4_whole.f k a = some r) : F41 a = some ((((2 : Int), ((r.2.1, r.2.2.1), ((false, ([] : List Int)), ([], (0 : Int))))), ()), ()) := by
  unfold P.brindlewoodlaw4_whole.f at h
  obtain ⟨t, ht, h⟩ := Option.bind_eq_some_iff.1 h
  cases h
  rw [F41_eq, b47 ht]
  rfl

theorem b11 {k : Nat} {r : Bool} (h : P.brindlewoodlaw4_draws.f k = some r) : F11  = some ((r, ()), ()) := by
  unfold P.brindlewoodlaw4_draws.f at h
  rw [F11_eq]
  try simp only [decide_eq_true_eq, bne_iff_ne, beq_iff_eq, ne_eq, Bool.not_eq_true', Bool.not_eq_true, Bool.not_eq_false, w64e, wu32, wu8, gt_iff_lt, ge_iff_le, List.length_cons, List.length_nil, Nat.zero_add, Int.le_refl, true_and, and_true, rdl, rdmap, rdb, esub, n64, n32, List.map_cons, List.map_nil, List.length_map, shrP, beqd, Bool.and_eq_true, Bool.and_true, Bool.or_eq_true, Bool.not_and, decide_eq_false_iff_not, tm2, List.replicate_zero, List.drop_zero, Int.toNat_natCast, not_lt', decide_true, decide_false, Option.bind_some, shr30, shr27, shr31, shr32, shr33, shr8, shr16, quoi, quou, quo32, w64u, biti, Int.emod_add_emod, Int.add_emod_emod, List.length_append, if_true, if_false, Bool.false_eq_true, Bool.true_eq_false, not_true_eq_false, not_false_eq_true, reduceCtorEq, Int.add_mul_emod_self_right, Int.natCast_pos, Int.zero_sub, false_and, and_false] at h ⊢
  obtain ⟨t0, ht0, h⟩ := Option.bind_eq_some_iff.1 h
  simp only [ht0, Option.bind_some] at h
  simp only [b41 ht0, Option.bind_some]
  repeat' first
    | (cases h; done)
    | (cases h; rfl)
    | (cases h; simp only [*]; done)
    | (obtain ⟨t, ht, h⟩ := Option.bind_eq_some_iff.1 h; (first | replace ht := b41 ht | replace ht := b8 ht | replace ht := b9 ht | replace ht := b16 ht | replace ht := b14 ht | replace ht := b15 ht | replace ht := b18 ht); simp only [ht, Option.bind_some])
    | (replace h := b41 h; simp only [h, Option.bind_some]; done)
    | (replace h := b8 h; simp only [h, Option.bind_some]; done)
    | (replace h := b9 h; simp only [h, Option.bind_some]; done)
    | (replace h := b16 h; simp only [h, Option.bind_some]; done)
    | (replace h := b14 h; simp only [h, Option.bind_some]; done)
    | (replace h := b15 h; simp only [h, Option.bind_some]; done)
    | (replace h := b18 h; simp only [h, Option.bind_some]; done)
    | (split at h <;> rename_i hc <;> (try simp only [hc, decide_eq_true_eq, bne_iff_ne, beq_iff_eq, ne_eq, Bool.not_eq_true', Bool.not_eq_true, Bool.not_eq_false, w64e, wu32, wu8, gt_iff_lt, ge_iff_le, List.length_cons, List.length_nil, Nat.zero_add, Int.le_refl, true_and, and_true, rdl, rdmap, rdb, esub, n64, n32, List.map_cons, List.map_nil, List.length_map, shrP, beqd, Bool.and_eq_true, Bool.and_true, Bool.or_eq_true, Bool.not_and, decide_eq_false_iff_not, tm2, List.replicate_zero, List.drop_zero, Int.toNat_natCast, not_lt', decide_true, decide_false, Option.bind_some, shr30, shr27, shr31, shr32, shr33, shr8, shr16, quoi, quou, quo32, w64u, biti, Int.emod_add_emod, Int.add_emod_emod, List.length_append, if_true, if_false, Bool.false_eq_true, Bool.true_eq_false, not_true_eq_false, not_false_eq_true, reduceCtorEq, Int.add_mul_emod_self_right, Int.natCast_pos, Int.zero_sub, false_and, and_false] at h ⊢))
    | (rw [if_pos (by omega)])
    | (rw [if_neg (by omega)])
    | (exfalso; omega)
    | fail

theorem b19_loops : ∀ n : Nat, (∀ k, k ≤ n → ∀ (x6 x7 s t : Int) (c : Bool) (b : List Int) {r : Bool × List Int × Bool × Int × Int}, P.brindlewoodref4_Random_Below.l0 k x6 x7 s t c b = some r → F19_L3 x6 x7 s t c b false = some (((r.1, r.2.1), (r.2.2.1, ())), (r.2.2.2, ()))) ∧ (∀ k, k ≤ n → ∀ (x6 x7 : Int) (x8 : List Bool) (x9 s t : Int) (c : Bool) (b : List Int) {r : Bool × List Int × Bool × Int × Int}, P.brindlewoodref4_Random_Below.l1 k x6 x7 x8 x9 s t c b = some r → F19_L7 x6 x7 x9 s t c b false x8 = some (((r.1, r.2.1), (r.2.2.1, ())), (r.2.2.2, ()))) ∧ (∀ k, k ≤ n → ∀ (x6 x7 : Int) (x8 : List Bool) (x9 x10 x11 s t : Int) (c : Bool) (b : List Int) {r : Bool × List Int × Bool × Int × Int}, P.brindlewoodref4_Random_Below.l2 k x6 x7 x8 x9 x10 x11 s t c b = some r → F19_L14 x6 x7 x9 x10 x11 s t c b false x8 = some (((r.1, r.2.1), (r.2.2.1, ())), (r.2.2.2, ())))
  | 0 => ⟨(fun k hk x6 x7 s t c b r h => by
    obtain rfl : k = 0 := by omega
    unfold P.brindlewoodref4_Random_Below.l0 at h; cases h), (fun k hk x6 x7 x8 x9 s t c b r h => by
    obtain rfl : k = 0 := by omega
    unfold P.brindlewoodref4_Random_Below.l1 at h; cases h), (fun k hk x6 x7 x8 x9 x10 x11 s t c b r h => by
    obtain rfl : k = 0 := by omega
    unfold P.brindlewoodref4_Random_Below.l2 at h; cases h)⟩
  | n + 1 => by
    obtain ⟨ih0, ih1, ih2⟩ := b19_loops n
    refine ⟨?_, ?_, ?_⟩
    · intro k hk x6 x7 s t c b r h
      cases k with
      | zero => unfold P.brindlewoodref4_Random_Below.l0 at h; cases h
      | succ k =>
      unfold P.brindlewoodref4_Random_Below.l0 at h
      rw [F19_L3_eq]
      try simp only [F19_J5_eq, F19_J21_eq, F19_J9_eq, F19_J18_eq, F19_J13_eq, F19_J4_eq, F19_J16_eq, F19_J8_eq]
      try simp only [decide_eq_true_eq, bne_iff_ne, beq_iff_eq, ne_eq, Bool.not_eq_true', Bool.not_eq_true, Bool.not_eq_false, w64e, wu32, wu8, gt_iff_lt, ge_iff_le, List.length_cons, List.length_nil, Nat.zero_add, Int.le_refl, true_and, and_true, rdl, rdmap, rdb, esub, n64, n32, List.map_cons, List.map_nil, List.length_map, shrP, beqd, Bool.and_eq_true, Bool.and_true, Bool.or_eq_true, Bool.not_and, decide_eq_false_iff_not, tm2, List.replicate_zero, List.drop_zero, Int.toNat_natCast, not_lt', decide_true, decide_false, Option.bind_some, shr30, shr27, shr31, shr32, shr33, shr8, shr16, quoi, quou, quo32, w64u, biti, Int.emod_add_emod, Int.add_emod_emod, List.length_append, if_true, if_false, Bool.false_eq_true, Bool.true_eq_false, not_true_eq_false, not_false_eq_true, reduceCtorEq, Int.add_mul_emod_self_right, Int.natCast_pos, Int.zero_sub, false_and, and_false] at h ⊢
      repeat' first
        | (cases h; done)
        | (cases h; rfl)
        | (cases h; simp only [*]; done)
        | exact (ih0 _ (by omega) _ _ _ _ _ _) h
        | exact (ih1 _ (by omega) _ _ _ _ _ _ _ _) h
        | exact (ih2 _ (by omega) _ _ _ _ _ _ _ _ _ _) h
        | (obtain ⟨t, ht, h⟩ := Option.bind_eq_some_iff.1 h; (first | replace ht := b15 ht | replace ht := b49 ht | replace ht := b22 ht); simp only [ht, Option.bind_some])
        | (replace h := b15 h; simp only [h, Option.bind_some]; done)
        | (replace h := b49 h; simp only [h, Option.bind_some]; done)
        | (replace h := b22 h; simp only [h, Option.bind_some]; done)
        | (split at h <;> rename_i hc <;> (try simp only [hc, decide_eq_true_eq, bne_iff_ne, beq_iff_eq, ne_eq, Bool.not_eq_true', Bool.not_eq_true, Bool.not_eq_false, w64e, wu32, wu8, gt_iff_lt, ge_iff_le, List.length_cons, List.length_nil, Nat.zero_add, Int.le_refl, true_and, and_true, rdl, rdmap, rdb, esub, n64, n32, List.map_cons, List.map_nil, List.length_map, shrP, beqd, Bool.and_eq_true, Bool.and_true, Bool.or_eq_true, Bool.not_and, decide_eq_false_iff_not, tm2, List.replicate_zero, List.drop_zero, Int.toNat_natCast, not_lt', decide_true, decide_false, Option.bind_some, shr30, shr27, shr31, shr32, shr33, shr8, shr16, quoi, quou, quo32, w64u, biti, Int.emod_add_emod, Int.add_emod_emod, List.length_append, if_true, if_false, Bool.false_eq_true, Bool.true_eq_false, not_true_eq_false, not_false_eq_true, reduceCtorEq, Int.add_mul_emod_self_right, Int.natCast_pos, Int.zero_sub, false_and, and_false] at h ⊢))
        | (rw [if_pos (by omega)])
        | (rw [if_neg (by omega)])
        | (unfold P.brindlewoodref4_Random_Below.j2 at h)
        | (exfalso; omega)
        | fail
    · intro k hk x6 x7 x8 x9 s t c b r h
      cases k with
      | zero => unfold P.brindlewoodref4_Random_Below.l1 at h; cases h
      | succ k =>
      unfold P.brindlewoodref4_Random_Below.l1 at h
      rw [F19_L7_eq]
      try simp only [F19_J5_eq, F19_J21_eq, F19_J9_eq, F19_J18_eq, F19_J13_eq, F19_J4_eq, F19_J16_eq, F19_J8_eq]
      try simp only [decide_eq_true_eq, bne_iff_ne, beq_iff_eq, ne_eq, Bool.not_eq_true', Bool.not_eq_true, Bool.not_eq_false, w64e, wu32, wu8, gt_iff_lt, ge_iff_le, List.length_cons, List.length_nil, Nat.zero_add, Int.le_refl, true_and, and_true, rdl, rdmap, rdb, esub, n64, n32, List.map_cons, List.map_nil, List.length_map, shrP, beqd, Bool.and_eq_true, Bool.and_true, Bool.or_eq_true, Bool.not_and, decide_eq_false_iff_not, tm2, List.replicate_zero, List.drop_zero, Int.toNat_natCast, not_lt', decide_true, decide_false, Option.bind_some, shr30, shr27, shr31, shr32, shr33, shr8, shr16, quoi, quou, quo32, w64u, biti, Int.emod_add_emod, Int.add_emod_emod, List.length_append, if_true, if_false, Bool.false_eq_true, Bool.true_eq_false, not_true_eq_false, not_false_eq_true, reduceCtorEq, Int.add_mul_emod_self_right, Int.natCast_pos, Int.zero_sub, false_and, and_false] at h ⊢
      repeat' first
        | (cases h; done)
        | (cases h; rfl)
        | (cases h; simp only [*]; done)
        | exact (ih0 _ (by omega) _ _ _ _ _ _) h
        | exact (ih1 _ (by omega) _ _ _ _ _ _ _ _) h
        | exact (ih2 _ (by omega) _ _ _ _ _ _ _ _ _ _) h
        | (obtain ⟨t, ht, h⟩ := Option.bind_eq_some_iff.1 h; (first | replace ht := b15 ht | replace ht := b49 ht | replace ht := b22 ht); simp only [ht, Option.bind_some])
        | (replace h := b15 h; simp only [h, Option.bind_some]; done)
        | (replace h := b49 h; simp only [h, Option.bind_some]; done)
        | (replace h := b22 h; simp only [h, Option.bind_some]; done)
        | (split at h <;> rename_i hc <;> (try simp only [hc, decide_eq_true_eq, bne_iff_ne, beq_iff_eq, ne_eq, Bool.not_eq_true', Bool.not_eq_true, Bool.not_eq_false, w64e, wu32, wu8, gt_iff_lt, ge_iff_le, List.length_cons, List.length_nil, Nat.zero_add, Int.le_refl, true_and, and_true, rdl, rdmap, rdb, esub, n64, n32, List.map_cons, List.map_nil, List.length_map, shrP, beqd, Bool.and_eq_true, Bool.and_true, Bool.or_eq_true, Bool.not_and, decide_eq_false_iff_not, tm2, List.replicate_zero, List.drop_zero, Int.toNat_natCast, not_lt', decide_true, decide_false, Option.bind_some, shr30, shr27, shr31, shr32, shr33, shr8, shr16, quoi, quou, quo32, w64u, biti, Int.emod_add_emod, Int.add_emod_emod, List.length_append, if_true, if_false, Bool.false_eq_true, Bool.true_eq_false, not_true_eq_false, not_false_eq_true, reduceCtorEq, Int.add_mul_emod_self_right, Int.natCast_pos, Int.zero_sub, false_and, and_false] at h ⊢))
        | (rw [if_pos (by omega)])
        | (rw [if_neg (by omega)])
        | (unfold P.brindlewoodref4_Random_Below.j2 at h)
        | (exfalso; omega)
        | fail
    · intro k hk x6 x7 x8 x9 x10 x11 s t c b r h
      cases k with
      | zero => unfold P.brindlewoodref4_Random_Below.l2 at h; cases h
      | succ k =>
      unfold P.brindlewoodref4_Random_Below.l2 at h
      rw [F19_L14_eq]
      try simp only [F19_J5_eq, F19_J21_eq, F19_J9_eq, F19_J18_eq, F19_J13_eq, F19_J4_eq, F19_J16_eq, F19_J8_eq]
      try simp only [decide_eq_true_eq, bne_iff_ne, beq_iff_eq, ne_eq, Bool.not_eq_true', Bool.not_eq_true, Bool.not_eq_false, w64e, wu32, wu8, gt_iff_lt, ge_iff_le, List.length_cons, List.length_nil, Nat.zero_add, Int.le_refl, true_and, and_true, rdl, rdmap, rdb, esub, n64, n32, List.map_cons, List.map_nil, List.length_map, shrP, beqd, Bool.and_eq_true, Bool.and_true, Bool.or_eq_true, Bool.not_and, decide_eq_false_iff_not, tm2, List.replicate_zero, List.drop_zero, Int.toNat_natCast, not_lt', decide_true, decide_false, Option.bind_some, shr30, shr27, shr31, shr32, shr33, shr8, shr16, quoi, quou, quo32, w64u, biti, Int.emod_add_emod, Int.add_emod_emod, List.length_append, if_true, if_false, Bool.false_eq_true, Bool.true_eq_false, not_true_eq_false, not_false_eq_true, reduceCtorEq, Int.add_mul_emod_self_right, Int.natCast_pos, Int.zero_sub, false_and, and_false] at h ⊢
      repeat' first
        | (cases h; done)
        | (cases h; rfl)
        | (cases h; simp only [*]; done)
        | exact (ih0 _ (by omega) _ _ _ _ _ _) h
        | exact (ih1 _ (by omega) _ _ _ _ _ _ _ _) h
        | exact (ih2 _ (by omega) _ _ _ _ _ _ _ _ _ _) h
        | (obtain ⟨t, ht, h⟩ := Option.bind_eq_some_iff.1 h; (first | replace ht := b15 ht | replace ht := b49 ht | replace ht := b22 ht); simp only [ht, Option.bind_some])
        | (replace h := b15 h; simp only [h, Option.bind_some]; done)
        | (replace h := b49 h; simp only [h, Option.bind_some]; done)
        | (replace h := b22 h; simp only [h, Option.bind_some]; done)
        | (split at h <;> rename_i hc <;> (try simp only [hc, decide_eq_true_eq, bne_iff_ne, beq_iff_eq, ne_eq, Bool.not_eq_true', Bool.not_eq_true, Bool.not_eq_false, w64e, wu32, wu8, gt_iff_lt, ge_iff_le, List.length_cons, List.length_nil, Nat.zero_add, Int.le_refl, true_and, and_true, rdl, rdmap, rdb, esub, n64, n32, List.map_cons, List.map_nil, List.length_map, shrP, beqd, Bool.and_eq_true, Bool.and_true, Bool.or_eq_true, Bool.not_and, decide_eq_false_iff_not, tm2, List.replicate_zero, List.drop_zero, Int.toNat_natCast, not_lt', decide_true, decide_false, Option.bind_some, shr30, shr27, shr31, shr32, shr33, shr8, shr16, quoi, quou, quo32, w64u, biti, Int.emod_add_emod, Int.add_emod_emod, List.length_append, if_true, if_false, Bool.false_eq_true, Bool.true_eq_false, not_true_eq_false, not_false_eq_true, reduceCtorEq, Int.add_mul_emod_self_right, Int.natCast_pos, Int.zero_sub, false_and, and_false] at h ⊢))
        | (rw [if_pos (by omega)])
        | (rw [if_neg (by omega)])
        | (unfold P.brindlewoodref4_Random_Below.j2 at h)
        | (exfalso; omega)
        | fail

theorem b19_L3 {k : Nat} {x6 x7 s t : Int} {c : Bool} {b : List Int} {r : Bool × List Int × Bool × Int × Int} (h : P.brindlewoodref4_Random_Below.l0 k x6 x7 s t c b = some r) : F19_L3 x6 x7 s t c b false = some (((r.1, r.2.1), (r.2.2.1, ())), (r.2.2.2, ())) := (b19_loops k).1 k (Nat.le_refl _) _ _ _ _ _ _ h

theorem b19_L7 {k : Nat} {x6 x7 : Int} {x8 : List Bool} {x9 s t : Int} {c : Bool} {b : List Int} {r : Bool × List Int × Bool × Int × Int} (h : P.brindlewoodref4_Random_Below.l1 k x6 x7 x8 x9 s t c b = some r) : F19_L7 x6 x7 x9 s t c b false x8 = some (((r.1, r.2.1), (r.2.2.1, ())), (r.2.2.2, ())) := (b19_loops k).2.1 k (Nat.le_refl _) _ _ _ _ _ _ _ _ h

theorem b19_L14 {k : Nat} {x6 x7 : Int} {x8 : List Bool} {x9 x10 x11 s t : Int} {c : Bool} {b : List Int} {r : Bool × List Int × Bool × Int × Int} (h : P.brindlewoodref4_Random_Below.l2 k x6 x7 x8 x9 x10 x11 s t c b = some r) : F19_L14 x6 x7 x9 x10 x11 s t c b false x8 = some (((r.1, r.2.1), (r.2.2.1, ())), (r.2.2.2, ())) := (b19_loops k).2.2 k (Nat.le_refl _) _ _ _ _ _ _ _ _ _ _ h

theorem b19 {k : Nat} {s t : Int} {c : Bool} {b : List Int} {r : Bool × List Int × Bool × Int × Int} (h : P.brindlewoodref4_Random_Below.f k s t c b = some r) : F19 (s, t) (c, b) = some (((r.1, r.2.1), (r.2.2.1, ())), (r.2.2.2, ())) := by
  unfold P.brindlewoodref4_Random_Below.f at h
  rw [F19_eq]
  try simp only [F19_J5_eq, F19_J21_eq, F19_J9_eq, F19_J18_eq, F19_J13_eq, F19_J4_eq, F19_J16_eq, F19_J8_eq]
  try simp only [decide_eq_true_eq, bne_iff_ne, beq_iff_eq, ne_eq, Bool.not_eq_true', Bool.not_eq_true, Bool.not_eq_false, w64e, wu32, wu8, gt_iff_lt, ge_iff_le, List.length_cons, List.length_nil, Nat.zero_add, Int.le_refl, true_and, and_true, rdl, rdmap, rdb, esub, n64, n32, List.map_cons, List.map_nil, List.length_map, shrP, beqd, Bool.and_eq_true, Bool.and_true, Bool.or_eq_true, Bool.not_and, decide_eq_false_iff_not, tm2, List.replicate_zero, List.drop_zero, Int.toNat_natCast, not_lt', decide_true, decide_false, Option.bind_some, shr30, shr27, shr31, shr32, shr33, shr8, shr16, quoi, quou, quo32, w64u, biti, Int.emod_add_emod, Int.add_emod_emod, List.length_append, if_true, if_false, Bool.false_eq_true, Bool.true_eq_false, not_true_eq_false, not_false_eq_true, reduceCtorEq, Int.add_mul_emod_self_right, Int.natCast_pos, Int.zero_sub, false_and, and_false] at h ⊢
  repeat' first
    | (cases h; done)
    | (cases h; rfl)
    | (cases h; simp only [*]; done)
    | (with_reducible exact b19_L3 h)
    | (obtain ⟨t, ht, h⟩ := Option.bind_eq_some_iff.1 h; (first | replace ht := b25 ht | replace ht := b23 ht | replace ht := b48 ht); simp only [ht, Option.bind_some])
    | (replace h := b25 h; simp only [h, Option.bind_some]; done)
    | (replace h := b23 h; simp only [h, Option.bind_some]; done)
    | (replace h := b48 h; simp only [h, Option.bind_some]; done)
    | (split at h <;> rename_i hc <;> (try simp only [hc, decide_eq_true_eq, bne_iff_ne, beq_iff_eq, ne_eq, Bool.not_eq_true', Bool.not_eq_true, Bool.not_eq_false, w64e, wu32, wu8, gt_iff_lt, ge_iff_le, List.length_cons, List.length_nil, Nat.zero_add, Int.le_refl, true_and, and_true, rdl, rdmap, rdb, esub, n64, n32, List.map_cons, List.map_nil, List.length_map, shrP, beqd, Bool.and_eq_true, Bool.and_true, Bool.or_eq_true, Bool.not_and, decide_eq_false_iff_not, tm2, List.replicate_zero, List.drop_zero, Int.toNat_natCast, not_lt', decide_true, decide_false, Option.bind_some, shr30, shr27, shr31, shr32, shr33, shr8, shr16, quoi, quou, quo32, w64u, biti, Int.emod_add_emod, Int.add_emod_emod, List.length_append, if_true, if_false, Bool.false_eq_true, Bool.true_eq_false, not_true_eq_false, not_false_eq_true, reduceCtorEq, Int.add_mul_emod_self_right, Int.natCast_pos, Int.zero_sub, false_and, and_false] at h ⊢))
    | (rw [if_pos (by omega)])
    | (rw [if_neg (by omega)])
    | (unfold P.brindlewoodref4_Random_Below.j2 at h)
    | (exfalso; omega)
    | fail

theorem b4_J33 {k : Nat} {s t : Int} {c : Bool} {l : List Int} {e : Bool} {n : List Int} {x6 x7 x8 x9 x10 x11 : Int} {g : Bool} {p : List Int} {r : Bool} (h : P.brindlewoodlaw4_RandomIntegers.j4 k s t c l e n x6 x7 x8 x9 x10 x11 g p = some r) : F4_J33 s t c l e n x6 x7 x8 x9 x10 x11 g p = some ((r, ()), ()) := by
  cases k with
  | zero => unfold P.brindlewoodlaw4_RandomIntegers.j4 at h; cases h
  | succ k =>
  unfold P.brindlewoodlaw4_RandomIntegers.j4 at h
  rw [F4_J33_eq]
  try simp only [F4_J35_eq]
  try simp only [decide_eq_true_eq, bne_iff_ne, beq_iff_eq, ne_eq, Bool.not_eq_true', Bool.not_eq_true, Bool.not_eq_false, w64e, wu32, wu8, gt_iff_lt, ge_iff_le, List.length_cons, List.length_nil, Nat.zero_add, Int.le_refl, true_and, and_true, rdl, rdmap, rdb, esub, n64, n32, List.map_cons, List.map_nil, List.length_map, shrP, beqd, Bool.and_eq_true, Bool.and_true, Bool.or_eq_true, Bool.not_and, decide_eq_false_iff_not, tm2, List.replicate_zero, List.drop_zero, Int.toNat_natCast, not_lt', decide_true, decide_false, Option.bind_some, shr30, shr27, shr31, shr32, shr33, shr8, shr16, quoi, quou, quo32, w64u, biti, Int.emod_add_emod, Int.add_emod_emod, List.length_append, if_true, if_false, Bool.false_eq_true, Bool.true_eq_false, not_true_eq_false, not_false_eq_true, reduceCtorEq, Int.add_mul_emod_self_right, Int.natCast_pos, Int.zero_sub, false_and, and_false] at h ⊢
  repeat' first
    | (cases h; done)
    | (cases h; rfl)
    | (cases h; simp only [*]; done)
    | (obtain ⟨t, ht, h⟩ := Option.bind_eq_some_iff.1 h; (first | replace ht := b12 ht | replace ht := b13 ht | replace ht := b18 ht | replace ht := b19 ht | replace ht := b20 ht | replace ht := b21 ht | replace ht := b22 ht | replace ht := b23 ht | replace ht := b24 ht | replace ht := b25 ht | replace ht := b26 ht); simp only [ht, Option.bind_some])
    | (replace h := b12 h; simp only [h, Option.bind_some]; done)
    | (replace h := b13 h; simp only [h, Option.bind_some]; done)
    | (replace h := b18 h; simp only [h, Option.bind_some]; done)
    | (replace h := b19 h; simp only [h, Option.bind_some]; done)
    | (replace h := b20 h; simp only [h, Option.bind_some]; done)
    | (replace h := b21 h; simp only [h, Option.bind_some]; done)
    | (replace h := b22 h; simp only [h, Option.bind_some]; done)
    | (replace h := b23 h; simp only [h, Option.bind_some]; done)
    | (replace h := b24 h; simp only [h, Option.bind_some]; done)
    | (replace h := b25 h; simp only [h, Option.bind_some]; done)
    | (replace h := b26 h; simp only [h, Option.bind_some]; done)
    | (split at h <;> rename_i hc <;> (try simp only [hc, decide_eq_true_eq, bne_iff_ne, beq_iff_eq, ne_eq, Bool.not_eq_true', Bool.not_eq_true, Bool.not_eq_false, w64e, wu32, wu8, gt_iff_lt, ge_iff_le, List.length_cons, List.length_nil, Nat.zero_add, Int.le_refl, true_and, and_true, rdl, rdmap, rdb, esub, n64, n32, List.map_cons, List.map_nil, List.length_map, shrP, beqd, Bool.and_eq_true, Bool.and_true, Bool.or_eq_true, Bool.not_and, decide_eq_false_iff_not, tm2, List.replicate_zero, List.drop_zero, Int.toNat_natCast, not_lt', decide_true, decide_false, Option.bind_some, shr30, shr27, shr31, shr32, shr33, shr8, shr16, quoi, quou, quo32, w64u, biti, Int.emod_add_emod, Int.add_emod_emod, List.length_append, if_true, if_false, Bool.false_eq_true, Bool.true_eq_false, not_true_eq_false, not_false_eq_true, reduceCtorEq, Int.add_mul_emod_self_right, Int.natCast_pos, Int.zero_sub, false_and, and_false] at h ⊢))
    | (rw [if_pos (by omega)])
    | (rw [if_neg (by omega)])
    | (exfalso; omega)
    | fail

theorem b4_J33_1 {k : Nat} {s t : Int} {c : Bool} {l : List Int} {e : Bool} {n : List Int} {x6 x7 x8 x9 x10 x11 : Int} {r : Bool} (h : P.brindlewoodlaw4_RandomIntegers.j4 k s t c l e n x6 x7 x8 x9 x10 x11 false [] = some r) : F4_J33_1 s t c l e n x6 x7 x8 x9 x10 x11 false = some ((r, ()), ()) := by
  cases k with
  | zero => unfold P.brindlewoodlaw4_RandomIntegers.j4 at h; cases h
  | succ k =>
  unfold P.brindlewoodlaw4_RandomIntegers.j4 at h
  rw [F4_J33_1_eq]
  try simp only [F4_J35_1_eq]
  try simp only [decide_eq_true_eq, bne_iff_ne, beq_iff_eq, ne_eq, Bool.not_eq_true', Bool.not_eq_true, Bool.not_eq_false, w64e, wu32, wu8, gt_iff_lt, ge_iff_le, List.length_cons, List.length_nil, Nat.zero_add, Int.le_refl, true_and, and_true, rdl, rdmap, rdb, esub, n64, n32, List.map_cons, List.map_nil, List.length_map, shrP, beqd, Bool.and_eq_true, Bool.and_true, Bool.or_eq_true, Bool.not_and, decide_eq_false_iff_not, tm2, List.replicate_zero, List.drop_zero, Int.toNat_natCast, not_lt', decide_true, decide_false, Option.bind_some, shr30, shr27, shr31, shr32, shr33, shr8, shr16, quoi, quou, quo32, w64u, biti, Int.emod_add_emod, Int.add_emod_emod, List.length_append, if_true, if_false, Bool.false_eq_true, Bool.true_eq_false, not_true_eq_false, not_false_eq_true, reduceCtorEq, Int.add_mul_emod_self_right, Int.natCast_pos, Int.zero_sub, false_and, and_false] at h ⊢
  repeat' first
    | (cases h; done)
    | (cases h; rfl)
    | (cases h; simp only [*]; done)
    | (obtain ⟨t, ht, h⟩ := Option.bind_eq_some_iff.1 h; (first | replace ht := b12 ht | replace ht := b13 ht | replace ht := b18 ht | replace ht := b19 ht | replace ht := b20 ht | replace ht := b21 ht | replace ht := b22 ht | replace ht := b23 ht | replace ht := b24 ht | replace ht := b25 ht | replace ht := b26 ht); simp only [ht, Option.bind_some])
    | (replace h := b12 h; simp only [h, Option.bind_some]; done)
    | (replace h := b13 h; simp only [h, Option.bind_some]; done)
    | (replace h := b18 h; simp only [h, Option.bind_some]; done)
    | (replace h := b19 h; simp only [h, Option.bind_some]; done)
    | (replace h := b20 h; simp only [h, Option.bind_some]; done)
    | (replace h := b21 h; simp only [h, Option.bind_some]; done)
    | (replace h := b22 h; simp only [h, Option.bind_some]; done)
    | (replace h := b23 h; simp only [h, Option.bind_some]; done)
    | (replace h := b24 h; simp only [h, Option.bind_some]; done)
    | (replace h := b25 h; simp only [h, Option.bind_some]; done)
    | (replace h := b26 h; simp only [h, Option.bind_some]; done)
    | (split at h <;> rename_i hc <;> (try simp only [hc, decide_eq_true_eq, bne_iff_ne, beq_iff_eq, ne_eq, Bool.not_eq_true', Bool.not_eq_true, Bool.not_eq_false, w64e, wu32, wu8, gt_iff_lt, ge_iff_le, List.length_cons, List.length_nil, Nat.zero_add, Int.le_refl, true_and, and_true, rdl, rdmap, rdb, esub, n64, n32, List.map_cons, List.map_nil, List.length_map, shrP, beqd, Bool.and_eq_true, Bool.and_true, Bool.or_eq_true, Bool.not_and, decide_eq_false_iff_not, tm2, List.replicate_zero, List.drop_zero, Int.toNat_natCast, not_lt', decide_true, decide_false, Option.bind_some, shr30, shr27, shr31, shr32, shr33, shr8, shr16, quoi, quou, quo32, w64u, biti, Int.emod_add_emod, Int.add_emod_emod, List.length_append, if_true, if_false, Bool.false_eq_true, Bool.true_eq_false, not_true_eq_false, not_false_eq_true, reduceCtorEq, Int.add_mul_emod_self_right, Int.natCast_pos, Int.zero_sub, false_and, and_false] at h ⊢))
    | (rw [if_pos (by omega)])
    | (rw [if_neg (by omega)])
    | (exfalso; omega)
    | fail

theorem b4_J28 {k : Nat} {s t : Int} {c : Bool} {l : List Int} {d : Bool} {m : List Int} {e : Bool} {n : List Int} {x8 x9 x10 x11 x12 x13 : Int} {r : Bool} (h : P.brindlewoodlaw4_RandomIntegers.j3 k s t c l d m e n x8 x9 x10 x11 x12 x13 = some r) : F4_J28 s t c l d m e n x8 x9 x10 x11 x12 x13 = some ((r, ()), ()) := by
  cases k with
  | zero => unfold P.brindlewoodlaw4_RandomIntegers.j3 at h; cases h
  | succ k =>
  unfold P.brindlewoodlaw4_RandomIntegers.j3 at h
  rw [F4_J28_eq]
  try simp only [decide_eq_true_eq, bne_iff_ne, beq_iff_eq, ne_eq, Bool.not_eq_true', Bool.not_eq_true, Bool.not_eq_false, w64e, wu32, wu8, gt_iff_lt, ge_iff_le, List.length_cons, List.length_nil, Nat.zero_add, Int.le_refl, true_and, and_true, rdl, rdmap, rdb, esub, n64, n32, List.map_cons, List.map_nil, List.length_map, shrP, beqd, Bool.and_eq_true, Bool.and_true, Bool.or_eq_true, Bool.not_and, decide_eq_false_iff_not, tm2, List.replicate_zero, List.drop_zero, Int.toNat_natCast, not_lt', decide_true, decide_false, Option.bind_some, shr30, shr27, shr31, shr32, shr33, shr8, shr16, quoi, quou, quo32, w64u, biti, Int.emod_add_emod, Int.add_emod_emod, List.length_append, if_true, if_false, Bool.false_eq_true, Bool.true_eq_false, not_true_eq_false, not_false_eq_true, reduceCtorEq, Int.add_mul_emod_self_right, Int.natCast_pos, Int.zero_sub, false_and, and_false] at h ⊢
  repeat' first
    | (cases h; done)
    | (cases h; rfl)
    | (cases h; simp only [*]; done)
    | (with_reducible exact b4_J33 h)
    | (with_reducible exact b4_J33_1 h)
    | (obtain ⟨t, ht, h⟩ := Option.bind_eq_some_iff.1 h; (first | replace ht := b12 ht | replace ht := b13 ht | replace ht := b18 ht | replace ht := b19 ht | replace ht := b20 ht | replace ht := b21 ht | replace ht := b22 ht | replace ht := b23 ht | replace ht := b24 ht | replace ht := b25 ht | replace ht := b26 ht); simp only [ht, Option.bind_some])
    | (replace h := b12 h; simp only [h, Option.bind_some]; done)
    | (replace h := b13 h; simp only [h, Option.bind_some]; done)
    | (replace h := b18 h; simp only [h, Option.bind_some]; done)
    | (replace h := b19 h; simp only [h, Option.bind_some]; done)
    | (replace h := b20 h; simp only [h, Option.bind_some]; done)
    | (replace h := b21 h; simp only [h, Option.bind_some]; done)
    | (replace h := b22 h; simp only [h, Option.bind_some]; done)
    | (replace h := b23 h; simp only [h, Option.bind_some]; done)
    | (replace h := b24 h; simp only [h, Option.bind_some]; done)
    | (replace h := b25 h; simp only [h, Option.bind_some]; done)
    | (replace h := b26 h; simp only [h, Option.bind_some]; done)
    | (split at h <;> rename_i hc <;> (try simp only [hc, decide_eq_true_eq, bne_iff_ne, beq_iff_eq, ne_eq, Bool.not_eq_true', Bool.not_eq_true, Bool.not_eq_false, w64e, wu32, wu8, gt_iff_lt, ge_iff_le, List.length_cons, List.length_nil, Nat.zero_add, Int.le_refl, true_and, and_true, rdl, rdmap, rdb, esub, n64, n32, List.map_cons, List.map_nil, List.length_map, shrP, beqd, Bool.and_eq_true, Bool.and_true, Bool.or_eq_true, Bool.not_and, decide_eq_false_iff_not, tm2, List.replicate_zero, List.drop_zero, Int.toNat_natCast, not_lt', decide_true, decide_false, Option.bind_some, shr30, shr27, shr31, shr32, shr33, shr8, shr16, quoi, quou, quo32, w64u, biti, Int.emod_add_emod, Int.add_emod_emod, List.length_append, if_true, if_false, Bool.false_eq_true, Bool.true_eq_false, not_true_eq_false, not_false_eq_true, reduceCtorEq, Int.add_mul_emod_self_right, Int.natCast_pos, Int.zero_sub, false_and, and_false] at h ⊢))
    | (rw [if_pos (by omega)])
    | (rw [if_neg (by omega)])
    | (exfalso; omega)
    | fail

theorem b4_J21 {k : Nat} {s t : Int} {c : Bool} {l : List Int} {d : Bool} {m : List Int} {e : Bool} {n : List Int} {x8 x9 x10 x11 x12 x13 : Int} {r : Bool} (h : P.brindlewoodlaw4_RandomIntegers.j2 k s t c l d m e n x8 x9 x10 x11 x12 x13 = some r) : F4_J21 s t c l d m e n x8 x9 x10 x11 x12 x13 = some ((r, ()), ()) := by
  cases k with
  | zero => unfold P.brindlewoodlaw4_RandomIntegers.j2 at h; cases h
  | succ k =>
  unfold P.brindlewoodlaw4_RandomIntegers.j2 at h
  rw [F4_J21_eq]
  try simp only [decide_eq_true_eq, bne_iff_ne, beq_iff_eq, ne_eq, Bool.not_eq_true', Bool.not_eq_true, Bool.not_eq_false, w64e, wu32, wu8, gt_iff_lt, ge_iff_le, List.length_cons, List.length_nil, Nat.zero_add, Int.le_refl, true_and, and_true, rdl, rdmap, rdb, esub, n64, n32, List.map_cons, List.map_nil, List.length_map, shrP, beqd, Bool.and_eq_true, Bool.and_true, Bool.or_eq_true, Bool.not_and, decide_eq_false_iff_not, tm2, List.replicate_zero, List.drop_zero, Int.toNat_natCast, not_lt', decide_true, decide_false, Option.bind_some, shr30, shr27, shr31, shr32, shr33, shr8, shr16, quoi, quou, quo32, w64u, biti, Int.emod_add_emod, Int.add_emod_emod, List.length_append, if_true, if_false, Bool.false_eq_true, Bool.true_eq_false, not_true_eq_false, not_false_eq_true, reduceCtorEq, Int.add_mul_emod_self_right, Int.natCast_pos, Int.zero_sub, false_and, and_false] at h ⊢
  repeat' first
    | (cases h; done)
    | (cases h; rfl)
    | (cases h; simp only [*]; done)
    | (with_reducible exact b4_J28 h)
    | (obtain ⟨t, ht, h⟩ := Option.bind_eq_some_iff.1 h; (first | replace ht := b12 ht | replace ht := b13 ht | replace ht := b18 ht | replace ht := b19 ht | replace ht := b20 ht | replace ht := b21 ht | replace ht := b22 ht | replace ht := b23 ht | replace ht := b24 ht | replace ht := b25 ht | replace ht := b26 ht); simp only [ht, Option.bind_some])
    | (replace h := b12 h; simp only [h, Option.bind_some]; done)
    | (replace h := b13 h; simp only [h, Option.bind_some]; done)
    | (replace h := b18 h; simp only [h, Option.bind_some]; done)
    | (replace h := b19 h; simp only [h, Option.bind_some]; done)
    | (replace h := b20 h; simp only [h, Option.bind_some]; done)
    | (replace h := b21 h; simp only [h, Option.bind_some]; done)
    | (replace h := b22 h; simp only [h, Option.bind_some]; done)
    | (replace h := b23 h; simp only [h, Option.bind_some]; done)
    | (replace h := b24 h; simp only [h, Option.bind_some]; done)
    | (replace h := b25 h; simp only [h, Option.bind_some]; done)
    | (replace h := b26 h; simp only [h, Option.bind_some]; done)
    | (split at h <;> rename_i hc <;> (try simp only [hc, decide_eq_true_eq, bne_iff_ne, beq_iff_eq, ne_eq, Bool.not_eq_true', Bool.not_eq_true, Bool.not_eq_false, w64e, wu32, wu8, gt_iff_lt, ge_iff_le, List.length_cons, List.length_nil, Nat.zero_add, Int.le_refl, true_and, and_true, rdl, rdmap, rdb, esub, n64, n32, List.map_cons, List.map_nil, List.length_map, shrP, beqd, Bool.and_eq_true, Bool.and_true, Bool.or_eq_true, Bool.not_and, decide_eq_false_iff_not, tm2, List.replicate_zero, List.drop_zero, Int.toNat_natCast, not_lt', decide_true, decide_false, Option.bind_some, shr30, shr27, shr31, shr32, shr33, shr8, shr16, quoi, quou, quo32, w64u, biti, Int.emod_add_emod, Int.add_emod_emod, List.length_append, if_true, if_false, Bool.false_eq_true, Bool.true_eq_false, not_true_eq_false, not_false_eq_true, reduceCtorEq, Int.add_mul_emod_self_right, Int.natCast_pos, Int.zero_sub, false_and, and_false] at h ⊢))
    | (rw [if_pos (by omega)])
    | (rw [if_neg (by omega)])
    | (exfalso; omega)
    | fail

theorem b4_J14 {k : Nat} {s t : Int} {c : Bool} {l : List Int} {d : Bool} {m : List Int} {e : Bool} {n : List Int} {g : Bool} {o : List Int} {x10 x11 x12 x13 : Int} {q : Bool} {p : List Int} {x16 x17 x18 x19 x20 x21 x22 x23 : Int} {r : Bool} (h : P.brindlewoodlaw4_RandomIntegers.j1 k s t c l d m e n g o x10 x11 x12 x13 q p x16 x17 x18 x19 x20 x21 x22 x23 = some r) : F4_J14 s t c l d m e n g o x10 x11 x12 x13 q p x16 x17 x18 x19 x20 x21 x22 x23 = some ((r, ()), ()) := by
  cases k with
  | zero => unfold P.brindlewoodlaw4_RandomIntegers.j1 at h; cases h
  | succ k =>
  unfold P.brindlewoodlaw4_RandomIntegers.j1 at h
  rw [F4_J14_eq]
  try simp only [decide_eq_true_eq, bne_iff_ne, beq_iff_eq, ne_eq, Bool.not_eq_true', Bool.not_eq_true, Bool.not_eq_false, w64e, wu32, wu8, gt_iff_lt, ge_iff_le, List.length_cons, List.length_nil, Nat.zero_add, Int.le_refl, true_and, and_true, rdl, rdmap, rdb, esub, n64, n32, List.map_cons, List.map_nil, List.length_map, shrP, beqd, Bool.and_eq_true, Bool.and_true, Bool.or_eq_true, Bool.not_and, decide_eq_false_iff_not, tm2, List.replicate_zero, List.drop_zero, Int.toNat_natCast, not_lt', decide_true, decide_false, Option.bind_some, shr30, shr27, shr31, shr32, shr33, shr8, shr16, quoi, quou, quo32, w64u, biti, Int.emod_add_emod, Int.add_emod_emod, List.length_append, if_true, if_false, Bool.false_eq_true, Bool.true_eq_false, not_true_eq_false, not_false_eq_true, reduceCtorEq, Int.add_mul_emod_self_right, Int.natCast_pos, Int.zero_sub, false_and, and_false] at h ⊢
  repeat' first
    | (cases h; done)
    | (cases h; rfl)
    | (cases h; simp only [*]; done)
    | (with_reducible exact b4_J21 h)
    | (obtain ⟨t, ht, h⟩ := Option.bind_eq_some_iff.1 h; (first | replace ht := b12 ht | replace ht := b13 ht | replace ht := b18 ht | replace ht := b19 ht | replace ht := b20 ht | replace ht := b21 ht | replace ht := b22 ht | replace ht := b23 ht | replace ht := b24 ht | replace ht := b25 ht | replace ht := b26 ht); simp only [ht, Option.bind_some])
    | (replace h := b12 h; simp only [h, Option.bind_some]; done)
    | (replace h := b13 h; simp only [h, Option.bind_some]; done)
    | (replace h := b18 h; simp only [h, Option.bind_some]; done)
    | (replace h := b19 h; simp only [h, Option.bind_some]; done)
    | (replace h := b20 h; simp only [h, Option.bind_some]; done)
    | (replace h := b21 h; simp only [h, Option.bind_some]; done)
    | (replace h := b22 h; simp only [h, Option.bind_some]; done)
    | (replace h := b23 h; simp only [h, Option.bind_some]; done)
    | (replace h := b24 h; simp only [h, Option.bind_some]; done)
    | (replace h := b25 h; simp only [h, Option.bind_some]; done)
    | (replace h := b26 h; simp only [h, Option.bind_some]; done)
    | (split at h <;> rename_i hc <;> (try simp only [hc, decide_eq_true_eq, bne_iff_ne, beq_iff_eq, ne_eq, Bool.not_eq_true', Bool.not_eq_true, Bool.not_eq_false, w64e, wu32, wu8, gt_iff_lt, ge_iff_le, List.length_cons, List.length_nil, Nat.zero_add, Int.le_refl, true_and, and_true, rdl, rdmap, rdb, esub, n64, n32, List.map_cons, List.map_nil, List.length_map, shrP, beqd, Bool.and_eq_true, Bool.and_true, Bool.or_eq_true, Bool.not_and, decide_eq_false_iff_not, tm2, List.replicate_zero, List.drop_zero, Int.toNat_natCast, not_lt', decide_true, decide_false, Option.bind_some, shr30, shr27, shr31, shr32, shr33, shr8, shr16, quoi, quou, quo32, w64u, biti, Int.emod_add_emod, Int.add_emod_emod, List.length_append, if_true, if_false, Bool.false_eq_true, Bool.true_eq_false, not_true_eq_false, not_false_eq_true, reduceCtorEq, Int.add_mul_emod_self_right, Int.natCast_pos, Int.zero_sub, false_and, and_false] at h ⊢))
    | (rw [if_pos (by omega)])
    | (rw [if_neg (by omega)])
    | (exfalso; omega)
    | fail

theorem b4_J8 {k : Nat} {s t : Int} {c : Bool} {l : List Int} {d : Bool} {m : List Int} {e : Bool} {n : List Int} {g : Bool} {o : List Int} {x10 x11 x12 x13 : Int} {q : Bool} {p : List Int} {x16 x17 x18 x19 x20 x21 : Int} {r : Bool} (h : P.brindlewoodlaw4_RandomIntegers.j0 k s t c l d m e n g o x10 x11 x12 x13 q p x16 x17 x18 x19 x20 x21 = some r) : F4_J8 s t c l d m e n g o x10 x11 x12 x13 q p x16 x17 x18 x19 x20 x21 = some ((r, ()), ()) := by
  cases k with
  | zero => unfold P.brindlewoodlaw4_RandomIntegers.j0 at h; cases h
  | succ k =>
  unfold P.brindlewoodlaw4_RandomIntegers.j0 at h
  rw [F4_J8_eq]
  try simp only [decide_eq_true_eq, bne_iff_ne, beq_iff_eq, ne_eq, Bool.not_eq_true', Bool.not_eq_true, Bool.not_eq_false, w64e, wu32, wu8, gt_iff_lt, ge_iff_le, List.length_cons, List.length_nil, Nat.zero_add, Int.le_refl, true_and, and_true, rdl, rdmap, rdb, esub, n64, n32, List.map_cons, List.map_nil, List.length_map, shrP, beqd, Bool.and_eq_true, Bool.and_true, Bool.or_eq_true, Bool.not_and, decide_eq_false_iff_not, tm2, List.replicate_zero, List.drop_zero, Int.toNat_natCast, not_lt', decide_true, decide_false, Option.bind_some, shr30, shr27, shr31, shr32, shr33, shr8, shr16, quoi, quou, quo32, w64u, biti, Int.emod_add_emod, Int.add_emod_emod, List.length_append, if_true, if_false, Bool.false_eq_true, Bool.true_eq_false, not_true_eq_false, not_false_eq_true, reduceCtorEq, Int.add_mul_emod_self_right, Int.natCast_pos, Int.zero_sub, false_and, and_false] at h ⊢
  repeat' first
    | (cases h; done)
    | (cases h; rfl)
    | (cases h; simp only [*]; done)
    | (with_reducible exact b4_J14 h)
    | (obtain ⟨t, ht, h⟩ := Option.bind_eq_some_iff.1 h; (first | replace ht := b12 ht | replace ht := b13 ht | replace ht := b18 ht | replace ht := b19 ht | replace ht := b20 ht | replace ht := b21 ht | replace ht := b22 ht | replace ht := b23 ht | replace ht := b24 ht | replace ht := b25 ht | replace ht := b26 ht); simp only [ht, Option.bind_some])
    | (replace h := b12 h; simp only [h, Option.bind_some]; done)
    | (replace h := b13 h; simp only [h, Option.bind_some]; done)
    | (replace h := b18 h; simp only [h, Option.bind_some]; done)
    | (replace h := b19 h; simp only [h, Option.bind_some]; done)
    | (replace h := b20 h; simp only [h, Option.bind_some]; done)
    | (replace h := b21 h; simp only [h, Option.bind_some]; done)
    | (replace h := b22 h; simp only [h, Option.bind_some]; done)
    | (replace h := b23 h; simp only [h, Option.bind_some]; done)
    | (replace h := b24 h; simp only [h, Option.bind_some]; done)
    | (replace h := b25 h; simp only [h, Option.bind_some]; done)
    | (replace h := b26 h; simp only [h, Option.bind_some]; done)
    | (split at h <;> rename_i hc <;> (try simp only [hc, decide_eq_true_eq, bne_iff_ne, beq_iff_eq, ne_eq, Bool.not_eq_true', Bool.not_eq_true, Bool.not_eq_false, w64e, wu32, wu8, gt_iff_lt, ge_iff_le, List.length_cons, List.length_nil, Nat.zero_add, Int.le_refl, true_and, and_true, rdl, rdmap, rdb, esub, n64, n32, List.map_cons, List.map_nil, List.length_map, shrP, beqd, Bool.and_eq_true, Bool.and_true, Bool.or_eq_true, Bool.not_and, decide_eq_false_iff_not, tm2, List.replicate_zero, List.drop_zero, Int.toNat_natCast, not_lt', decide_true, decide_false, Option.bind_some, shr30, shr27, shr31, shr32, shr33, shr8, shr16, quoi, quou, quo32, w64u, biti, Int.emod_add_emod, Int.add_emod_emod, List.length_append, if_true, if_false, Bool.false_eq_true, Bool.true_eq_false, not_true_eq_false, not_false_eq_true, reduceCtorEq, Int.add_mul_emod_self_right, Int.natCast_pos, Int.zero_sub, false_and, and_false] at h ⊢))
    | (rw [if_pos (by omega)])
    | (rw [if_neg (by omega)])
    | (exfalso; omega)
    | fail

theorem b4 {k : Nat} {s t : Int} {c d e : Bool} {l m n : List Int} {r : Bool} (h : P.brindlewoodlaw4_RandomIntegers.f k s t c l d m e n = some r) : F4 (s, t) (c, l) (d, m) (e, n) = some ((r, ()), ()) := by
  unfold P.brindlewoodlaw4_RandomIntegers.f at h
  obtain ⟨x, hx, h⟩ := Option.bind_eq_some_iff.1 h
  obtain ⟨y, hy, h⟩ := Option.bind_eq_some_iff.1 h
  obtain ⟨z, hz, h⟩ := Option.bind_eq_some_iff.1 h
  rw [F4_eq, b16 hx, Option.bind_some, b17 hy, Option.bind_some, b11 hz, Option.bind_some]
  split at h
  case isFalse => cases h
  rename_i hc
  simp only [hc, Bool.not_true, Bool.false_eq_true, if_false]
  rw [F4_J5_eq]
  simp only [beq_iff_eq]
  split at h
  · rename_i h0
    obtain ⟨w, hw, h⟩ := Option.bind_eq_some_iff.1 h
    rw [if_pos h0, b13 hw, Option.bind_some]
    exact b4_J8 h
  · rename_i h0
    rw [if_neg h0]
    exact b4_J8 h
end Go.AM.RT
