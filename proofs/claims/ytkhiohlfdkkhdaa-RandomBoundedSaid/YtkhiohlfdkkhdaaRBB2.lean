/- The functions written with fuel are those of the equations, part 2. Conditions: those of each lemma. -/
import Derived.Test.YtkhiohlfdkkhdaaRBB1
set_option linter.unusedVariables false
set_option linter.unusedSimpArgs false
set_option maxRecDepth 100000
set_option maxHeartbeats 4000000
namespace Go.AM.RU
open Go.RowKit Go.Proofs.YtkhiohlfdkkhdaaW.PrintWords Go.Proofs.Ytkhiohlfdkkhdaa
theorem shrP (k : IntKind) (x y : Int) : shrI k x (Int.toNat y) = shr k x y := by
  unfold shrI shr
  exact Int.fdiv_eq_ediv_of_nonneg _ (Int.le_of_lt (Int.pow_pos (by decide)))
theorem beqd (a b : Int) : (a == b) = decide (a = b) := rfl
theorem tm2 (a : Int) : (Int.tmod a 2 = 0) = (a % 2 = 0) := by
  apply propext
  rw [← Int.dvd_iff_tmod_eq_zero, Int.dvd_iff_emod_eq_zero]
theorem b39_no {a b : Int} (h : b % 2 = 0) : F39 (a, b) = some ((none, ((6, -1), ())), ()) := by
  rw [F39_eq]
  simp only [beq_iff_eq, tm2, h, if_true]
  rw [b37 (r := (6, -1)) rfl]
  rfl
theorem b39_ok {a b : Int} (h : ¬ b % 2 = 0) : F39 (a, b) = some ((some (a, b), ((0, 0), ())), ()) := by
  rw [F39_eq]
  simp only [beq_iff_eq, tm2, h, if_false]
  rw [F39_J3_eq]
def T77 : List UInt8 := (0 :: (1 :: (2 :: (2 :: (3 :: (3 :: (3 :: (3 :: (4 :: (4 :: (4 :: (4 :: (4 :: (4 :: (4 :: (4 :: (5 :: (5 :: (5 :: (5 :: (5 :: (5 :: (5 :: (5 :: (5 :: (5 :: (5 :: (5 :: (5 :: (5 :: (5 :: (5 :: (6 :: (6 :: (6 :: (6 :: (6 :: (6 :: (6 :: (6 :: (6 :: (6 :: (6 :: (6 :: (6 :: (6 :: (6 :: (6 :: (6 :: (6 :: (6 :: (6 :: (6 :: (6 :: (6 :: (6 :: (6 :: (6 :: (6 :: (6 :: (6 :: (6 :: (6 :: (6 :: (7 :: (7 :: (7 :: (7 :: (7 :: (7 :: (7 :: (7 :: (7 :: (7 :: (7 :: (7 :: (7 :: (7 :: (7 :: (7 :: (7 :: (7 :: (7 :: (7 :: (7 :: (7 :: (7 :: (7 :: (7 :: (7 :: (7 :: (7 :: (7 :: (7 :: (7 :: (7 :: (7 :: (7 :: (7 :: (7 :: (7 :: (7 :: (7 :: (7 :: (7 :: (7 :: (7 :: (7 :: (7 :: (7 :: (7 :: (7 :: (7 :: (7 :: (7 :: (7 :: (7 :: (7 :: (7 :: (7 :: (7 :: (7 :: (7 :: (7 :: (7 :: (7 :: (7 :: (7 :: (8 :: (8 :: (8 :: (8 :: (8 :: (8 :: (8 :: (8 :: (8 :: (8 :: (8 :: (8 :: (8 :: (8 :: (8 :: (8 :: (8 :: (8 :: (8 :: (8 :: (8 :: (8 :: (8 :: (8 :: (8 :: (8 :: (8 :: (8 :: (8 :: (8 :: (8 :: (8 :: (8 :: (8 :: (8 :: (8 :: (8 :: (8 :: (8 :: (8 :: (8 :: (8 :: (8 :: (8 :: (8 :: (8 :: (8 :: (8 :: (8 :: (8 :: (8 :: (8 :: (8 :: (8 :: (8 :: (8 :: (8 :: (8 :: (8 :: (8 :: (8 :: (8 :: (8 :: (8 :: (8 :: (8 :: (8 :: (8 :: (8 :: (8 :: (8 :: (8 :: (8 :: (8 :: (8 :: (8 :: (8 :: (8 :: (8 :: (8 :: (8 :: (8 :: (8 :: (8 :: (8 :: (8 :: (8 :: (8 :: (8 :: (8 :: (8 :: (8 :: (8 :: (8 :: (8 :: (8 :: (8 :: (8 :: (8 :: (8 :: (8 :: (8 :: (8 :: (8 :: (8 :: (8 :: (8 :: (8 :: (8 :: (8 :: (8 :: (8 :: (8 :: (8 :: (8 :: (8 :: (8 :: (8 :: (8 :: (8 :: (8 :: (8 :: (8 :: (8 :: (8 :: (8 :: (8 :: (8 :: []))))))))))))))))))))))))))))))))))))))))))))))))))))))))))))))))))))))))))))))))))))))))))))))))))))))))))))))))))))))))))))))))))))))))))))))))))))))))))))))))))))))))))))))))))))))))))))))))))))))))))))))))))))))))))))))))))))))))))))))))))))))))))))))))
theorem b77_J7e (x0 x1 : Int) : F77_J7 x0 x1 = if 0 ≤ IntKind.wrap .u8 x0 then (if IntKind.wrap .u8 x0 < ((T77.length : Nat) : Int) then some (((IntKind.wrap .i64 (x1 + IntKind.wrap .i64 (((UInt8.toNat (T77.getD (Int.toNat (IntKind.wrap .u8 x0)) 0) : Nat) : Int)))), ()), ()) else none) else none := F77_J7_eq x0 x1
theorem b77_T : ∀ i : Fin 256, (T77.getD i.1 0).toNat = Lib.bitLen i.1 := by decide +kernel
theorem b77_J7 (x : Nat) (n : Int) (h : x < 256) (hn : 0 ≤ n) (hn2 : n ≤ 100) : F77_J7 (x : Int) n = some (((n + (Lib.bitLen x : Nat) : Int), ()), ()) := by
  have e : IntKind.wrap .u8 (x : Int) = (x : Int) := by rw [wu8]; omega
  have hT : T77.length = 256 := by decide +kernel
  have hk : (T77.getD x 0).toNat = Lib.bitLen x := b77_T ⟨x, h⟩
  have hb := (T77.getD x 0).toNat_lt
  rw [b77_J7e, e, hT, if_pos (by omega), if_pos (by omega), Int.toNat_natCast, ← hk, w64e, w64e]
  have e2 : wrap64 (((T77.getD x 0).toNat : Nat) : Int) = ((T77.getD x 0).toNat : Int) := by unfold wrap64; omega
  rw [e2]
  have e3 : wrap64 (n + ((T77.getD x 0).toNat : Int)) = n + ((T77.getD x 0).toNat : Int) := by unfold wrap64; omega
  rw [e3]
theorem bl_aux : ∀ (f x : Nat), x < 2 ^ f → Lib.bitLenAux (f + 1) x = Lib.bitLenAux f x
  | 0, x, h => by
    have : x = 0 := by omega
    subst this
    simp [Lib.bitLenAux]
  | f + 1, x, h => by
    show (if x = 0 then 0 else 1 + Lib.bitLenAux (f + 1) (x / 2)) = (if x = 0 then 0 else 1 + Lib.bitLenAux f (x / 2))
    rw [bl_aux f (x / 2) (by rw [Nat.pow_succ] at h; omega)]
theorem bl_le : ∀ (d f x : Nat), x < 2 ^ f → Lib.bitLenAux (f + d) x = Lib.bitLenAux f x
  | 0, f, x, h => rfl
  | d + 1, f, x, h => by
    rw [← Nat.add_assoc, bl_aux (f + d) x (Nat.lt_of_lt_of_le h (Nat.pow_le_pow_right (by decide) (by omega))), bl_le d f x h]
theorem bl_step (f x : Nat) (h : x ≠ 0) : Lib.bitLenAux (f + 1) x = 1 + Lib.bitLenAux f (x / 2) := by rw [Lib.bitLenAux, if_neg h]
theorem bl_256 (x : Nat) (h : 256 ≤ x) (h2 : x < 2 ^ 56) : Lib.bitLen x = 8 + Lib.bitLen (x / 256) := by
  unfold Lib.bitLen
  rw [show (64 : Nat) = 56 + 8 from rfl, bl_le 8 56 (x / 256) (by omega)]
  rw [bl_step _ x (by omega), bl_step _ (x / 2) (by omega), bl_step _ (x / 2 / 2) (by omega), bl_step _ (x / 2 / 2 / 2) (by omega), bl_step _ (x / 2 / 2 / 2 / 2) (by omega), bl_step _ (x / 2 / 2 / 2 / 2 / 2) (by omega), bl_step _ (x / 2 / 2 / 2 / 2 / 2 / 2) (by omega), bl_step _ (x / 2 / 2 / 2 / 2 / 2 / 2 / 2) (by omega)]
  rw [show x / 2 / 2 / 2 / 2 / 2 / 2 / 2 / 2 = x / 256 by omega]
  omega
theorem b77_J4 (x : Nat) (n : Int) (h : x < 65536) (hn : 0 ≤ n) (hn2 : n ≤ 50) : F77_J4 (x : Int) n = some (((n + (Lib.bitLen x : Nat) : Int), ()), ()) := by
  rw [F77_J4_eq]
  simp only [decide_eq_true_eq, shr8, w64e]
  by_cases hx : (x : Int) ≥ 256
  · rw [if_pos hx]
    have e : wrap64 (n + 8) = n + 8 := by unfold wrap64; omega
    have e2 : (x : Int) / 256 = ((x / 256 : Nat) : Int) := by omega
    rw [e, e2, b77_J7 (x / 256) (n + 8) (by omega) (by omega) (by omega), bl_256 x (by omega) (by omega)]
    have e3 : n + 8 + ((Lib.bitLen (x / 256) : Nat) : Int) = n + ((8 + Lib.bitLen (x / 256) : Nat) : Int) := by omega
    rw [e3]
  · rw [if_neg hx, b77_J7 x n (by omega) hn (by omega)]
theorem b77 {a r : Int} (h : P.bits_Len32.f a = some r) : F77 a = some ((r, ()), ()) := by
  unfold P.bits_Len32.f at h
  split at h
  case isFalse => cases h
  rename_i hc
  cases h
  obtain ⟨n, rfl⟩ := Int.eq_ofNat_of_zero_le hc.1
  rw [F77_eq, Int.toNat_natCast]
  simp only [decide_eq_true_eq, shr16]
  by_cases hx : (n : Int) ≥ 65536
  · rw [if_pos hx]
    have e2 : (n : Int) / 65536 = ((n / 65536 : Nat) : Int) := by omega
    rw [e2, b77_J4 (n / 65536) 16 (by omega) (by omega) (by omega), bl_256 n (by omega) (by omega), bl_256 (n / 256) (by omega) (by omega), show n / 256 / 256 = n / 65536 by omega]
    have e3 : (16 : Int) + ((Lib.bitLen (n / 65536) : Nat) : Int) = ((8 + (8 + Lib.bitLen (n / 65536)) : Nat) : Int) := by omega
    rw [e3]
  · rw [if_neg hx, b77_J4 n 0 (by omega) (by omega) (by omega), Int.zero_add]

theorem b68 {a : List Int} {r : Int × Int × Int} (h : P.natural_Bits.f a = some r) : F68 a = some ((r.1, (r.2, ())), ()) := by
  unfold P.natural_Bits.f at h
  rw [F68_eq]
  try simp only [F68_J3_eq, F68_J5_eq]
  try simp only [decide_eq_true_eq, bne_iff_ne, beq_iff_eq, ne_eq, Bool.not_eq_true', Bool.not_eq_true, Bool.not_eq_false, w64e, wu32, wu8, gt_iff_lt, ge_iff_le, List.length_cons, List.length_nil, Nat.zero_add, Int.le_refl, true_and, and_true, rdl, rdmap, rdb, esub, n64, n32, List.map_cons, List.map_nil, List.length_map, shrP, beqd, Bool.and_eq_true, Bool.and_true, Bool.or_eq_true, Bool.not_and, decide_eq_false_iff_not, tm2, List.replicate_zero, List.take_length, shr1, shlP, beq_eq_false_iff_ne, List.drop_zero, Int.toNat_natCast, not_lt', decide_true, decide_false, Option.bind_some, shr30, shr27, shr31, shr32, shr33, shr8, shr16, quoi, quou, quo32, w64u, biti, Int.emod_add_emod, Int.add_emod_emod, List.length_append, if_true, if_false, Bool.false_eq_true, Bool.true_eq_false, not_true_eq_false, not_false_eq_true, reduceCtorEq, Int.add_mul_emod_self_right, Int.natCast_pos, Int.zero_sub, false_and, and_false] at h ⊢
  repeat' first
    | (cases h; done)
    | (cases h; rfl)
    | (cases h; simp only [*]; done)
    | (obtain ⟨t, ht, h⟩ := Option.bind_eq_some_iff.1 h; (first | replace ht := b75 ht | replace ht := b76 ht | replace ht := b77 ht); simp only [ht, Option.bind_some])
    | (replace h := b75 h; simp only [h, Option.bind_some]; done)
    | (replace h := b76 h; simp only [h, Option.bind_some]; done)
    | (replace h := b77 h; simp only [h, Option.bind_some]; done)
    | (split at h <;> rename_i hc <;> (try simp only [hc, decide_eq_true_eq, bne_iff_ne, beq_iff_eq, ne_eq, Bool.not_eq_true', Bool.not_eq_true, Bool.not_eq_false, w64e, wu32, wu8, gt_iff_lt, ge_iff_le, List.length_cons, List.length_nil, Nat.zero_add, Int.le_refl, true_and, and_true, rdl, rdmap, rdb, esub, n64, n32, List.map_cons, List.map_nil, List.length_map, shrP, beqd, Bool.and_eq_true, Bool.and_true, Bool.or_eq_true, Bool.not_and, decide_eq_false_iff_not, tm2, List.replicate_zero, List.take_length, shr1, shlP, beq_eq_false_iff_ne, List.drop_zero, Int.toNat_natCast, not_lt', decide_true, decide_false, Option.bind_some, shr30, shr27, shr31, shr32, shr33, shr8, shr16, quoi, quou, quo32, w64u, biti, Int.emod_add_emod, Int.add_emod_emod, List.length_append, if_true, if_false, Bool.false_eq_true, Bool.true_eq_false, not_true_eq_false, not_false_eq_true, reduceCtorEq, Int.add_mul_emod_self_right, Int.natCast_pos, Int.zero_sub, false_and, and_false] at h ⊢))
    | (rw [if_pos (by omega)])
    | (rw [if_neg (by omega)])
    | (exfalso; omega)
    | fail

theorem b60 {k : Nat} {c : Bool} {a : List Int} {r : Int × Int × Int} (h : P.integer_Bits.f k c a = some r) : F60 (c, a) = some ((r.1, (r.2, ())), ()) := by
  unfold P.integer_Bits.f at h
  rw [F60_eq]
  try simp only [F60_J4_eq]
  try simp only [decide_eq_true_eq, bne_iff_ne, beq_iff_eq, ne_eq, Bool.not_eq_true', Bool.not_eq_true, Bool.not_eq_false, w64e, wu32, wu8, gt_iff_lt, ge_iff_le, List.length_cons, List.length_nil, Nat.zero_add, Int.le_refl, true_and, and_true, rdl, rdmap, rdb, esub, n64, n32, List.map_cons, List.map_nil, List.length_map, shrP, beqd, Bool.and_eq_true, Bool.and_true, Bool.or_eq_true, Bool.not_and, decide_eq_false_iff_not, tm2, List.replicate_zero, List.take_length, shr1, shlP, beq_eq_false_iff_ne, List.drop_zero, Int.toNat_natCast, not_lt', decide_true, decide_false, Option.bind_some, shr30, shr27, shr31, shr32, shr33, shr8, shr16, quoi, quou, quo32, w64u, biti, Int.emod_add_emod, Int.add_emod_emod, List.length_append, if_true, if_false, Bool.false_eq_true, Bool.true_eq_false, not_true_eq_false, not_false_eq_true, reduceCtorEq, Int.add_mul_emod_self_right, Int.natCast_pos, Int.zero_sub, false_and, and_false] at h ⊢
  repeat' first
    | (cases h; done)
    | (cases h; rfl)
    | (cases h; simp only [*]; done)
    | (obtain ⟨t, ht, h⟩ := Option.bind_eq_some_iff.1 h; (first | replace ht := b62_1 ht | replace ht := b68 ht); simp only [ht, Option.bind_some])
    | (replace h := b62_1 h; simp only [h, Option.bind_some]; done)
    | (replace h := b68 h; simp only [h, Option.bind_some]; done)
    | (split at h <;> rename_i hc <;> (try simp only [hc, decide_eq_true_eq, bne_iff_ne, beq_iff_eq, ne_eq, Bool.not_eq_true', Bool.not_eq_true, Bool.not_eq_false, w64e, wu32, wu8, gt_iff_lt, ge_iff_le, List.length_cons, List.length_nil, Nat.zero_add, Int.le_refl, true_and, and_true, rdl, rdmap, rdb, esub, n64, n32, List.map_cons, List.map_nil, List.length_map, shrP, beqd, Bool.and_eq_true, Bool.and_true, Bool.or_eq_true, Bool.not_and, decide_eq_false_iff_not, tm2, List.replicate_zero, List.take_length, shr1, shlP, beq_eq_false_iff_ne, List.drop_zero, Int.toNat_natCast, not_lt', decide_true, decide_false, Option.bind_some, shr30, shr27, shr31, shr32, shr33, shr8, shr16, quoi, quou, quo32, w64u, biti, Int.emod_add_emod, Int.add_emod_emod, List.length_append, if_true, if_false, Bool.false_eq_true, Bool.true_eq_false, not_true_eq_false, not_false_eq_true, reduceCtorEq, Int.add_mul_emod_self_right, Int.natCast_pos, Int.zero_sub, false_and, and_false] at h ⊢))
    | (rw [if_pos (by omega)])
    | (rw [if_neg (by omega)])
    | (exfalso; omega)
    | fail

theorem b47_loops : ∀ n : Nat, (∀ k, k ≤ n → ∀ (x0 : Int) (x4 : List Int) {r : Bool × List Int}, P.integer_Of.l0 k x0 x4 = some r → F47_L5 x0 false x4 = some ((r, ()), ())) ∧ (∀ k, k ≤ n → ∀ (x0 : Int) (x4 : List Int) {r : Bool × List Int}, P.integer_Of.l0 k x0 x4 = some r → F47_L5_1 x0 x4 false = some ((r, ()), ()))
  | 0 => ⟨(fun k hk x0 x4 r h => by
    obtain rfl : k = 0 := by omega
    unfold P.integer_Of.l0 at h; cases h), (fun k hk x0 x4 r h => by
    obtain rfl : k = 0 := by omega
    unfold P.integer_Of.l0 at h; cases h)⟩
  | n + 1 => by
    obtain ⟨ih0, ih1⟩ := b47_loops n
    refine ⟨?_, ?_⟩
    · intro k hk x0 x4 r h
      cases k with
      | zero => unfold P.integer_Of.l0 at h; cases h
      | succ k =>
      unfold P.integer_Of.l0 at h
      rw [F47_L5_eq]
      try simp only [F47_J4_eq, F47_J6_eq, F47_J7_eq, F47_J6_1_eq, F47_J7_1_eq]
      try simp only [decide_eq_true_eq, bne_iff_ne, beq_iff_eq, ne_eq, Bool.not_eq_true', Bool.not_eq_true, Bool.not_eq_false, w64e, wu32, wu8, gt_iff_lt, ge_iff_le, List.length_cons, List.length_nil, Nat.zero_add, Int.le_refl, true_and, and_true, rdl, rdmap, rdb, esub, n64, n32, List.map_cons, List.map_nil, List.length_map, shrP, beqd, Bool.and_eq_true, Bool.and_true, Bool.or_eq_true, Bool.not_and, decide_eq_false_iff_not, tm2, List.replicate_zero, List.take_length, shr1, shlP, beq_eq_false_iff_ne, List.drop_zero, Int.toNat_natCast, not_lt', decide_true, decide_false, Option.bind_some, shr30, shr27, shr31, shr32, shr33, shr8, shr16, quoi, quou, quo32, w64u, biti, Int.emod_add_emod, Int.add_emod_emod, List.length_append, if_true, if_false, Bool.false_eq_true, Bool.true_eq_false, not_true_eq_false, not_false_eq_true, reduceCtorEq, Int.add_mul_emod_self_right, Int.natCast_pos, Int.zero_sub, false_and, and_false] at h ⊢
      repeat' first
        | (cases h; done)
        | (cases h; rfl)
        | (cases h; simp only [*]; done)
        | exact (ih0 _ (by omega) _ _) h
        | exact (ih1 _ (by omega) _ _) h
        | (split at h <;> rename_i hc <;> (try simp only [hc, decide_eq_true_eq, bne_iff_ne, beq_iff_eq, ne_eq, Bool.not_eq_true', Bool.not_eq_true, Bool.not_eq_false, w64e, wu32, wu8, gt_iff_lt, ge_iff_le, List.length_cons, List.length_nil, Nat.zero_add, Int.le_refl, true_and, and_true, rdl, rdmap, rdb, esub, n64, n32, List.map_cons, List.map_nil, List.length_map, shrP, beqd, Bool.and_eq_true, Bool.and_true, Bool.or_eq_true, Bool.not_and, decide_eq_false_iff_not, tm2, List.replicate_zero, List.take_length, shr1, shlP, beq_eq_false_iff_ne, List.drop_zero, Int.toNat_natCast, not_lt', decide_true, decide_false, Option.bind_some, shr30, shr27, shr31, shr32, shr33, shr8, shr16, quoi, quou, quo32, w64u, biti, Int.emod_add_emod, Int.add_emod_emod, List.length_append, if_true, if_false, Bool.false_eq_true, Bool.true_eq_false, not_true_eq_false, not_false_eq_true, reduceCtorEq, Int.add_mul_emod_self_right, Int.natCast_pos, Int.zero_sub, false_and, and_false] at h ⊢))
        | (rw [if_pos (by omega)])
        | (rw [if_neg (by omega)])
        | (unfold P.integer_Of.j0 at h; (try simp only [decide_eq_true_eq, bne_iff_ne, beq_iff_eq, ne_eq, Bool.not_eq_true', Bool.not_eq_true, Bool.not_eq_false, w64e, wu32, wu8, gt_iff_lt, ge_iff_le, List.length_cons, List.length_nil, Nat.zero_add, Int.le_refl, true_and, and_true, rdl, rdmap, rdb, esub, n64, n32, List.map_cons, List.map_nil, List.length_map, shrP, beqd, Bool.and_eq_true, Bool.and_true, Bool.or_eq_true, Bool.not_and, decide_eq_false_iff_not, tm2, List.replicate_zero, List.take_length, shr1, shlP, beq_eq_false_iff_ne, List.drop_zero, Int.toNat_natCast, not_lt', decide_true, decide_false, Option.bind_some, shr30, shr27, shr31, shr32, shr33, shr8, shr16, quoi, quou, quo32, w64u, biti, Int.emod_add_emod, Int.add_emod_emod, List.length_append, if_true, if_false, Bool.false_eq_true, Bool.true_eq_false, not_true_eq_false, not_false_eq_true, reduceCtorEq, Int.add_mul_emod_self_right, Int.natCast_pos, Int.zero_sub, false_and, and_false] at h))
        | (exfalso; omega)
        | fail
    · intro k hk x0 x4 r h
      cases k with
      | zero => unfold P.integer_Of.l0 at h; cases h
      | succ k =>
      unfold P.integer_Of.l0 at h
      rw [F47_L5_1_eq]
      try simp only [F47_J4_eq, F47_J6_eq, F47_J7_eq, F47_J6_1_eq, F47_J7_1_eq]
      try simp only [decide_eq_true_eq, bne_iff_ne, beq_iff_eq, ne_eq, Bool.not_eq_true', Bool.not_eq_true, Bool.not_eq_false, w64e, wu32, wu8, gt_iff_lt, ge_iff_le, List.length_cons, List.length_nil, Nat.zero_add, Int.le_refl, true_and, and_true, rdl, rdmap, rdb, esub, n64, n32, List.map_cons, List.map_nil, List.length_map, shrP, beqd, Bool.and_eq_true, Bool.and_true, Bool.or_eq_true, Bool.not_and, decide_eq_false_iff_not, tm2, List.replicate_zero, List.take_length, shr1, shlP, beq_eq_false_iff_ne, List.drop_zero, Int.toNat_natCast, not_lt', decide_true, decide_false, Option.bind_some, shr30, shr27, shr31, shr32, shr33, shr8, shr16, quoi, quou, quo32, w64u, biti, Int.emod_add_emod, Int.add_emod_emod, List.length_append, if_true, if_false, Bool.false_eq_true, Bool.true_eq_false, not_true_eq_false, not_false_eq_true, reduceCtorEq, Int.add_mul_emod_self_right, Int.natCast_pos, Int.zero_sub, false_and, and_false] at h ⊢
      repeat' first
        | (cases h; done)
        | (cases h; rfl)
        | (cases h; simp only [*]; done)
        | exact (ih0 _ (by omega) _ _) h
        | exact (ih1 _ (by omega) _ _) h
        | (split at h <;> rename_i hc <;> (try simp only [hc, decide_eq_true_eq, bne_iff_ne, beq_iff_eq, ne_eq, Bool.not_eq_true', Bool.not_eq_true, Bool.not_eq_false, w64e, wu32, wu8, gt_iff_lt, ge_iff_le, List.length_cons, List.length_nil, Nat.zero_add, Int.le_refl, true_and, and_true, rdl, rdmap, rdb, esub, n64, n32, List.map_cons, List.map_nil, List.length_map, shrP, beqd, Bool.and_eq_true, Bool.and_true, Bool.or_eq_true, Bool.not_and, decide_eq_false_iff_not, tm2, List.replicate_zero, List.take_length, shr1, shlP, beq_eq_false_iff_ne, List.drop_zero, Int.toNat_natCast, not_lt', decide_true, decide_false, Option.bind_some, shr30, shr27, shr31, shr32, shr33, shr8, shr16, quoi, quou, quo32, w64u, biti, Int.emod_add_emod, Int.add_emod_emod, List.length_append, if_true, if_false, Bool.false_eq_true, Bool.true_eq_false, not_true_eq_false, not_false_eq_true, reduceCtorEq, Int.add_mul_emod_self_right, Int.natCast_pos, Int.zero_sub, false_and, and_false] at h ⊢))
        | (rw [if_pos (by omega)])
        | (rw [if_neg (by omega)])
        | (unfold P.integer_Of.j0 at h; (try simp only [decide_eq_true_eq, bne_iff_ne, beq_iff_eq, ne_eq, Bool.not_eq_true', Bool.not_eq_true, Bool.not_eq_false, w64e, wu32, wu8, gt_iff_lt, ge_iff_le, List.length_cons, List.length_nil, Nat.zero_add, Int.le_refl, true_and, and_true, rdl, rdmap, rdb, esub, n64, n32, List.map_cons, List.map_nil, List.length_map, shrP, beqd, Bool.and_eq_true, Bool.and_true, Bool.or_eq_true, Bool.not_and, decide_eq_false_iff_not, tm2, List.replicate_zero, List.take_length, shr1, shlP, beq_eq_false_iff_ne, List.drop_zero, Int.toNat_natCast, not_lt', decide_true, decide_false, Option.bind_some, shr30, shr27, shr31, shr32, shr33, shr8, shr16, quoi, quou, quo32, w64u, biti, Int.emod_add_emod, Int.add_emod_emod, List.length_append, if_true, if_false, Bool.false_eq_true, Bool.true_eq_false, not_true_eq_false, not_false_eq_true, reduceCtorEq, Int.add_mul_emod_self_right, Int.natCast_pos, Int.zero_sub, false_and, and_false] at h))
        | (exfalso; omega)
        | fail

theorem b47_L5 {k : Nat} {x0 : Int} {x4 : List Int} {r : Bool × List Int} (h : P.integer_Of.l0 k x0 x4 = some r) : F47_L5 x0 false x4 = some ((r, ()), ()) := (b47_loops k).1 k (Nat.le_refl _) _ _ h

theorem b47_L5_1 {k : Nat} {x0 : Int} {x4 : List Int} {r : Bool × List Int} (h : P.integer_Of.l0 k x0 x4 = some r) : F47_L5_1 x0 x4 false = some ((r, ()), ()) := (b47_loops k).2 k (Nat.le_refl _) _ _ h

theorem b47 {k : Nat} {a : Int} {r : Bool × List Int} (h : P.integer_Of.f k a = some r) : F47 a = some ((r, ()), ()) := by
  unfold P.integer_Of.f at h
  rw [F47_eq]
  try simp only [F47_J4_eq, F47_J6_eq, F47_J7_eq, F47_J6_1_eq, F47_J7_1_eq]
  try simp only [decide_eq_true_eq, bne_iff_ne, beq_iff_eq, ne_eq, Bool.not_eq_true', Bool.not_eq_true, Bool.not_eq_false, w64e, wu32, wu8, gt_iff_lt, ge_iff_le, List.length_cons, List.length_nil, Nat.zero_add, Int.le_refl, true_and, and_true, rdl, rdmap, rdb, esub, n64, n32, List.map_cons, List.map_nil, List.length_map, shrP, beqd, Bool.and_eq_true, Bool.and_true, Bool.or_eq_true, Bool.not_and, decide_eq_false_iff_not, tm2, List.replicate_zero, List.take_length, shr1, shlP, beq_eq_false_iff_ne, List.drop_zero, Int.toNat_natCast, not_lt', decide_true, decide_false, Option.bind_some, shr30, shr27, shr31, shr32, shr33, shr8, shr16, quoi, quou, quo32, w64u, biti, Int.emod_add_emod, Int.add_emod_emod, List.length_append, if_true, if_false, Bool.false_eq_true, Bool.true_eq_false, not_true_eq_false, not_false_eq_true, reduceCtorEq, Int.add_mul_emod_self_right, Int.natCast_pos, Int.zero_sub, false_and, and_false] at h ⊢
  repeat' first
    | (cases h; done)
    | (cases h; rfl)
    | (cases h; simp only [*]; done)
    | (with_reducible exact b47_L5 h)
    | (split at h <;> rename_i hc <;> (try simp only [hc, decide_eq_true_eq, bne_iff_ne, beq_iff_eq, ne_eq, Bool.not_eq_true', Bool.not_eq_true, Bool.not_eq_false, w64e, wu32, wu8, gt_iff_lt, ge_iff_le, List.length_cons, List.length_nil, Nat.zero_add, Int.le_refl, true_and, and_true, rdl, rdmap, rdb, esub, n64, n32, List.map_cons, List.map_nil, List.length_map, shrP, beqd, Bool.and_eq_true, Bool.and_true, Bool.or_eq_true, Bool.not_and, decide_eq_false_iff_not, tm2, List.replicate_zero, List.take_length, shr1, shlP, beq_eq_false_iff_ne, List.drop_zero, Int.toNat_natCast, not_lt', decide_true, decide_false, Option.bind_some, shr30, shr27, shr31, shr32, shr33, shr8, shr16, quoi, quou, quo32, w64u, biti, Int.emod_add_emod, Int.add_emod_emod, List.length_append, if_true, if_false, Bool.false_eq_true, Bool.true_eq_false, not_true_eq_false, not_false_eq_true, reduceCtorEq, Int.add_mul_emod_self_right, Int.natCast_pos, Int.zero_sub, false_and, and_false] at h ⊢))
    | (rw [if_pos (by omega)])
    | (rw [if_neg (by omega)])
    | (unfold P.integer_Of.j0 at h; (try simp only [decide_eq_true_eq, bne_iff_ne, beq_iff_eq, ne_eq, Bool.not_eq_true', Bool.not_eq_true, Bool.not_eq_false, w64e, wu32, wu8, gt_iff_lt, ge_iff_le, List.length_cons, List.length_nil, Nat.zero_add, Int.le_refl, true_and, and_true, rdl, rdmap, rdb, esub, n64, n32, List.map_cons, List.map_nil, List.length_map, shrP, beqd, Bool.and_eq_true, Bool.and_true, Bool.or_eq_true, Bool.not_and, decide_eq_false_iff_not, tm2, List.replicate_zero, List.take_length, shr1, shlP, beq_eq_false_iff_ne, List.drop_zero, Int.toNat_natCast, not_lt', decide_true, decide_false, Option.bind_some, shr30, shr27, shr31, shr32, shr33, shr8, shr16, quoi, quou, quo32, w64u, biti, Int.emod_add_emod, Int.add_emod_emod, List.length_append, if_true, if_false, Bool.false_eq_true, Bool.true_eq_false, not_true_eq_false, not_false_eq_true, reduceCtorEq, Int.add_mul_emod_self_right, Int.natCast_pos, Int.zero_sub, false_and, and_false] at h))
    | (exfalso; omega)
    | fail

theorem b61_loops : ∀ n : Nat, (∀ k, k ≤ n → ∀ (x1 : Int) (x5 : List Int) (s t : Int) {r : Bool × List Int × Int × Int}, P.random_source_bits.l0 k x1 x5 s t = some r → F61_L2 x1 s t false x5 = some (((r.1, r.2.1), ()), (r.2.2, ()))) ∧ (∀ k, k ≤ n → ∀ (x5 : List Int) (s t : Int) {r : Bool × List Int × Int × Int}, P.random_source_bits.l1 k x5 s t = some r → F61_L8 s t false x5 = some (((r.1, r.2.1), ()), (r.2.2, ()))) ∧ (∀ k, k ≤ n → ∀ (x5 : List Int) (s t : Int) {r : Bool × List Int × Int × Int}, P.random_source_bits.l1 k x5 s t = some r → F61_L8_1 x5 s t false = some (((r.1, r.2.1), ()), (r.2.2, ())))
  | 0 => ⟨(fun k hk x1 x5 s t r h => by
    obtain rfl : k = 0 := by omega
    unfold P.random_source_bits.l0 at h; cases h), (fun k hk x5 s t r h => by
    obtain rfl : k = 0 := by omega
    unfold P.random_source_bits.l1 at h; cases h), (fun k hk x5 s t r h => by
    obtain rfl : k = 0 := by omega
    unfold P.random_source_bits.l1 at h; cases h)⟩
  | n + 1 => by
    obtain ⟨ih0, ih1, ih2⟩ := b61_loops n
    refine ⟨?_, ?_, ?_⟩
    · intro k hk x1 x5 s t r h
      cases k with
      | zero => unfold P.random_source_bits.l0 at h; cases h
      | succ k =>
      unfold P.random_source_bits.l0 at h
      rw [F61_L2_eq]
      try simp only [F61_J4_eq, F61_J7_eq, F61_J9_eq, F61_J10_eq, F61_J3_eq, F61_J9_1_eq, F61_J10_1_eq]
      try simp only [decide_eq_true_eq, bne_iff_ne, beq_iff_eq, ne_eq, Bool.not_eq_true', Bool.not_eq_true, Bool.not_eq_false, w64e, wu32, wu8, gt_iff_lt, ge_iff_le, List.length_cons, List.length_nil, Nat.zero_add, Int.le_refl, true_and, and_true, rdl, rdmap, rdb, esub, n64, n32, List.map_cons, List.map_nil, List.length_map, shrP, beqd, Bool.and_eq_true, Bool.and_true, Bool.or_eq_true, Bool.not_and, decide_eq_false_iff_not, tm2, List.replicate_zero, List.take_length, shr1, shlP, beq_eq_false_iff_ne, List.drop_zero, Int.toNat_natCast, not_lt', decide_true, decide_false, Option.bind_some, shr30, shr27, shr31, shr32, shr33, shr8, shr16, quoi, quou, quo32, w64u, biti, Int.emod_add_emod, Int.add_emod_emod, List.length_append, if_true, if_false, Bool.false_eq_true, Bool.true_eq_false, not_true_eq_false, not_false_eq_true, reduceCtorEq, Int.add_mul_emod_self_right, Int.natCast_pos, Int.zero_sub, false_and, and_false] at h ⊢
      repeat' first
        | (cases h; done)
        | (cases h; rfl)
        | (cases h; simp only [*]; done)
        | exact (ih0 _ (by omega) _ _ _ _) h
        | exact (ih1 _ (by omega) _ _ _) h
        | exact (ih2 _ (by omega) _ _ _) h
        | (obtain ⟨t, ht, h⟩ := Option.bind_eq_some_iff.1 h; (first | replace ht := b40 ht); simp only [ht, Option.bind_some])
        | (replace h := b40 h; simp only [h, Option.bind_some]; done)
        | (split at h <;> rename_i hc <;> (try simp only [hc, decide_eq_true_eq, bne_iff_ne, beq_iff_eq, ne_eq, Bool.not_eq_true', Bool.not_eq_true, Bool.not_eq_false, w64e, wu32, wu8, gt_iff_lt, ge_iff_le, List.length_cons, List.length_nil, Nat.zero_add, Int.le_refl, true_and, and_true, rdl, rdmap, rdb, esub, n64, n32, List.map_cons, List.map_nil, List.length_map, shrP, beqd, Bool.and_eq_true, Bool.and_true, Bool.or_eq_true, Bool.not_and, decide_eq_false_iff_not, tm2, List.replicate_zero, List.take_length, shr1, shlP, beq_eq_false_iff_ne, List.drop_zero, Int.toNat_natCast, not_lt', decide_true, decide_false, Option.bind_some, shr30, shr27, shr31, shr32, shr33, shr8, shr16, quoi, quou, quo32, w64u, biti, Int.emod_add_emod, Int.add_emod_emod, List.length_append, if_true, if_false, Bool.false_eq_true, Bool.true_eq_false, not_true_eq_false, not_false_eq_true, reduceCtorEq, Int.add_mul_emod_self_right, Int.natCast_pos, Int.zero_sub, false_and, and_false] at h ⊢))
        | (rw [if_pos (by omega)])
        | (rw [if_neg (by omega)])
        | (exfalso; omega)
        | fail
    · intro k hk x5 s t r h
      cases k with
      | zero => unfold P.random_source_bits.l1 at h; cases h
      | succ k =>
      unfold P.random_source_bits.l1 at h
      rw [F61_L8_eq]
      try simp only [F61_J4_eq, F61_J7_eq, F61_J9_eq, F61_J10_eq, F61_J3_eq, F61_J9_1_eq, F61_J10_1_eq]
      try simp only [decide_eq_true_eq, bne_iff_ne, beq_iff_eq, ne_eq, Bool.not_eq_true', Bool.not_eq_true, Bool.not_eq_false, w64e, wu32, wu8, gt_iff_lt, ge_iff_le, List.length_cons, List.length_nil, Nat.zero_add, Int.le_refl, true_and, and_true, rdl, rdmap, rdb, esub, n64, n32, List.map_cons, List.map_nil, List.length_map, shrP, beqd, Bool.and_eq_true, Bool.and_true, Bool.or_eq_true, Bool.not_and, decide_eq_false_iff_not, tm2, List.replicate_zero, List.take_length, shr1, shlP, beq_eq_false_iff_ne, List.drop_zero, Int.toNat_natCast, not_lt', decide_true, decide_false, Option.bind_some, shr30, shr27, shr31, shr32, shr33, shr8, shr16, quoi, quou, quo32, w64u, biti, Int.emod_add_emod, Int.add_emod_emod, List.length_append, if_true, if_false, Bool.false_eq_true, Bool.true_eq_false, not_true_eq_false, not_false_eq_true, reduceCtorEq, Int.add_mul_emod_self_right, Int.natCast_pos, Int.zero_sub, false_and, and_false] at h ⊢
      repeat' first
        | (cases h; done)
        | (cases h; rfl)
        | (cases h; simp only [*]; done)
        | exact (ih0 _ (by omega) _ _ _ _) h
        | exact (ih1 _ (by omega) _ _ _) h
        | exact (ih2 _ (by omega) _ _ _) h
        | (obtain ⟨t, ht, h⟩ := Option.bind_eq_some_iff.1 h; (first | replace ht := b40 ht); simp only [ht, Option.bind_some])
        | (replace h := b40 h; simp only [h, Option.bind_some]; done)
        | (split at h <;> rename_i hc <;> (try simp only [hc, decide_eq_true_eq, bne_iff_ne, beq_iff_eq, ne_eq, Bool.not_eq_true', Bool.not_eq_true, Bool.not_eq_false, w64e, wu32, wu8, gt_iff_lt, ge_iff_le, List.length_cons, List.length_nil, Nat.zero_add, Int.le_refl, true_and, and_true, rdl, rdmap, rdb, esub, n64, n32, List.map_cons, List.map_nil, List.length_map, shrP, beqd, Bool.and_eq_true, Bool.and_true, Bool.or_eq_true, Bool.not_and, decide_eq_false_iff_not, tm2, List.replicate_zero, List.take_length, shr1, shlP, beq_eq_false_iff_ne, List.drop_zero, Int.toNat_natCast, not_lt', decide_true, decide_false, Option.bind_some, shr30, shr27, shr31, shr32, shr33, shr8, shr16, quoi, quou, quo32, w64u, biti, Int.emod_add_emod, Int.add_emod_emod, List.length_append, if_true, if_false, Bool.false_eq_true, Bool.true_eq_false, not_true_eq_false, not_false_eq_true, reduceCtorEq, Int.add_mul_emod_self_right, Int.natCast_pos, Int.zero_sub, false_and, and_false] at h ⊢))
        | (rw [if_pos (by omega)])
        | (rw [if_neg (by omega)])
        | (exfalso; omega)
        | fail
    · intro k hk x5 s t r h
      cases k with
      | zero => unfold P.random_source_bits.l1 at h; cases h
      | succ k =>
      unfold P.random_source_bits.l1 at h
      rw [F61_L8_1_eq]
      try simp only [F61_J4_eq, F61_J7_eq, F61_J9_eq, F61_J10_eq, F61_J3_eq, F61_J9_1_eq, F61_J10_1_eq]
      try simp only [decide_eq_true_eq, bne_iff_ne, beq_iff_eq, ne_eq, Bool.not_eq_true', Bool.not_eq_true, Bool.not_eq_false, w64e, wu32, wu8, gt_iff_lt, ge_iff_le, List.length_cons, List.length_nil, Nat.zero_add, Int.le_refl, true_and, and_true, rdl, rdmap, rdb, esub, n64, n32, List.map_cons, List.map_nil, List.length_map, shrP, beqd, Bool.and_eq_true, Bool.and_true, Bool.or_eq_true, Bool.not_and, decide_eq_false_iff_not, tm2, List.replicate_zero, List.take_length, shr1, shlP, beq_eq_false_iff_ne, List.drop_zero, Int.toNat_natCast, not_lt', decide_true, decide_false, Option.bind_some, shr30, shr27, shr31, shr32, shr33, shr8, shr16, quoi, quou, quo32, w64u, biti, Int.emod_add_emod, Int.add_emod_emod, List.length_append, if_true, if_false, Bool.false_eq_true, Bool.true_eq_false, not_true_eq_false, not_false_eq_true, reduceCtorEq, Int.add_mul_emod_self_right, Int.natCast_pos, Int.zero_sub, false_and, and_false] at h ⊢
      repeat' first
        | (cases h; done)
        | (cases h; rfl)
        | (cases h; simp only [*]; done)
        | exact (ih0 _ (by omega) _ _ _ _) h
        | exact (ih1 _ (by omega) _ _ _) h
        | exact (ih2 _ (by omega) _ _ _) h
        | (obtain ⟨t, ht, h⟩ := Option.bind_eq_some_iff.1 h; (first | replace ht := b40 ht); simp only [ht, Option.bind_some])
        | (replace h := b40 h; simp only [h, Option.bind_some]; done)
        | (split at h <;> rename_i hc <;> (try simp only [hc, decide_eq_true_eq, bne_iff_ne, beq_iff_eq, ne_eq, Bool.not_eq_true', Bool.not_eq_true, Bool.not_eq_false, w64e, wu32, wu8, gt_iff_lt, ge_iff_le, List.length_cons, List.length_nil, Nat.zero_add, Int.le_refl, true_and, and_true, rdl, rdmap, rdb, esub, n64, n32, List.map_cons, List.map_nil, List.length_map, shrP, beqd, Bool.and_eq_true, Bool.and_true, Bool.or_eq_true, Bool.not_and, decide_eq_false_iff_not, tm2, List.replicate_zero, List.take_length, shr1, shlP, beq_eq_false_iff_ne, List.drop_zero, Int.toNat_natCast, not_lt', decide_true, decide_false, Option.bind_some, shr30, shr27, shr31, shr32, shr33, shr8, shr16, quoi, quou, quo32, w64u, biti, Int.emod_add_emod, Int.add_emod_emod, List.length_append, if_true, if_false, Bool.false_eq_true, Bool.true_eq_false, not_true_eq_false, not_false_eq_true, reduceCtorEq, Int.add_mul_emod_self_right, Int.natCast_pos, Int.zero_sub, false_and, and_false] at h ⊢))
        | (rw [if_pos (by omega)])
        | (rw [if_neg (by omega)])
        | (exfalso; omega)
        | fail

theorem b61_L2 {k : Nat} {x1 : Int} {x5 : List Int} {s t : Int} {r : Bool × List Int × Int × Int} (h : P.random_source_bits.l0 k x1 x5 s t = some r) : F61_L2 x1 s t false x5 = some (((r.1, r.2.1), ()), (r.2.2, ())) := (b61_loops k).1 k (Nat.le_refl _) _ _ _ _ h

theorem b61_L8 {k : Nat} {x5 : List Int} {s t : Int} {r : Bool × List Int × Int × Int} (h : P.random_source_bits.l1 k x5 s t = some r) : F61_L8 s t false x5 = some (((r.1, r.2.1), ()), (r.2.2, ())) := (b61_loops k).2.1 k (Nat.le_refl _) _ _ _ h

theorem b61_L8_1 {k : Nat} {x5 : List Int} {s t : Int} {r : Bool × List Int × Int × Int} (h : P.random_source_bits.l1 k x5 s t = some r) : F61_L8_1 x5 s t false = some (((r.1, r.2.1), ()), (r.2.2, ())) := (b61_loops k).2.2 k (Nat.le_refl _) _ _ _ h

theorem b61 {k : Nat} {s t a : Int} {r : Bool × List Int × Int × Int} (h : P.random_source_bits.f k s t a = some r) : F61 (s, t) a = some (((r.1, r.2.1), ()), (r.2.2, ())) := by
  unfold P.random_source_bits.f at h
  rw [F61_eq]
  try simp only [F61_J4_eq, F61_J7_eq, F61_J9_eq, F61_J10_eq, F61_J3_eq, F61_J9_1_eq, F61_J10_1_eq]
  try simp only [decide_eq_true_eq, bne_iff_ne, beq_iff_eq, ne_eq, Bool.not_eq_true', Bool.not_eq_true, Bool.not_eq_false, w64e, wu32, wu8, gt_iff_lt, ge_iff_le, List.length_cons, List.length_nil, Nat.zero_add, Int.le_refl, true_and, and_true, rdl, rdmap, rdb, esub, n64, n32, List.map_cons, List.map_nil, List.length_map, shrP, beqd, Bool.and_eq_true, Bool.and_true, Bool.or_eq_true, Bool.not_and, decide_eq_false_iff_not, tm2, List.replicate_zero, List.take_length, shr1, shlP, beq_eq_false_iff_ne, List.drop_zero, Int.toNat_natCast, not_lt', decide_true, decide_false, Option.bind_some, shr30, shr27, shr31, shr32, shr33, shr8, shr16, quoi, quou, quo32, w64u, biti, Int.emod_add_emod, Int.add_emod_emod, List.length_append, if_true, if_false, Bool.false_eq_true, Bool.true_eq_false, not_true_eq_false, not_false_eq_true, reduceCtorEq, Int.add_mul_emod_self_right, Int.natCast_pos, Int.zero_sub, false_and, and_false] at h ⊢
  repeat' first
    | (cases h; done)
    | (cases h; rfl)
    | (cases h; simp only [*]; done)
    | (with_reducible exact b61_L2 h)
    | (split at h <;> rename_i hc <;> (try simp only [hc, decide_eq_true_eq, bne_iff_ne, beq_iff_eq, ne_eq, Bool.not_eq_true', Bool.not_eq_true, Bool.not_eq_false, w64e, wu32, wu8, gt_iff_lt, ge_iff_le, List.length_cons, List.length_nil, Nat.zero_add, Int.le_refl, true_and, and_true, rdl, rdmap, rdb, esub, n64, n32, List.map_cons, List.map_nil, List.length_map, shrP, beqd, Bool.and_eq_true, Bool.and_true, Bool.or_eq_true, Bool.not_and, decide_eq_false_iff_not, tm2, List.replicate_zero, List.take_length, shr1, shlP, beq_eq_false_iff_ne, List.drop_zero, Int.toNat_natCast, not_lt', decide_true, decide_false, Option.bind_some, shr30, shr27, shr31, shr32, shr33, shr8, shr16, quoi, quou, quo32, w64u, biti, Int.emod_add_emod, Int.add_emod_emod, List.length_append, if_true, if_false, Bool.false_eq_true, Bool.true_eq_false, not_true_eq_false, not_false_eq_true, reduceCtorEq, Int.add_mul_emod_self_right, Int.natCast_pos, Int.zero_sub, false_and, and_false] at h ⊢))
    | (rw [if_pos (by omega)])
    | (rw [if_neg (by omega)])
    | (exfalso; omega)
    | fail

theorem b43_loops : ∀ n : Nat, (∀ k, k ≤ n → ∀ (x7 s t : Int) (c : Bool) (b : List Int) {r : Bool × List Int × Int × Int}, P.random_source_below.l0 k x7 s t c b = some r → F43_L3 x7 s t c b false = some (((r.1, r.2.1), ()), (r.2.2, ())))
  | 0 => fun k hk x7 s t c b r h => by
    obtain rfl : k = 0 := by omega
    unfold P.random_source_below.l0 at h; cases h
  | n + 1 => by
    have ih0 := b43_loops n
    intro k hk x7 s t c b r h
    cases k with
    | zero => unfold P.random_source_below.l0 at h; cases h
    | succ k =>
    unfold P.random_source_below.l0 at h
    rw [F43_L3_eq]
    try simp only [decide_eq_true_eq, bne_iff_ne, beq_iff_eq, ne_eq, Bool.not_eq_true', Bool.not_eq_true, Bool.not_eq_false, w64e, wu32, wu8, gt_iff_lt, ge_iff_le, List.length_cons, List.length_nil, Nat.zero_add, Int.le_refl, true_and, and_true, rdl, rdmap, rdb, esub, n64, n32, List.map_cons, List.map_nil, List.length_map, shrP, beqd, Bool.and_eq_true, Bool.and_true, Bool.or_eq_true, Bool.not_and, decide_eq_false_iff_not, tm2, List.replicate_zero, List.take_length, shr1, shlP, beq_eq_false_iff_ne, List.drop_zero, Int.toNat_natCast, not_lt', decide_true, decide_false, Option.bind_some, shr30, shr27, shr31, shr32, shr33, shr8, shr16, quoi, quou, quo32, w64u, biti, Int.emod_add_emod, Int.add_emod_emod, List.length_append, if_true, if_false, Bool.false_eq_true, Bool.true_eq_false, not_true_eq_false, not_false_eq_true, reduceCtorEq, Int.add_mul_emod_self_right, Int.natCast_pos, Int.zero_sub, false_and, and_false] at h ⊢
    repeat' first
      | (cases h; done)
      | (cases h; rfl)
      | (cases h; simp only [*]; done)
      | exact (ih0 _ (by omega) _ _ _ _ _) h
      | (obtain ⟨t, ht, h⟩ := Option.bind_eq_some_iff.1 h; (first | replace ht := b61 ht | replace ht := b44 ht); simp only [ht, Option.bind_some])
      | (replace h := b61 h; simp only [h, Option.bind_some]; done)
      | (replace h := b44 h; simp only [h, Option.bind_some]; done)
      | (split at h <;> rename_i hc <;> (try simp only [hc, decide_eq_true_eq, bne_iff_ne, beq_iff_eq, ne_eq, Bool.not_eq_true', Bool.not_eq_true, Bool.not_eq_false, w64e, wu32, wu8, gt_iff_lt, ge_iff_le, List.length_cons, List.length_nil, Nat.zero_add, Int.le_refl, true_and, and_true, rdl, rdmap, rdb, esub, n64, n32, List.map_cons, List.map_nil, List.length_map, shrP, beqd, Bool.and_eq_true, Bool.and_true, Bool.or_eq_true, Bool.not_and, decide_eq_false_iff_not, tm2, List.replicate_zero, List.take_length, shr1, shlP, beq_eq_false_iff_ne, List.drop_zero, Int.toNat_natCast, not_lt', decide_true, decide_false, Option.bind_some, shr30, shr27, shr31, shr32, shr33, shr8, shr16, quoi, quou, quo32, w64u, biti, Int.emod_add_emod, Int.add_emod_emod, List.length_append, if_true, if_false, Bool.false_eq_true, Bool.true_eq_false, not_true_eq_false, not_false_eq_true, reduceCtorEq, Int.add_mul_emod_self_right, Int.natCast_pos, Int.zero_sub, false_and, and_false] at h ⊢))
      | (rw [if_pos (by omega)])
      | (rw [if_neg (by omega)])
      | (exfalso; omega)
      | fail

theorem b43_L3 {k : Nat} {x7 s t : Int} {c : Bool} {b : List Int} {r : Bool × List Int × Int × Int} (h : P.random_source_below.l0 k x7 s t c b = some r) : F43_L3 x7 s t c b false = some (((r.1, r.2.1), ()), (r.2.2, ())) := (b43_loops k) k (Nat.le_refl _) _ _ _ _ _ h

theorem b43 {k : Nat} {s t : Int} {c : Bool} {b : List Int} {r : Bool × List Int × Int × Int} (h : P.random_source_below.f k s t c b = some r) : F43 (s, t) (c, b) = some (((r.1, r.2.1), ()), (r.2.2, ())) := by
  unfold P.random_source_below.f at h
  rw [F43_eq]
  try simp only [decide_eq_true_eq, bne_iff_ne, beq_iff_eq, ne_eq, Bool.not_eq_true', Bool.not_eq_true, Bool.not_eq_false, w64e, wu32, wu8, gt_iff_lt, ge_iff_le, List.length_cons, List.length_nil, Nat.zero_add, Int.le_refl, true_and, and_true, rdl, rdmap, rdb, esub, n64, n32, List.map_cons, List.map_nil, List.length_map, shrP, beqd, Bool.and_eq_true, Bool.and_true, Bool.or_eq_true, Bool.not_and, decide_eq_false_iff_not, tm2, List.replicate_zero, List.take_length, shr1, shlP, beq_eq_false_iff_ne, List.drop_zero, Int.toNat_natCast, not_lt', decide_true, decide_false, Option.bind_some, shr30, shr27, shr31, shr32, shr33, shr8, shr16, quoi, quou, quo32, w64u, biti, Int.emod_add_emod, Int.add_emod_emod, List.length_append, if_true, if_false, Bool.false_eq_true, Bool.true_eq_false, not_true_eq_false, not_false_eq_true, reduceCtorEq, Int.add_mul_emod_self_right, Int.natCast_pos, Int.zero_sub, false_and, and_false] at h ⊢
  repeat' first
    | (cases h; done)
    | (cases h; rfl)
    | (cases h; simp only [*]; done)
    | (with_reducible exact b43_L3 h)
    | (obtain ⟨t, ht, h⟩ := Option.bind_eq_some_iff.1 h; (first | replace ht := b47 ht | replace ht := b45 ht | replace ht := b60 ht); simp only [ht, Option.bind_some])
    | (replace h := b47 h; simp only [h, Option.bind_some]; done)
    | (replace h := b45 h; simp only [h, Option.bind_some]; done)
    | (replace h := b60 h; simp only [h, Option.bind_some]; done)
    | (split at h <;> rename_i hc <;> (try simp only [hc, decide_eq_true_eq, bne_iff_ne, beq_iff_eq, ne_eq, Bool.not_eq_true', Bool.not_eq_true, Bool.not_eq_false, w64e, wu32, wu8, gt_iff_lt, ge_iff_le, List.length_cons, List.length_nil, Nat.zero_add, Int.le_refl, true_and, and_true, rdl, rdmap, rdb, esub, n64, n32, List.map_cons, List.map_nil, List.length_map, shrP, beqd, Bool.and_eq_true, Bool.and_true, Bool.or_eq_true, Bool.not_and, decide_eq_false_iff_not, tm2, List.replicate_zero, List.take_length, shr1, shlP, beq_eq_false_iff_ne, List.drop_zero, Int.toNat_natCast, not_lt', decide_true, decide_false, Option.bind_some, shr30, shr27, shr31, shr32, shr33, shr8, shr16, quoi, quou, quo32, w64u, biti, Int.emod_add_emod, Int.add_emod_emod, List.length_append, if_true, if_false, Bool.false_eq_true, Bool.true_eq_false, not_true_eq_false, not_false_eq_true, reduceCtorEq, Int.add_mul_emod_self_right, Int.natCast_pos, Int.zero_sub, false_and, and_false] at h ⊢))
    | (rw [if_pos (by omega)])
    | (rw [if_neg (by omega)])
    | (exfalso; omega)
    | fail

theorem b16 {k : Nat} {a b : Int} {c : Bool} {l : List Int} {r : Bool × List Int × Int × Int × Int × Int} (h : P.random_Below.f k a b c l = some r) : F16 (a, b) (c, l) = some (((r.1, r.2.1), ((r.2.2.1, r.2.2.2.1), (r.2.2.2.2, ()))), ()) := by
  unfold P.random_Below.f at h
  rw [F16_eq]
  try simp only [F16_J8_eq, F16_J8_1_eq]
  try simp only [decide_eq_true_eq, bne_iff_ne, beq_iff_eq, ne_eq, Bool.not_eq_true', Bool.not_eq_true, Bool.not_eq_false, w64e, wu32, wu8, gt_iff_lt, ge_iff_le, List.length_cons, List.length_nil, Nat.zero_add, Int.le_refl, true_and, and_true, rdl, rdmap, rdb, esub, n64, n32, List.map_cons, List.map_nil, List.length_map, shrP, beqd, Bool.and_eq_true, Bool.and_true, Bool.or_eq_true, Bool.not_and, decide_eq_false_iff_not, tm2, List.replicate_zero, List.take_length, shr1, shlP, beq_eq_false_iff_ne, List.drop_zero, Int.toNat_natCast, not_lt', decide_true, decide_false, Option.bind_some, shr30, shr27, shr31, shr32, shr33, shr8, shr16, quoi, quou, quo32, w64u, biti, Int.emod_add_emod, Int.add_emod_emod, List.length_append, if_true, if_false, Bool.false_eq_true, Bool.true_eq_false, not_true_eq_false, not_false_eq_true, reduceCtorEq, Int.add_mul_emod_self_right, Int.natCast_pos, Int.zero_sub, false_and, and_false] at h ⊢
  rcases Classical.em (b % 2 = 0) with ho | ho
  · simp only [ho, if_true, P.random_open_no.f, Option.bind_some] at h
    rw [b39_no ho]
    cases h
    simp
  simp only [ho, if_false, P.random_open_ok.f, Option.bind_some] at h
  rw [b39_ok ho]
  simp only [decide_eq_true_eq, bne_iff_ne, beq_iff_eq, ne_eq, Bool.not_eq_true', Bool.not_eq_true, Bool.not_eq_false, w64e, wu32, wu8, gt_iff_lt, ge_iff_le, List.length_cons, List.length_nil, Nat.zero_add, Int.le_refl, true_and, and_true, rdl, rdmap, rdb, esub, n64, n32, List.map_cons, List.map_nil, List.length_map, shrP, beqd, Bool.and_eq_true, Bool.and_true, Bool.or_eq_true, Bool.not_and, decide_eq_false_iff_not, tm2, List.replicate_zero, List.take_length, shr1, shlP, beq_eq_false_iff_ne, List.drop_zero, Int.toNat_natCast, not_lt', decide_true, decide_false, Option.bind_some, shr30, shr27, shr31, shr32, shr33, shr8, shr16, quoi, quou, quo32, w64u, biti, Int.emod_add_emod, Int.add_emod_emod, List.length_append, if_true, if_false, Bool.false_eq_true, Bool.true_eq_false, not_true_eq_false, not_false_eq_true, reduceCtorEq, Int.add_mul_emod_self_right, Int.natCast_pos, Int.zero_sub, false_and, and_false] at h ⊢
  repeat' first
    | (cases h; done)
    | (cases h; rfl)
    | (cases h; simp only [*]; done)
    | (obtain ⟨t, ht, h⟩ := Option.bind_eq_some_iff.1 h; (first | replace ht := b36 ht | replace ht := b37 ht | replace ht := b43 ht); simp only [ht, Option.bind_some])
    | (replace h := b36 h; simp only [h, Option.bind_some]; done)
    | (replace h := b37 h; simp only [h, Option.bind_some]; done)
    | (replace h := b43 h; simp only [h, Option.bind_some]; done)
    | (split at h <;> rename_i hc <;> (try simp only [hc, decide_eq_true_eq, bne_iff_ne, beq_iff_eq, ne_eq, Bool.not_eq_true', Bool.not_eq_true, Bool.not_eq_false, w64e, wu32, wu8, gt_iff_lt, ge_iff_le, List.length_cons, List.length_nil, Nat.zero_add, Int.le_refl, true_and, and_true, rdl, rdmap, rdb, esub, n64, n32, List.map_cons, List.map_nil, List.length_map, shrP, beqd, Bool.and_eq_true, Bool.and_true, Bool.or_eq_true, Bool.not_and, decide_eq_false_iff_not, tm2, List.replicate_zero, List.take_length, shr1, shlP, beq_eq_false_iff_ne, List.drop_zero, Int.toNat_natCast, not_lt', decide_true, decide_false, Option.bind_some, shr30, shr27, shr31, shr32, shr33, shr8, shr16, quoi, quou, quo32, w64u, biti, Int.emod_add_emod, Int.add_emod_emod, List.length_append, if_true, if_false, Bool.false_eq_true, Bool.true_eq_false, not_true_eq_false, not_false_eq_true, reduceCtorEq, Int.add_mul_emod_self_right, Int.natCast_pos, Int.zero_sub, false_and, and_false] at h ⊢))
    | (rw [if_pos (by omega)])
    | (rw [if_neg (by omega)])
    | (unfold P.random_Below.j0 at h; (try simp only [decide_eq_true_eq, bne_iff_ne, beq_iff_eq, ne_eq, Bool.not_eq_true', Bool.not_eq_true, Bool.not_eq_false, w64e, wu32, wu8, gt_iff_lt, ge_iff_le, List.length_cons, List.length_nil, Nat.zero_add, Int.le_refl, true_and, and_true, rdl, rdmap, rdb, esub, n64, n32, List.map_cons, List.map_nil, List.length_map, shrP, beqd, Bool.and_eq_true, Bool.and_true, Bool.or_eq_true, Bool.not_and, decide_eq_false_iff_not, tm2, List.replicate_zero, List.take_length, shr1, shlP, beq_eq_false_iff_ne, List.drop_zero, Int.toNat_natCast, not_lt', decide_true, decide_false, Option.bind_some, shr30, shr27, shr31, shr32, shr33, shr8, shr16, quoi, quou, quo32, w64u, biti, Int.emod_add_emod, Int.add_emod_emod, List.length_append, if_true, if_false, Bool.false_eq_true, Bool.true_eq_false, not_true_eq_false, not_false_eq_true, reduceCtorEq, Int.add_mul_emod_self_right, Int.natCast_pos, Int.zero_sub, false_and, and_false] at h))
    | (exfalso; omega)
    | fail

theorem b9 {a b : Int} {r : Int × Int × Int × Int × Int} (h : P.random_Next.f a b = some r) : F9 (a, b) = some ((r.1, ((r.2.1, r.2.2.1), (r.2.2.2, ()))), ()) := by
  unfold P.random_Next.f at h
  rw [F9_eq]
  try simp only [F9_J4_eq, F9_J4_1_eq]
  try simp only [decide_eq_true_eq, bne_iff_ne, beq_iff_eq, ne_eq, Bool.not_eq_true', Bool.not_eq_true, Bool.not_eq_false, w64e, wu32, wu8, gt_iff_lt, ge_iff_le, List.length_cons, List.length_nil, Nat.zero_add, Int.le_refl, true_and, and_true, rdl, rdmap, rdb, esub, n64, n32, List.map_cons, List.map_nil, List.length_map, shrP, beqd, Bool.and_eq_true, Bool.and_true, Bool.or_eq_true, Bool.not_and, decide_eq_false_iff_not, tm2, List.replicate_zero, List.take_length, shr1, shlP, beq_eq_false_iff_ne, List.drop_zero, Int.toNat_natCast, not_lt', decide_true, decide_false, Option.bind_some, shr30, shr27, shr31, shr32, shr33, shr8, shr16, quoi, quou, quo32, w64u, biti, Int.emod_add_emod, Int.add_emod_emod, List.length_append, if_true, if_false, Bool.false_eq_true, Bool.true_eq_false, not_true_eq_false, not_false_eq_true, reduceCtorEq, Int.add_mul_emod_self_right, Int.natCast_pos, Int.zero_sub, false_and, and_false] at h ⊢
  rcases Classical.em (b % 2 = 0) with ho | ho
  · simp only [ho, if_true, P.random_open_no.f, Option.bind_some] at h
    rw [b39_no ho]
    cases h
    simp
  simp only [ho, if_false, P.random_open_ok.f, Option.bind_some] at h
  rw [b39_ok ho]
  simp only [decide_eq_true_eq, bne_iff_ne, beq_iff_eq, ne_eq, Bool.not_eq_true', Bool.not_eq_true, Bool.not_eq_false, w64e, wu32, wu8, gt_iff_lt, ge_iff_le, List.length_cons, List.length_nil, Nat.zero_add, Int.le_refl, true_and, and_true, rdl, rdmap, rdb, esub, n64, n32, List.map_cons, List.map_nil, List.length_map, shrP, beqd, Bool.and_eq_true, Bool.and_true, Bool.or_eq_true, Bool.not_and, decide_eq_false_iff_not, tm2, List.replicate_zero, List.take_length, shr1, shlP, beq_eq_false_iff_ne, List.drop_zero, Int.toNat_natCast, not_lt', decide_true, decide_false, Option.bind_some, shr30, shr27, shr31, shr32, shr33, shr8, shr16, quoi, quou, quo32, w64u, biti, Int.emod_add_emod, Int.add_emod_emod, List.length_append, if_true, if_false, Bool.false_eq_true, Bool.true_eq_false, not_true_eq_false, not_false_eq_true, reduceCtorEq, Int.add_mul_emod_self_right, Int.natCast_pos, Int.zero_sub, false_and, and_false] at h ⊢
  repeat' first
    | (cases h; done)
    | (cases h; rfl)
    | (cases h; simp only [*]; done)
    | (obtain ⟨t, ht, h⟩ := Option.bind_eq_some_iff.1 h; (first | replace ht := b40 ht); simp only [ht, Option.bind_some])
    | (replace h := b40 h; simp only [h, Option.bind_some]; done)
    | (split at h <;> rename_i hc <;> (try simp only [hc, decide_eq_true_eq, bne_iff_ne, beq_iff_eq, ne_eq, Bool.not_eq_true', Bool.not_eq_true, Bool.not_eq_false, w64e, wu32, wu8, gt_iff_lt, ge_iff_le, List.length_cons, List.length_nil, Nat.zero_add, Int.le_refl, true_and, and_true, rdl, rdmap, rdb, esub, n64, n32, List.map_cons, List.map_nil, List.length_map, shrP, beqd, Bool.and_eq_true, Bool.and_true, Bool.or_eq_true, Bool.not_and, decide_eq_false_iff_not, tm2, List.replicate_zero, List.take_length, shr1, shlP, beq_eq_false_iff_ne, List.drop_zero, Int.toNat_natCast, not_lt', decide_true, decide_false, Option.bind_some, shr30, shr27, shr31, shr32, shr33, shr8, shr16, quoi, quou, quo32, w64u, biti, Int.emod_add_emod, Int.add_emod_emod, List.length_append, if_true, if_false, Bool.false_eq_true, Bool.true_eq_false, not_true_eq_false, not_false_eq_true, reduceCtorEq, Int.add_mul_emod_self_right, Int.natCast_pos, Int.zero_sub, false_and, and_false] at h ⊢))
    | (rw [if_pos (by omega)])
    | (rw [if_neg (by omega)])
    | (exfalso; omega)
    | fail

theorem b17 {k : Nat} {a b : Int} {c d : Bool} {l m : List Int} {r : Bool × List Int × Int × Int × Int × Int} (h : P.random_Between.f k a b c l d m = some r) : F17 (a, b) (c, l) (d, m) = some (((r.1, r.2.1), ((r.2.2.1, r.2.2.2.1), (r.2.2.2.2, ()))), ()) := by
  unfold P.random_Between.f at h
  rw [F17_eq]
  try simp only [F17_J8_eq, F17_J8_1_eq, F17_J11_eq, F17_J11_1_eq, F17_J14_eq, F17_J14_1_eq, F17_J16_eq, F17_J16_1_eq]
  try simp only [decide_eq_true_eq, bne_iff_ne, beq_iff_eq, ne_eq, Bool.not_eq_true', Bool.not_eq_true, Bool.not_eq_false, w64e, wu32, wu8, gt_iff_lt, ge_iff_le, List.length_cons, List.length_nil, Nat.zero_add, Int.le_refl, true_and, and_true, rdl, rdmap, rdb, esub, n64, n32, List.map_cons, List.map_nil, List.length_map, shrP, beqd, Bool.and_eq_true, Bool.and_true, Bool.or_eq_true, Bool.not_and, decide_eq_false_iff_not, tm2, List.replicate_zero, List.take_length, shr1, shlP, beq_eq_false_iff_ne, List.drop_zero, Int.toNat_natCast, not_lt', decide_true, decide_false, Option.bind_some, shr30, shr27, shr31, shr32, shr33, shr8, shr16, quoi, quou, quo32, w64u, biti, Int.emod_add_emod, Int.add_emod_emod, List.length_append, if_true, if_false, Bool.false_eq_true, Bool.true_eq_false, not_true_eq_false, not_false_eq_true, reduceCtorEq, Int.add_mul_emod_self_right, Int.natCast_pos, Int.zero_sub, false_and, and_false] at h ⊢
  rcases Classical.em (b % 2 = 0) with ho | ho
  · simp only [ho, if_true, P.random_open_no.f, Option.bind_some] at h
    rw [b39_no ho]
    cases h
    simp
  simp only [ho, if_false, P.random_open_ok.f, Option.bind_some] at h
  rw [b39_ok ho]
  simp only [decide_eq_true_eq, bne_iff_ne, beq_iff_eq, ne_eq, Bool.not_eq_true', Bool.not_eq_true, Bool.not_eq_false, w64e, wu32, wu8, gt_iff_lt, ge_iff_le, List.length_cons, List.length_nil, Nat.zero_add, Int.le_refl, true_and, and_true, rdl, rdmap, rdb, esub, n64, n32, List.map_cons, List.map_nil, List.length_map, shrP, beqd, Bool.and_eq_true, Bool.and_true, Bool.or_eq_true, Bool.not_and, decide_eq_false_iff_not, tm2, List.replicate_zero, List.take_length, shr1, shlP, beq_eq_false_iff_ne, List.drop_zero, Int.toNat_natCast, not_lt', decide_true, decide_false, Option.bind_some, shr30, shr27, shr31, shr32, shr33, shr8, shr16, quoi, quou, quo32, w64u, biti, Int.emod_add_emod, Int.add_emod_emod, List.length_append, if_true, if_false, Bool.false_eq_true, Bool.true_eq_false, not_true_eq_false, not_false_eq_true, reduceCtorEq, Int.add_mul_emod_self_right, Int.natCast_pos, Int.zero_sub, false_and, and_false] at h ⊢
  repeat' first
    | (cases h; done)
    | (cases h; rfl)
    | (cases h; simp only [*]; done)
    | (obtain ⟨t, ht, h⟩ := Option.bind_eq_some_iff.1 h; (first | replace ht := b36 ht | replace ht := b37 ht | replace ht := b43 ht | replace ht := b44 ht | replace ht := b45 ht | replace ht := b46 ht | replace ht := b47 ht); simp only [ht, Option.bind_some])
    | (replace h := b36 h; simp only [h, Option.bind_some]; done)
    | (replace h := b37 h; simp only [h, Option.bind_some]; done)
    | (replace h := b43 h; simp only [h, Option.bind_some]; done)
    | (replace h := b44 h; simp only [h, Option.bind_some]; done)
    | (replace h := b45 h; simp only [h, Option.bind_some]; done)
    | (replace h := b46 h; simp only [h, Option.bind_some]; done)
    | (replace h := b47 h; simp only [h, Option.bind_some]; done)
    | (split at h <;> rename_i hc <;> (try simp only [hc, decide_eq_true_eq, bne_iff_ne, beq_iff_eq, ne_eq, Bool.not_eq_true', Bool.not_eq_true, Bool.not_eq_false, w64e, wu32, wu8, gt_iff_lt, ge_iff_le, List.length_cons, List.length_nil, Nat.zero_add, Int.le_refl, true_and, and_true, rdl, rdmap, rdb, esub, n64, n32, List.map_cons, List.map_nil, List.length_map, shrP, beqd, Bool.and_eq_true, Bool.and_true, Bool.or_eq_true, Bool.not_and, decide_eq_false_iff_not, tm2, List.replicate_zero, List.take_length, shr1, shlP, beq_eq_false_iff_ne, List.drop_zero, Int.toNat_natCast, not_lt', decide_true, decide_false, Option.bind_some, shr30, shr27, shr31, shr32, shr33, shr8, shr16, quoi, quou, quo32, w64u, biti, Int.emod_add_emod, Int.add_emod_emod, List.length_append, if_true, if_false, Bool.false_eq_true, Bool.true_eq_false, not_true_eq_false, not_false_eq_true, reduceCtorEq, Int.add_mul_emod_self_right, Int.natCast_pos, Int.zero_sub, false_and, and_false] at h ⊢))
    | (rw [if_pos (by omega)])
    | (rw [if_neg (by omega)])
    | (unfold P.random_Between.j0 at h; (try simp only [decide_eq_true_eq, bne_iff_ne, beq_iff_eq, ne_eq, Bool.not_eq_true', Bool.not_eq_true, Bool.not_eq_false, w64e, wu32, wu8, gt_iff_lt, ge_iff_le, List.length_cons, List.length_nil, Nat.zero_add, Int.le_refl, true_and, and_true, rdl, rdmap, rdb, esub, n64, n32, List.map_cons, List.map_nil, List.length_map, shrP, beqd, Bool.and_eq_true, Bool.and_true, Bool.or_eq_true, Bool.not_and, decide_eq_false_iff_not, tm2, List.replicate_zero, List.take_length, shr1, shlP, beq_eq_false_iff_ne, List.drop_zero, Int.toNat_natCast, not_lt', decide_true, decide_false, Option.bind_some, shr30, shr27, shr31, shr32, shr33, shr8, shr16, quoi, quou, quo32, w64u, biti, Int.emod_add_emod, Int.add_emod_emod, List.length_append, if_true, if_false, Bool.false_eq_true, Bool.true_eq_false, not_true_eq_false, not_false_eq_true, reduceCtorEq, Int.add_mul_emod_self_right, Int.natCast_pos, Int.zero_sub, false_and, and_false] at h))
    | (exfalso; omega)
    | fail

theorem b41 {k : Nat} {a : Int} {r : Int × Bool × List Int × Bool × List Int × ByteArray × Int} (h : P.brindlewoodlaw4_whole.f k a = some r) : F41 a = some ((((2 : Int), ((r.2.1, r.2.2.1), ((false, ([] : List Int)), ([], (0 : Int))))), ()), ()) := by
  unfold P.brindlewoodlaw4_whole.f at h
  obtain ⟨t, ht, h⟩ := Option.bind_eq_some_iff.1 h
  cases h
  rw [F41_eq, b47 ht]
  rfl

theorem b11 {k : Nat} {r : Bool} (h : P.brindlewoodlaw4_draws.f k = some r) : F11  = some ((r, ()), ()) := by
  unfold P.brindlewoodlaw4_draws.f at h
  rw [F11_eq]
  try simp only [decide_eq_true_eq, bne_iff_ne, beq_iff_eq, ne_eq, Bool.not_eq_true', Bool.not_eq_true, Bool.not_eq_false, w64e, wu32, wu8, gt_iff_lt, ge_iff_le, List.length_cons, List.length_nil, Nat.zero_add, Int.le_refl, true_and, and_true, rdl, rdmap, rdb, esub, n64, n32, List.map_cons, List.map_nil, List.length_map, shrP, beqd, Bool.and_eq_true, Bool.and_true, Bool.or_eq_true, Bool.not_and, decide_eq_false_iff_not, tm2, List.replicate_zero, List.take_length, shr1, shlP, beq_eq_false_iff_ne, List.drop_zero, Int.toNat_natCast, not_lt', decide_true, decide_false, Option.bind_some, shr30, shr27, shr31, shr32, shr33, shr8, shr16, quoi, quou, quo32, w64u, biti, Int.emod_add_emod, Int.add_emod_emod, List.length_append, if_true, if_false, Bool.false_eq_true, Bool.true_eq_false, not_true_eq_false, not_false_eq_true, reduceCtorEq, Int.add_mul_emod_self_right, Int.natCast_pos, Int.zero_sub, false_and, and_false] at h ⊢
  obtain ⟨t0, ht0, h⟩ := Option.bind_eq_some_iff.1 h
  simp only [ht0, Option.bind_some] at h
  simp only [b41 ht0, Option.bind_some]
  repeat' first
    | (cases h; done)
    | (cases h; rfl)
    | (cases h; simp only [*]; done)
    | (obtain ⟨t, ht, h⟩ := Option.bind_eq_some_iff.1 h; (first | replace ht := b41 ht | replace ht := b8 ht | replace ht := b9 ht | replace ht := b16 ht | replace ht := b14 ht | replace ht := b15 ht | replace ht := b18 ht); simp only [ht, Option.bind_some])
    | (replace h := b41 h; simp only [h, Option.bind_some]; done)
    | (replace h := b8 h; simp only [h, Option.bind_some]; done)
    | (replace h := b9 h; simp only [h, Option.bind_some]; done)
    | (replace h := b16 h; simp only [h, Option.bind_some]; done)
    | (replace h := b14 h; simp only [h, Option.bind_some]; done)
    | (replace h := b15 h; simp only [h, Option.bind_some]; done)
    | (replace h := b18 h; simp only [h, Option.bind_some]; done)
    | (split at h <;> rename_i hc <;> (try simp only [hc, decide_eq_true_eq, bne_iff_ne, beq_iff_eq, ne_eq, Bool.not_eq_true', Bool.not_eq_true, Bool.not_eq_false, w64e, wu32, wu8, gt_iff_lt, ge_iff_le, List.length_cons, List.length_nil, Nat.zero_add, Int.le_refl, true_and, and_true, rdl, rdmap, rdb, esub, n64, n32, List.map_cons, List.map_nil, List.length_map, shrP, beqd, Bool.and_eq_true, Bool.and_true, Bool.or_eq_true, Bool.not_and, decide_eq_false_iff_not, tm2, List.replicate_zero, List.take_length, shr1, shlP, beq_eq_false_iff_ne, List.drop_zero, Int.toNat_natCast, not_lt', decide_true, decide_false, Option.bind_some, shr30, shr27, shr31, shr32, shr33, shr8, shr16, quoi, quou, quo32, w64u, biti, Int.emod_add_emod, Int.add_emod_emod, List.length_append, if_true, if_false, Bool.false_eq_true, Bool.true_eq_false, not_true_eq_false, not_false_eq_true, reduceCtorEq, Int.add_mul_emod_self_right, Int.natCast_pos, Int.zero_sub, false_and, and_false] at h ⊢))
    | (rw [if_pos (by omega)])
    | (rw [if_neg (by omega)])
    | (exfalso; omega)
    | fail
end Go.AM.RU

set_option linter.unusedVariables false
set_option linter.unusedSimpArgs false
set_option maxRecDepth 100000
set_option maxHeartbeats 4000000
namespace Go.AM.RU
open Go.RowKit Go.Proofs.YtkhiohlfdkkhdaaW.PrintWords Go.Proofs.Ytkhiohlfdkkhdaa
theorem b59 {a b : Int} {r : Int × Int} (h : P.brindlewoodref3_At.f a b = some r) : F59 a b = some ((r, ()), ()) := by
  unfold P.brindlewoodref3_At.f at h
  rw [F59_eq]
  try simp only [decide_eq_true_eq, bne_iff_ne, beq_iff_eq, ne_eq, Bool.not_eq_true', Bool.not_eq_true, Bool.not_eq_false, w64e, wu32, wu8, gt_iff_lt, ge_iff_le, List.length_cons, List.length_nil, Nat.zero_add, Int.le_refl, true_and, and_true, rdl, rdmap, rdb, esub, n64, n32, List.map_cons, List.map_nil, List.length_map, shrP, beqd, Bool.and_eq_true, Bool.and_true, Bool.or_eq_true, Bool.not_and, decide_eq_false_iff_not, tm2, List.replicate_zero, List.take_length, shr1, shlP, beq_eq_false_iff_ne, List.drop_zero, Int.toNat_natCast, not_lt', decide_true, decide_false, Option.bind_some, shr30, shr27, shr31, shr32, shr33, shr8, shr16, quoi, quou, quo32, w64u, biti, Int.emod_add_emod, Int.add_emod_emod, List.length_append, if_true, if_false, Bool.false_eq_true, Bool.true_eq_false, not_true_eq_false, not_false_eq_true, reduceCtorEq, Int.add_mul_emod_self_right, Int.natCast_pos, Int.zero_sub, false_and, and_false] at h ⊢
  repeat' first
    | (cases h; done)
    | (cases h; rfl)
    | (cases h; simp only [*]; done)
    | (split at h <;> rename_i hc <;> (try simp only [hc, decide_eq_true_eq, bne_iff_ne, beq_iff_eq, ne_eq, Bool.not_eq_true', Bool.not_eq_true, Bool.not_eq_false, w64e, wu32, wu8, gt_iff_lt, ge_iff_le, List.length_cons, List.length_nil, Nat.zero_add, Int.le_refl, true_and, and_true, rdl, rdmap, rdb, esub, n64, n32, List.map_cons, List.map_nil, List.length_map, shrP, beqd, Bool.and_eq_true, Bool.and_true, Bool.or_eq_true, Bool.not_and, decide_eq_false_iff_not, tm2, List.replicate_zero, List.take_length, shr1, shlP, beq_eq_false_iff_ne, List.drop_zero, Int.toNat_natCast, not_lt', decide_true, decide_false, Option.bind_some, shr30, shr27, shr31, shr32, shr33, shr8, shr16, quoi, quou, quo32, w64u, biti, Int.emod_add_emod, Int.add_emod_emod, List.length_append, if_true, if_false, Bool.false_eq_true, Bool.true_eq_false, not_true_eq_false, not_false_eq_true, reduceCtorEq, Int.add_mul_emod_self_right, Int.natCast_pos, Int.zero_sub, false_and, and_false] at h ⊢))
    | (rw [if_pos (by omega)])
    | (rw [if_neg (by omega)])
    | (exfalso; omega)
    | fail

theorem b10_loops : ∀ n : Nat, (∀ k, k ≤ n → ∀ (x1 x8 x9 x10 x11 s t : Int) {r : Int × Int × Int × Int}, P.random_Skip.l0 k x1 x8 x9 x10 x11 s t = some r → F10_L6 x1 x8 x9 x10 x11 s t 0 0 0 0 = some (((r.1, r.2.1), (r.2.2, ())), ()))
  | 0 => fun k hk x1 x8 x9 x10 x11 s t r h => by
    obtain rfl : k = 0 := by omega
    unfold P.random_Skip.l0 at h; cases h
  | n + 1 => by
    have ih0 := b10_loops n
    intro k hk x1 x8 x9 x10 x11 s t r h
    cases k with
    | zero => unfold P.random_Skip.l0 at h; cases h
    | succ k =>
    unfold P.random_Skip.l0 at h
    rw [F10_L6_eq]
    try simp only [F10_J4_eq, F10_J8_eq, F10_J11_eq, F10_J10_eq, F10_J7_eq]
    try simp only [decide_eq_true_eq, bne_iff_ne, beq_iff_eq, ne_eq, Bool.not_eq_true', Bool.not_eq_true, Bool.not_eq_false, w64e, wu32, wu8, gt_iff_lt, ge_iff_le, List.length_cons, List.length_nil, Nat.zero_add, Int.le_refl, true_and, and_true, rdl, rdmap, rdb, esub, n64, n32, List.map_cons, List.map_nil, List.length_map, shrP, beqd, Bool.and_eq_true, Bool.and_true, Bool.or_eq_true, Bool.not_and, decide_eq_false_iff_not, tm2, List.replicate_zero, List.take_length, shr1, shlP, beq_eq_false_iff_ne, List.drop_zero, Int.toNat_natCast, not_lt', decide_true, decide_false, Option.bind_some, shr30, shr27, shr31, shr32, shr33, shr8, shr16, quoi, quou, quo32, w64u, biti, Int.emod_add_emod, Int.add_emod_emod, List.length_append, if_true, if_false, Bool.false_eq_true, Bool.true_eq_false, not_true_eq_false, not_false_eq_true, reduceCtorEq, Int.add_mul_emod_self_right, Int.natCast_pos, Int.zero_sub, false_and, and_false] at h ⊢
    repeat' first
      | (cases h; done)
      | (cases h; rfl)
      | (cases h; simp only [*]; done)
      | exact (ih0 _ (by omega) _ _ _ _ _ _ _) h
      | (split at h <;> rename_i hc <;> (try simp only [hc, decide_eq_true_eq, bne_iff_ne, beq_iff_eq, ne_eq, Bool.not_eq_true', Bool.not_eq_true, Bool.not_eq_false, w64e, wu32, wu8, gt_iff_lt, ge_iff_le, List.length_cons, List.length_nil, Nat.zero_add, Int.le_refl, true_and, and_true, rdl, rdmap, rdb, esub, n64, n32, List.map_cons, List.map_nil, List.length_map, shrP, beqd, Bool.and_eq_true, Bool.and_true, Bool.or_eq_true, Bool.not_and, decide_eq_false_iff_not, tm2, List.replicate_zero, List.take_length, shr1, shlP, beq_eq_false_iff_ne, List.drop_zero, Int.toNat_natCast, not_lt', decide_true, decide_false, Option.bind_some, shr30, shr27, shr31, shr32, shr33, shr8, shr16, quoi, quou, quo32, w64u, biti, Int.emod_add_emod, Int.add_emod_emod, List.length_append, if_true, if_false, Bool.false_eq_true, Bool.true_eq_false, not_true_eq_false, not_false_eq_true, reduceCtorEq, Int.add_mul_emod_self_right, Int.natCast_pos, Int.zero_sub, false_and, and_false] at h ⊢))
      | (rw [if_pos (by omega)])
      | (rw [if_neg (by omega)])
      | (exfalso; omega)
      | fail

theorem b10_L6 {k : Nat} {x1 x8 x9 x10 x11 s t : Int} {r : Int × Int × Int × Int} (h : P.random_Skip.l0 k x1 x8 x9 x10 x11 s t = some r) : F10_L6 x1 x8 x9 x10 x11 s t 0 0 0 0 = some (((r.1, r.2.1), (r.2.2, ())), ()) := (b10_loops k) k (Nat.le_refl _) _ _ _ _ _ _ _ h

theorem b10 {k : Nat} {a b c : Int} {r : Int × Int × Int × Int} (h : P.random_Skip.f k a b c = some r) : F10 (a, b) c = some (((r.1, r.2.1), (r.2.2, ())), ()) := by
  unfold P.random_Skip.f at h
  rw [F10_eq]
  try simp only [F10_J4_eq, F10_J8_eq, F10_J11_eq, F10_J10_eq, F10_J7_eq]
  try simp only [decide_eq_true_eq, bne_iff_ne, beq_iff_eq, ne_eq, Bool.not_eq_true', Bool.not_eq_true, Bool.not_eq_false, w64e, wu32, wu8, gt_iff_lt, ge_iff_le, List.length_cons, List.length_nil, Nat.zero_add, Int.le_refl, true_and, and_true, rdl, rdmap, rdb, esub, n64, n32, List.map_cons, List.map_nil, List.length_map, shrP, beqd, Bool.and_eq_true, Bool.and_true, Bool.or_eq_true, Bool.not_and, decide_eq_false_iff_not, tm2, List.replicate_zero, List.take_length, shr1, shlP, beq_eq_false_iff_ne, List.drop_zero, Int.toNat_natCast, not_lt', decide_true, decide_false, Option.bind_some, shr30, shr27, shr31, shr32, shr33, shr8, shr16, quoi, quou, quo32, w64u, biti, Int.emod_add_emod, Int.add_emod_emod, List.length_append, if_true, if_false, Bool.false_eq_true, Bool.true_eq_false, not_true_eq_false, not_false_eq_true, reduceCtorEq, Int.add_mul_emod_self_right, Int.natCast_pos, Int.zero_sub, false_and, and_false] at h ⊢
  rcases Classical.em (b % 2 = 0) with ho | ho
  · simp only [ho, if_true, P.random_open_no.f, Option.bind_some] at h
    rw [b39_no ho]
    cases h
    simp
  simp only [ho, if_false, P.random_open_ok.f, Option.bind_some] at h
  rw [b39_ok ho]
  simp only [decide_eq_true_eq, bne_iff_ne, beq_iff_eq, ne_eq, Bool.not_eq_true', Bool.not_eq_true, Bool.not_eq_false, w64e, wu32, wu8, gt_iff_lt, ge_iff_le, List.length_cons, List.length_nil, Nat.zero_add, Int.le_refl, true_and, and_true, rdl, rdmap, rdb, esub, n64, n32, List.map_cons, List.map_nil, List.length_map, shrP, beqd, Bool.and_eq_true, Bool.and_true, Bool.or_eq_true, Bool.not_and, decide_eq_false_iff_not, tm2, List.replicate_zero, List.take_length, shr1, shlP, beq_eq_false_iff_ne, List.drop_zero, Int.toNat_natCast, not_lt', decide_true, decide_false, Option.bind_some, shr30, shr27, shr31, shr32, shr33, shr8, shr16, quoi, quou, quo32, w64u, biti, Int.emod_add_emod, Int.add_emod_emod, List.length_append, if_true, if_false, Bool.false_eq_true, Bool.true_eq_false, not_true_eq_false, not_false_eq_true, reduceCtorEq, Int.add_mul_emod_self_right, Int.natCast_pos, Int.zero_sub, false_and, and_false] at h ⊢
  repeat' first
    | (cases h; done)
    | (cases h; rfl)
    | (cases h; simp only [*]; done)
    | (with_reducible exact b10_L6 h)
    | (split at h <;> rename_i hc <;> (try simp only [hc, decide_eq_true_eq, bne_iff_ne, beq_iff_eq, ne_eq, Bool.not_eq_true', Bool.not_eq_true, Bool.not_eq_false, w64e, wu32, wu8, gt_iff_lt, ge_iff_le, List.length_cons, List.length_nil, Nat.zero_add, Int.le_refl, true_and, and_true, rdl, rdmap, rdb, esub, n64, n32, List.map_cons, List.map_nil, List.length_map, shrP, beqd, Bool.and_eq_true, Bool.and_true, Bool.or_eq_true, Bool.not_and, decide_eq_false_iff_not, tm2, List.replicate_zero, List.take_length, shr1, shlP, beq_eq_false_iff_ne, List.drop_zero, Int.toNat_natCast, not_lt', decide_true, decide_false, Option.bind_some, shr30, shr27, shr31, shr32, shr33, shr8, shr16, quoi, quou, quo32, w64u, biti, Int.emod_add_emod, Int.add_emod_emod, List.length_append, if_true, if_false, Bool.false_eq_true, Bool.true_eq_false, not_true_eq_false, not_false_eq_true, reduceCtorEq, Int.add_mul_emod_self_right, Int.natCast_pos, Int.zero_sub, false_and, and_false] at h ⊢))
    | (rw [if_pos (by omega)])
    | (rw [if_neg (by omega)])
    | (exfalso; omega)
    | fail

theorem b67_loops : ∀ n : Nat, (∀ k, k ≤ n → ∀ (x5 : Int) (x17 : List Int) (x18 x19 : Int) (c : Bool) (b : List Int) {r : Int × Int × Int}, P.integer_Small.l0 k x5 x17 x18 x19 c b = some r → F67_L6 x5 x17 x18 x19 c b 0 0 = some ((r.1, (r.2, ())), ()))
  | 0 => fun k hk x5 x17 x18 x19 c b r h => by
    obtain rfl : k = 0 := by omega
    unfold P.integer_Small.l0 at h; cases h
  | n + 1 => by
    have ih0 := b67_loops n
    intro k hk x5 x17 x18 x19 c b r h
    cases k with
    | zero => unfold P.integer_Small.l0 at h; cases h
    | succ k =>
    unfold P.integer_Small.l0 at h
    rw [F67_L6_eq]
    try simp only [F67_J4_eq, F67_J7_eq, F67_J12_eq, F67_J10_eq, F67_J15_eq, F67_J11_eq, F67_J17_eq]
    try simp only [decide_eq_true_eq, bne_iff_ne, beq_iff_eq, ne_eq, Bool.not_eq_true', Bool.not_eq_true, Bool.not_eq_false, w64e, wu32, wu8, gt_iff_lt, ge_iff_le, List.length_cons, List.length_nil, Nat.zero_add, Int.le_refl, true_and, and_true, rdl, rdmap, rdb, esub, n64, n32, List.map_cons, List.map_nil, List.length_map, shrP, beqd, Bool.and_eq_true, Bool.and_true, Bool.or_eq_true, Bool.not_and, decide_eq_false_iff_not, tm2, List.replicate_zero, List.take_length, shr1, shlP, beq_eq_false_iff_ne, List.drop_zero, Int.toNat_natCast, not_lt', decide_true, decide_false, Option.bind_some, shr30, shr27, shr31, shr32, shr33, shr8, shr16, quoi, quou, quo32, w64u, biti, Int.emod_add_emod, Int.add_emod_emod, List.length_append, if_true, if_false, Bool.false_eq_true, Bool.true_eq_false, not_true_eq_false, not_false_eq_true, reduceCtorEq, Int.add_mul_emod_self_right, Int.natCast_pos, Int.zero_sub, false_and, and_false] at h ⊢
    repeat' first
      | (cases h; done)
      | (cases h; rfl)
      | (cases h; simp only [*]; done)
      | exact (ih0 _ (by omega) _ _ _ _ _ _) h
      | (obtain ⟨t, ht, h⟩ := Option.bind_eq_some_iff.1 h; (first | replace ht := b69 ht); simp only [ht, Option.bind_some])
      | (replace h := b69 h; simp only [h, Option.bind_some]; done)
      | (split at h <;> rename_i hc <;> (try simp only [hc, decide_eq_true_eq, bne_iff_ne, beq_iff_eq, ne_eq, Bool.not_eq_true', Bool.not_eq_true, Bool.not_eq_false, w64e, wu32, wu8, gt_iff_lt, ge_iff_le, List.length_cons, List.length_nil, Nat.zero_add, Int.le_refl, true_and, and_true, rdl, rdmap, rdb, esub, n64, n32, List.map_cons, List.map_nil, List.length_map, shrP, beqd, Bool.and_eq_true, Bool.and_true, Bool.or_eq_true, Bool.not_and, decide_eq_false_iff_not, tm2, List.replicate_zero, List.take_length, shr1, shlP, beq_eq_false_iff_ne, List.drop_zero, Int.toNat_natCast, not_lt', decide_true, decide_false, Option.bind_some, shr30, shr27, shr31, shr32, shr33, shr8, shr16, quoi, quou, quo32, w64u, biti, Int.emod_add_emod, Int.add_emod_emod, List.length_append, if_true, if_false, Bool.false_eq_true, Bool.true_eq_false, not_true_eq_false, not_false_eq_true, reduceCtorEq, Int.add_mul_emod_self_right, Int.natCast_pos, Int.zero_sub, false_and, and_false] at h ⊢))
      | (rw [if_pos (by omega)])
      | (rw [if_neg (by omega)])
      | (exfalso; omega)
      | fail

theorem b67_L6 {k : Nat} {x5 : Int} {x17 : List Int} {x18 x19 : Int} {c : Bool} {b : List Int} {r : Int × Int × Int} (h : P.integer_Small.l0 k x5 x17 x18 x19 c b = some r) : F67_L6 x5 x17 x18 x19 c b 0 0 = some ((r.1, (r.2, ())), ()) := (b67_loops k) k (Nat.le_refl _) _ _ _ _ _ _ h

theorem b67 {k : Nat} {c : Bool} {a : List Int} {r : Int × Int × Int} (h : P.integer_Small.f k c a = some r) : F67 (c, a) = some ((r.1, (r.2, ())), ()) := by
  unfold P.integer_Small.f at h
  rw [F67_eq]
  try simp only [F67_J4_eq, F67_J7_eq, F67_J12_eq, F67_J10_eq, F67_J15_eq, F67_J11_eq, F67_J17_eq]
  try simp only [decide_eq_true_eq, bne_iff_ne, beq_iff_eq, ne_eq, Bool.not_eq_true', Bool.not_eq_true, Bool.not_eq_false, w64e, wu32, wu8, gt_iff_lt, ge_iff_le, List.length_cons, List.length_nil, Nat.zero_add, Int.le_refl, true_and, and_true, rdl, rdmap, rdb, esub, n64, n32, List.map_cons, List.map_nil, List.length_map, shrP, beqd, Bool.and_eq_true, Bool.and_true, Bool.or_eq_true, Bool.not_and, decide_eq_false_iff_not, tm2, List.replicate_zero, List.take_length, shr1, shlP, beq_eq_false_iff_ne, List.drop_zero, Int.toNat_natCast, not_lt', decide_true, decide_false, Option.bind_some, shr30, shr27, shr31, shr32, shr33, shr8, shr16, quoi, quou, quo32, w64u, biti, Int.emod_add_emod, Int.add_emod_emod, List.length_append, if_true, if_false, Bool.false_eq_true, Bool.true_eq_false, not_true_eq_false, not_false_eq_true, reduceCtorEq, Int.add_mul_emod_self_right, Int.natCast_pos, Int.zero_sub, false_and, and_false] at h ⊢
  repeat' first
    | (cases h; done)
    | (cases h; rfl)
    | (cases h; simp only [*]; done)
    | (with_reducible exact b67_L6 h)
    | (obtain ⟨t, ht, h⟩ := Option.bind_eq_some_iff.1 h; (first | replace ht := b62_1 ht); simp only [ht, Option.bind_some])
    | (replace h := b62_1 h; simp only [h, Option.bind_some]; done)
    | (split at h <;> rename_i hc <;> (try simp only [hc, decide_eq_true_eq, bne_iff_ne, beq_iff_eq, ne_eq, Bool.not_eq_true', Bool.not_eq_true, Bool.not_eq_false, w64e, wu32, wu8, gt_iff_lt, ge_iff_le, List.length_cons, List.length_nil, Nat.zero_add, Int.le_refl, true_and, and_true, rdl, rdmap, rdb, esub, n64, n32, List.map_cons, List.map_nil, List.length_map, shrP, beqd, Bool.and_eq_true, Bool.and_true, Bool.or_eq_true, Bool.not_and, decide_eq_false_iff_not, tm2, List.replicate_zero, List.take_length, shr1, shlP, beq_eq_false_iff_ne, List.drop_zero, Int.toNat_natCast, not_lt', decide_true, decide_false, Option.bind_some, shr30, shr27, shr31, shr32, shr33, shr8, shr16, quoi, quou, quo32, w64u, biti, Int.emod_add_emod, Int.add_emod_emod, List.length_append, if_true, if_false, Bool.false_eq_true, Bool.true_eq_false, not_true_eq_false, not_false_eq_true, reduceCtorEq, Int.add_mul_emod_self_right, Int.natCast_pos, Int.zero_sub, false_and, and_false] at h ⊢))
    | (rw [if_pos (by omega)])
    | (rw [if_neg (by omega)])
    | (exfalso; omega)
    | fail

theorem b56 {k : Nat} {s t a : Int} {r : Int × Int × Int} (h : P.random_source_small.f k s t a = some r) : F56 (s, t) a = some ((r.1, ()), (r.2, ())) := by
  unfold P.random_source_small.f at h
  rw [F56_eq]
  try simp only [decide_eq_true_eq, bne_iff_ne, beq_iff_eq, ne_eq, Bool.not_eq_true', Bool.not_eq_true, Bool.not_eq_false, w64e, wu32, wu8, gt_iff_lt, ge_iff_le, List.length_cons, List.length_nil, Nat.zero_add, Int.le_refl, true_and, and_true, rdl, rdmap, rdb, esub, n64, n32, List.map_cons, List.map_nil, List.length_map, shrP, beqd, Bool.and_eq_true, Bool.and_true, Bool.or_eq_true, Bool.not_and, decide_eq_false_iff_not, tm2, List.replicate_zero, List.take_length, shr1, shlP, beq_eq_false_iff_ne, List.drop_zero, Int.toNat_natCast, not_lt', decide_true, decide_false, Option.bind_some, shr30, shr27, shr31, shr32, shr33, shr8, shr16, quoi, quou, quo32, w64u, biti, Int.emod_add_emod, Int.add_emod_emod, List.length_append, if_true, if_false, Bool.false_eq_true, Bool.true_eq_false, not_true_eq_false, not_false_eq_true, reduceCtorEq, Int.add_mul_emod_self_right, Int.natCast_pos, Int.zero_sub, false_and, and_false] at h ⊢
  repeat' first
    | (cases h; done)
    | (cases h; rfl)
    | (cases h; simp only [*]; done)
    | (obtain ⟨t, ht, h⟩ := Option.bind_eq_some_iff.1 h; (first | replace ht := b47 ht | replace ht := b43 ht | replace ht := b67 ht); simp only [ht, Option.bind_some])
    | (replace h := b47 h; simp only [h, Option.bind_some]; done)
    | (replace h := b43 h; simp only [h, Option.bind_some]; done)
    | (replace h := b67 h; simp only [h, Option.bind_some]; done)
    | (split at h <;> rename_i hc <;> (try simp only [hc, decide_eq_true_eq, bne_iff_ne, beq_iff_eq, ne_eq, Bool.not_eq_true', Bool.not_eq_true, Bool.not_eq_false, w64e, wu32, wu8, gt_iff_lt, ge_iff_le, List.length_cons, List.length_nil, Nat.zero_add, Int.le_refl, true_and, and_true, rdl, rdmap, rdb, esub, n64, n32, List.map_cons, List.map_nil, List.length_map, shrP, beqd, Bool.and_eq_true, Bool.and_true, Bool.or_eq_true, Bool.not_and, decide_eq_false_iff_not, tm2, List.replicate_zero, List.take_length, shr1, shlP, beq_eq_false_iff_ne, List.drop_zero, Int.toNat_natCast, not_lt', decide_true, decide_false, Option.bind_some, shr30, shr27, shr31, shr32, shr33, shr8, shr16, quoi, quou, quo32, w64u, biti, Int.emod_add_emod, Int.add_emod_emod, List.length_append, if_true, if_false, Bool.false_eq_true, Bool.true_eq_false, not_true_eq_false, not_false_eq_true, reduceCtorEq, Int.add_mul_emod_self_right, Int.natCast_pos, Int.zero_sub, false_and, and_false] at h ⊢))
    | (rw [if_pos (by omega)])
    | (rw [if_neg (by omega)])
    | (exfalso; omega)
    | fail

theorem b31_loops : ∀ n : Nat, (∀ k, k ≤ n → ∀ (x1 : List Int) (x9 : Int) (x29 : List Int) (x30 x31 s t : Int) {r : Int × Int × Int × Int × Int}, P.random_Choose.l0 k x1 x9 x29 x30 x31 s t = some r → F31_L8_1 x1 x9 x29 x30 x31 0 0 0 0 s t = some ((r.1, ((r.2.1, r.2.2.1), (r.2.2.2, ()))), ())) ∧ (∀ k, k ≤ n → ∀ (x1 : List Int) (x12 x13 s t : Int) {r : Int × Int × Int × Int × Int}, P.random_Choose.l1 k x1 x12 x13 s t = some r → F31_L18 x1 x12 x13 0 0 0 0 s t = some ((r.1, ((r.2.1, r.2.2.1), (r.2.2.2, ()))), ()))
  | 0 => ⟨(fun k hk x1 x9 x29 x30 x31 s t r h => by
    obtain rfl : k = 0 := by omega
    unfold P.random_Choose.l0 at h; cases h), (fun k hk x1 x12 x13 s t r h => by
    obtain rfl : k = 0 := by omega
    unfold P.random_Choose.l1 at h; cases h)⟩
  | n + 1 => by
    obtain ⟨ih0, ih1⟩ := b31_loops n
    refine ⟨?_, ?_⟩
    · intro k hk x1 x9 x29 x30 x31 s t r h
      cases k with
      | zero => unfold P.random_Choose.l0 at h; cases h
      | succ k =>
      unfold P.random_Choose.l0 at h
      rw [F31_L8_1_eq]
      try simp only [F31_J4_eq, F31_J4_1_eq, F31_J6_eq, F31_J6_1_eq, F31_J9_eq, F31_J14_eq, F31_J9_1_eq, F31_J14_1_eq, F31_J12_eq, F31_J16_eq, F31_J12_1_eq, F31_J16_1_eq, F31_J13_eq, F31_J13_1_eq, F31_J19_eq, F31_J21_eq]
      try simp only [decide_eq_true_eq, bne_iff_ne, beq_iff_eq, ne_eq, Bool.not_eq_true', Bool.not_eq_true, Bool.not_eq_false, w64e, wu32, wu8, gt_iff_lt, ge_iff_le, List.length_cons, List.length_nil, Nat.zero_add, Int.le_refl, true_and, and_true, rdl, rdmap, rdb, esub, n64, n32, List.map_cons, List.map_nil, List.length_map, shrP, beqd, Bool.and_eq_true, Bool.and_true, Bool.or_eq_true, Bool.not_and, decide_eq_false_iff_not, tm2, List.replicate_zero, List.take_length, shr1, shlP, beq_eq_false_iff_ne, List.drop_zero, Int.toNat_natCast, not_lt', decide_true, decide_false, Option.bind_some, shr30, shr27, shr31, shr32, shr33, shr8, shr16, quoi, quou, quo32, w64u, biti, Int.emod_add_emod, Int.add_emod_emod, List.length_append, if_true, if_false, Bool.false_eq_true, Bool.true_eq_false, not_true_eq_false, not_false_eq_true, reduceCtorEq, Int.add_mul_emod_self_right, Int.natCast_pos, Int.zero_sub, false_and, and_false] at h ⊢
      repeat' first
        | (cases h; done)
        | (cases h; rfl)
        | (cases h; simp only [*]; done)
        | exact (ih0 _ (by omega) _ _ _ _ _ _ _) h
        | exact (ih1 _ (by omega) _ _ _ _ _) h
        | (obtain ⟨t, ht, h⟩ := Option.bind_eq_some_iff.1 h; (first | replace ht := b37 ht | replace ht := b56 ht); simp only [ht, Option.bind_some])
        | (replace h := b37 h; simp only [h, Option.bind_some]; done)
        | (replace h := b56 h; simp only [h, Option.bind_some]; done)
        | (split at h <;> rename_i hc <;> (try simp only [hc, decide_eq_true_eq, bne_iff_ne, beq_iff_eq, ne_eq, Bool.not_eq_true', Bool.not_eq_true, Bool.not_eq_false, w64e, wu32, wu8, gt_iff_lt, ge_iff_le, List.length_cons, List.length_nil, Nat.zero_add, Int.le_refl, true_and, and_true, rdl, rdmap, rdb, esub, n64, n32, List.map_cons, List.map_nil, List.length_map, shrP, beqd, Bool.and_eq_true, Bool.and_true, Bool.or_eq_true, Bool.not_and, decide_eq_false_iff_not, tm2, List.replicate_zero, List.take_length, shr1, shlP, beq_eq_false_iff_ne, List.drop_zero, Int.toNat_natCast, not_lt', decide_true, decide_false, Option.bind_some, shr30, shr27, shr31, shr32, shr33, shr8, shr16, quoi, quou, quo32, w64u, biti, Int.emod_add_emod, Int.add_emod_emod, List.length_append, if_true, if_false, Bool.false_eq_true, Bool.true_eq_false, not_true_eq_false, not_false_eq_true, reduceCtorEq, Int.add_mul_emod_self_right, Int.natCast_pos, Int.zero_sub, false_and, and_false] at h ⊢))
        | (rw [if_pos (by omega)])
        | (rw [if_neg (by omega)])
        | (exfalso; omega)
        | fail
    · intro k hk x1 x12 x13 s t r h
      cases k with
      | zero => unfold P.random_Choose.l1 at h; cases h
      | succ k =>
      unfold P.random_Choose.l1 at h
      rw [F31_L18_eq]
      try simp only [F31_J4_eq, F31_J4_1_eq, F31_J6_eq, F31_J6_1_eq, F31_J9_eq, F31_J14_eq, F31_J9_1_eq, F31_J14_1_eq, F31_J12_eq, F31_J16_eq, F31_J12_1_eq, F31_J16_1_eq, F31_J13_eq, F31_J13_1_eq, F31_J19_eq, F31_J21_eq]
      try simp only [decide_eq_true_eq, bne_iff_ne, beq_iff_eq, ne_eq, Bool.not_eq_true', Bool.not_eq_true, Bool.not_eq_false, w64e, wu32, wu8, gt_iff_lt, ge_iff_le, List.length_cons, List.length_nil, Nat.zero_add, Int.le_refl, true_and, and_true, rdl, rdmap, rdb, esub, n64, n32, List.map_cons, List.map_nil, List.length_map, shrP, beqd, Bool.and_eq_true, Bool.and_true, Bool.or_eq_true, Bool.not_and, decide_eq_false_iff_not, tm2, List.replicate_zero, List.take_length, shr1, shlP, beq_eq_false_iff_ne, List.drop_zero, Int.toNat_natCast, not_lt', decide_true, decide_false, Option.bind_some, shr30, shr27, shr31, shr32, shr33, shr8, shr16, quoi, quou, quo32, w64u, biti, Int.emod_add_emod, Int.add_emod_emod, List.length_append, if_true, if_false, Bool.false_eq_true, Bool.true_eq_false, not_true_eq_false, not_false_eq_true, reduceCtorEq, Int.add_mul_emod_self_right, Int.natCast_pos, Int.zero_sub, false_and, and_false] at h ⊢
      repeat' first
        | (cases h; done)
        | (cases h; rfl)
        | (cases h; simp only [*]; done)
        | exact (ih0 _ (by omega) _ _ _ _ _ _ _) h
        | exact (ih1 _ (by omega) _ _ _ _ _) h
        | (obtain ⟨t, ht, h⟩ := Option.bind_eq_some_iff.1 h; (first | replace ht := b37 ht | replace ht := b56 ht); simp only [ht, Option.bind_some])
        | (replace h := b37 h; simp only [h, Option.bind_some]; done)
        | (replace h := b56 h; simp only [h, Option.bind_some]; done)
        | (split at h <;> rename_i hc <;> (try simp only [hc, decide_eq_true_eq, bne_iff_ne, beq_iff_eq, ne_eq, Bool.not_eq_true', Bool.not_eq_true, Bool.not_eq_false, w64e, wu32, wu8, gt_iff_lt, ge_iff_le, List.length_cons, List.length_nil, Nat.zero_add, Int.le_refl, true_and, and_true, rdl, rdmap, rdb, esub, n64, n32, List.map_cons, List.map_nil, List.length_map, shrP, beqd, Bool.and_eq_true, Bool.and_true, Bool.or_eq_true, Bool.not_and, decide_eq_false_iff_not, tm2, List.replicate_zero, List.take_length, shr1, shlP, beq_eq_false_iff_ne, List.drop_zero, Int.toNat_natCast, not_lt', decide_true, decide_false, Option.bind_some, shr30, shr27, shr31, shr32, shr33, shr8, shr16, quoi, quou, quo32, w64u, biti, Int.emod_add_emod, Int.add_emod_emod, List.length_append, if_true, if_false, Bool.false_eq_true, Bool.true_eq_false, not_true_eq_false, not_false_eq_true, reduceCtorEq, Int.add_mul_emod_self_right, Int.natCast_pos, Int.zero_sub, false_and, and_false] at h ⊢))
        | (rw [if_pos (by omega)])
        | (rw [if_neg (by omega)])
        | (exfalso; omega)
        | fail

theorem b31_L8_1 {k : Nat} {x1 : List Int} {x9 : Int} {x29 : List Int} {x30 x31 s t : Int} {r : Int × Int × Int × Int × Int} (h : P.random_Choose.l0 k x1 x9 x29 x30 x31 s t = some r) : F31_L8_1 x1 x9 x29 x30 x31 0 0 0 0 s t = some ((r.1, ((r.2.1, r.2.2.1), (r.2.2.2, ()))), ()) := (b31_loops k).1 k (Nat.le_refl _) _ _ _ _ _ _ _ h

theorem b31_L18 {k : Nat} {x1 : List Int} {x12 x13 s t : Int} {r : Int × Int × Int × Int × Int} (h : P.random_Choose.l1 k x1 x12 x13 s t = some r) : F31_L18 x1 x12 x13 0 0 0 0 s t = some ((r.1, ((r.2.1, r.2.2.1), (r.2.2.2, ()))), ()) := (b31_loops k).2 k (Nat.le_refl _) _ _ _ _ _ h

theorem b31 {k : Nat} {a b : Int} {l : List Int} {r : Int × Int × Int × Int × Int} (h : P.random_Choose.f k a b l = some r) : F31 (a, b) l = some ((r.1, ((r.2.1, r.2.2.1), (r.2.2.2, ()))), ()) := by
  unfold P.random_Choose.f at h
  rw [F31_eq]
  try simp only [F31_J4_eq, F31_J4_1_eq, F31_J6_eq, F31_J6_1_eq, F31_J9_eq, F31_J14_eq, F31_J9_1_eq, F31_J14_1_eq, F31_J12_eq, F31_J16_eq, F31_J12_1_eq, F31_J16_1_eq, F31_J13_eq, F31_J13_1_eq, F31_J19_eq, F31_J21_eq]
  try simp only [decide_eq_true_eq, bne_iff_ne, beq_iff_eq, ne_eq, Bool.not_eq_true', Bool.not_eq_true, Bool.not_eq_false, w64e, wu32, wu8, gt_iff_lt, ge_iff_le, List.length_cons, List.length_nil, Nat.zero_add, Int.le_refl, true_and, and_true, rdl, rdmap, rdb, esub, n64, n32, List.map_cons, List.map_nil, List.length_map, shrP, beqd, Bool.and_eq_true, Bool.and_true, Bool.or_eq_true, Bool.not_and, decide_eq_false_iff_not, tm2, List.replicate_zero, List.take_length, shr1, shlP, beq_eq_false_iff_ne, List.drop_zero, Int.toNat_natCast, not_lt', decide_true, decide_false, Option.bind_some, shr30, shr27, shr31, shr32, shr33, shr8, shr16, quoi, quou, quo32, w64u, biti, Int.emod_add_emod, Int.add_emod_emod, List.length_append, if_true, if_false, Bool.false_eq_true, Bool.true_eq_false, not_true_eq_false, not_false_eq_true, reduceCtorEq, Int.add_mul_emod_self_right, Int.natCast_pos, Int.zero_sub, false_and, and_false] at h ⊢
  rcases Classical.em (b % 2 = 0) with ho | ho
  · simp only [ho, if_true, P.random_open_no.f, Option.bind_some] at h
    rw [b39_no ho]
    cases h
    simp
  simp only [ho, if_false, P.random_open_ok.f, Option.bind_some] at h
  rw [b39_ok ho]
  simp only [decide_eq_true_eq, bne_iff_ne, beq_iff_eq, ne_eq, Bool.not_eq_true', Bool.not_eq_true, Bool.not_eq_false, w64e, wu32, wu8, gt_iff_lt, ge_iff_le, List.length_cons, List.length_nil, Nat.zero_add, Int.le_refl, true_and, and_true, rdl, rdmap, rdb, esub, n64, n32, List.map_cons, List.map_nil, List.length_map, shrP, beqd, Bool.and_eq_true, Bool.and_true, Bool.or_eq_true, Bool.not_and, decide_eq_false_iff_not, tm2, List.replicate_zero, List.take_length, shr1, shlP, beq_eq_false_iff_ne, List.drop_zero, Int.toNat_natCast, not_lt', decide_true, decide_false, Option.bind_some, shr30, shr27, shr31, shr32, shr33, shr8, shr16, quoi, quou, quo32, w64u, biti, Int.emod_add_emod, Int.add_emod_emod, List.length_append, if_true, if_false, Bool.false_eq_true, Bool.true_eq_false, not_true_eq_false, not_false_eq_true, reduceCtorEq, Int.add_mul_emod_self_right, Int.natCast_pos, Int.zero_sub, false_and, and_false] at h ⊢
  repeat' first
    | (cases h; done)
    | (cases h; rfl)
    | (cases h; simp only [*]; done)
    | (with_reducible exact b31_L8_1 h)
    | (obtain ⟨t, ht, h⟩ := Option.bind_eq_some_iff.1 h; (first | replace ht := b37 ht); simp only [ht, Option.bind_some])
    | (replace h := b37 h; simp only [h, Option.bind_some]; done)
    | (split at h <;> rename_i hc <;> (try simp only [hc, decide_eq_true_eq, bne_iff_ne, beq_iff_eq, ne_eq, Bool.not_eq_true', Bool.not_eq_true, Bool.not_eq_false, w64e, wu32, wu8, gt_iff_lt, ge_iff_le, List.length_cons, List.length_nil, Nat.zero_add, Int.le_refl, true_and, and_true, rdl, rdmap, rdb, esub, n64, n32, List.map_cons, List.map_nil, List.length_map, shrP, beqd, Bool.and_eq_true, Bool.and_true, Bool.or_eq_true, Bool.not_and, decide_eq_false_iff_not, tm2, List.replicate_zero, List.take_length, shr1, shlP, beq_eq_false_iff_ne, List.drop_zero, Int.toNat_natCast, not_lt', decide_true, decide_false, Option.bind_some, shr30, shr27, shr31, shr32, shr33, shr8, shr16, quoi, quou, quo32, w64u, biti, Int.emod_add_emod, Int.add_emod_emod, List.length_append, if_true, if_false, Bool.false_eq_true, Bool.true_eq_false, not_true_eq_false, not_false_eq_true, reduceCtorEq, Int.add_mul_emod_self_right, Int.natCast_pos, Int.zero_sub, false_and, and_false] at h ⊢))
    | (rw [if_pos (by omega)])
    | (rw [if_neg (by omega)])
    | (exfalso; omega)
    | fail

theorem b58_loops : ∀ n : Nat, (∀ k, k ≤ n → ∀ (x0 : Int) (x3 : List Int) {r : List Int}, P.brindlewoodref3_Small.l0 k x0 x3 = some r → F58_L2 x0 x3 = some ((r, ()), ()))
  | 0 => fun k hk x0 x3 r h => by
    obtain rfl : k = 0 := by omega
    unfold P.brindlewoodref3_Small.l0 at h; cases h
  | n + 1 => by
    have ih0 := b58_loops n
    intro k hk x0 x3 r h
    cases k with
    | zero => unfold P.brindlewoodref3_Small.l0 at h; cases h
    | succ k =>
    unfold P.brindlewoodref3_Small.l0 at h
    rw [F58_L2_eq]
    try simp only [F58_J4_eq, F58_J5_eq]
    try simp only [decide_eq_true_eq, bne_iff_ne, beq_iff_eq, ne_eq, Bool.not_eq_true', Bool.not_eq_true, Bool.not_eq_false, w64e, wu32, wu8, gt_iff_lt, ge_iff_le, List.length_cons, List.length_nil, Nat.zero_add, Int.le_refl, true_and, and_true, rdl, rdmap, rdb, esub, n64, n32, List.map_cons, List.map_nil, List.length_map, shrP, beqd, Bool.and_eq_true, Bool.and_true, Bool.or_eq_true, Bool.not_and, decide_eq_false_iff_not, tm2, List.replicate_zero, List.take_length, shr1, shlP, beq_eq_false_iff_ne, List.drop_zero, Int.toNat_natCast, not_lt', decide_true, decide_false, Option.bind_some, shr30, shr27, shr31, shr32, shr33, shr8, shr16, quoi, quou, quo32, w64u, biti, Int.emod_add_emod, Int.add_emod_emod, List.length_append, if_true, if_false, Bool.false_eq_true, Bool.true_eq_false, not_true_eq_false, not_false_eq_true, reduceCtorEq, Int.add_mul_emod_self_right, Int.natCast_pos, Int.zero_sub, false_and, and_false] at h ⊢
    repeat' first
      | (cases h; done)
      | (cases h; rfl)
      | (cases h; simp only [*]; done)
      | exact (ih0 _ (by omega) _ _) h
      | (split at h <;> rename_i hc <;> (try simp only [hc, decide_eq_true_eq, bne_iff_ne, beq_iff_eq, ne_eq, Bool.not_eq_true', Bool.not_eq_true, Bool.not_eq_false, w64e, wu32, wu8, gt_iff_lt, ge_iff_le, List.length_cons, List.length_nil, Nat.zero_add, Int.le_refl, true_and, and_true, rdl, rdmap, rdb, esub, n64, n32, List.map_cons, List.map_nil, List.length_map, shrP, beqd, Bool.and_eq_true, Bool.and_true, Bool.or_eq_true, Bool.not_and, decide_eq_false_iff_not, tm2, List.replicate_zero, List.take_length, shr1, shlP, beq_eq_false_iff_ne, List.drop_zero, Int.toNat_natCast, not_lt', decide_true, decide_false, Option.bind_some, shr30, shr27, shr31, shr32, shr33, shr8, shr16, quoi, quou, quo32, w64u, biti, Int.emod_add_emod, Int.add_emod_emod, List.length_append, if_true, if_false, Bool.false_eq_true, Bool.true_eq_false, not_true_eq_false, not_false_eq_true, reduceCtorEq, Int.add_mul_emod_self_right, Int.natCast_pos, Int.zero_sub, false_and, and_false] at h ⊢))
      | (rw [if_pos (by omega)])
      | (rw [if_neg (by omega)])
      | (exfalso; omega)
      | fail

theorem b58_L2 {k : Nat} {x0 : Int} {x3 : List Int} {r : List Int} (h : P.brindlewoodref3_Small.l0 k x0 x3 = some r) : F58_L2 x0 x3 = some ((r, ()), ()) := (b58_loops k) k (Nat.le_refl _) _ _ h

theorem b58 {k : Nat} {a : Int} {r : List Int} (h : P.brindlewoodref3_Small.f k a = some r) : F58 a = some ((r, ()), ()) := by
  unfold P.brindlewoodref3_Small.f at h
  rw [F58_eq]
  try simp only [F58_J4_eq, F58_J5_eq]
  try simp only [decide_eq_true_eq, bne_iff_ne, beq_iff_eq, ne_eq, Bool.not_eq_true', Bool.not_eq_true, Bool.not_eq_false, w64e, wu32, wu8, gt_iff_lt, ge_iff_le, List.length_cons, List.length_nil, Nat.zero_add, Int.le_refl, true_and, and_true, rdl, rdmap, rdb, esub, n64, n32, List.map_cons, List.map_nil, List.length_map, shrP, beqd, Bool.and_eq_true, Bool.and_true, Bool.or_eq_true, Bool.not_and, decide_eq_false_iff_not, tm2, List.replicate_zero, List.take_length, shr1, shlP, beq_eq_false_iff_ne, List.drop_zero, Int.toNat_natCast, not_lt', decide_true, decide_false, Option.bind_some, shr30, shr27, shr31, shr32, shr33, shr8, shr16, quoi, quou, quo32, w64u, biti, Int.emod_add_emod, Int.add_emod_emod, List.length_append, if_true, if_false, Bool.false_eq_true, Bool.true_eq_false, not_true_eq_false, not_false_eq_true, reduceCtorEq, Int.add_mul_emod_self_right, Int.natCast_pos, Int.zero_sub, false_and, and_false] at h ⊢
  repeat' first
    | (cases h; done)
    | (cases h; rfl)
    | (cases h; simp only [*]; done)
    | (with_reducible exact b58_L2 h)
    | (split at h <;> rename_i hc <;> (try simp only [hc, decide_eq_true_eq, bne_iff_ne, beq_iff_eq, ne_eq, Bool.not_eq_true', Bool.not_eq_true, Bool.not_eq_false, w64e, wu32, wu8, gt_iff_lt, ge_iff_le, List.length_cons, List.length_nil, Nat.zero_add, Int.le_refl, true_and, and_true, rdl, rdmap, rdb, esub, n64, n32, List.map_cons, List.map_nil, List.length_map, shrP, beqd, Bool.and_eq_true, Bool.and_true, Bool.or_eq_true, Bool.not_and, decide_eq_false_iff_not, tm2, List.replicate_zero, List.take_length, shr1, shlP, beq_eq_false_iff_ne, List.drop_zero, Int.toNat_natCast, not_lt', decide_true, decide_false, Option.bind_some, shr30, shr27, shr31, shr32, shr33, shr8, shr16, quoi, quou, quo32, w64u, biti, Int.emod_add_emod, Int.add_emod_emod, List.length_append, if_true, if_false, Bool.false_eq_true, Bool.true_eq_false, not_true_eq_false, not_false_eq_true, reduceCtorEq, Int.add_mul_emod_self_right, Int.natCast_pos, Int.zero_sub, false_and, and_false] at h ⊢))
    | (rw [if_pos (by omega)])
    | (rw [if_neg (by omega)])
    | (exfalso; omega)
    | fail

theorem b57 {k : Nat} {l : List Int} {a : Int} {r : List Int} (h : P.brindlewoodref3_Moved.f k l a = some r) : F57 l a = some ((r, ()), ()) := by
  unfold P.brindlewoodref3_Moved.f at h
  rw [F57_eq]
  try simp only [F57_J6_eq]
  try simp only [decide_eq_true_eq, bne_iff_ne, beq_iff_eq, ne_eq, Bool.not_eq_true', Bool.not_eq_true, Bool.not_eq_false, w64e, wu32, wu8, gt_iff_lt, ge_iff_le, List.length_cons, List.length_nil, Nat.zero_add, Int.le_refl, true_and, and_true, rdl, rdmap, rdb, esub, n64, n32, List.map_cons, List.map_nil, List.length_map, shrP, beqd, Bool.and_eq_true, Bool.and_true, Bool.or_eq_true, Bool.not_and, decide_eq_false_iff_not, tm2, List.replicate_zero, List.take_length, shr1, shlP, beq_eq_false_iff_ne, List.drop_zero, Int.toNat_natCast, not_lt', decide_true, decide_false, Option.bind_some, shr30, shr27, shr31, shr32, shr33, shr8, shr16, quoi, quou, quo32, w64u, biti, Int.emod_add_emod, Int.add_emod_emod, List.length_append, if_true, if_false, Bool.false_eq_true, Bool.true_eq_false, not_true_eq_false, not_false_eq_true, reduceCtorEq, Int.add_mul_emod_self_right, Int.natCast_pos, Int.zero_sub, false_and, and_false] at h ⊢
  repeat' first
    | (cases h; done)
    | (cases h; rfl)
    | (cases h; simp only [*]; done)
    | (obtain ⟨t, ht, h⟩ := Option.bind_eq_some_iff.1 h; (first | replace ht := b48 ht | replace ht := b49 ht); simp only [ht, Option.bind_some])
    | (replace h := b48 h; simp only [h, Option.bind_some]; done)
    | (replace h := b49 h; simp only [h, Option.bind_some]; done)
    | (split at h <;> rename_i hc <;> (try simp only [hc, decide_eq_true_eq, bne_iff_ne, beq_iff_eq, ne_eq, Bool.not_eq_true', Bool.not_eq_true, Bool.not_eq_false, w64e, wu32, wu8, gt_iff_lt, ge_iff_le, List.length_cons, List.length_nil, Nat.zero_add, Int.le_refl, true_and, and_true, rdl, rdmap, rdb, esub, n64, n32, List.map_cons, List.map_nil, List.length_map, shrP, beqd, Bool.and_eq_true, Bool.and_true, Bool.or_eq_true, Bool.not_and, decide_eq_false_iff_not, tm2, List.replicate_zero, List.take_length, shr1, shlP, beq_eq_false_iff_ne, List.drop_zero, Int.toNat_natCast, not_lt', decide_true, decide_false, Option.bind_some, shr30, shr27, shr31, shr32, shr33, shr8, shr16, quoi, quou, quo32, w64u, biti, Int.emod_add_emod, Int.add_emod_emod, List.length_append, if_true, if_false, Bool.false_eq_true, Bool.true_eq_false, not_true_eq_false, not_false_eq_true, reduceCtorEq, Int.add_mul_emod_self_right, Int.natCast_pos, Int.zero_sub, false_and, and_false] at h ⊢))
    | (rw [if_pos (by omega)])
    | (rw [if_neg (by omega)])
    | (unfold P.brindlewoodref3_Moved.j0 at h; (try simp only [decide_eq_true_eq, bne_iff_ne, beq_iff_eq, ne_eq, Bool.not_eq_true', Bool.not_eq_true, Bool.not_eq_false, w64e, wu32, wu8, gt_iff_lt, ge_iff_le, List.length_cons, List.length_nil, Nat.zero_add, Int.le_refl, true_and, and_true, rdl, rdmap, rdb, esub, n64, n32, List.map_cons, List.map_nil, List.length_map, shrP, beqd, Bool.and_eq_true, Bool.and_true, Bool.or_eq_true, Bool.not_and, decide_eq_false_iff_not, tm2, List.replicate_zero, List.take_length, shr1, shlP, beq_eq_false_iff_ne, List.drop_zero, Int.toNat_natCast, not_lt', decide_true, decide_false, Option.bind_some, shr30, shr27, shr31, shr32, shr33, shr8, shr16, quoi, quou, quo32, w64u, biti, Int.emod_add_emod, Int.add_emod_emod, List.length_append, if_true, if_false, Bool.false_eq_true, Bool.true_eq_false, not_true_eq_false, not_false_eq_true, reduceCtorEq, Int.add_mul_emod_self_right, Int.natCast_pos, Int.zero_sub, false_and, and_false] at h))
    | (exfalso; omega)
    | fail

theorem b33 {k : Nat} {c : Bool} {l : List Int} {a : Int} {r : Bool × List Int} (h : P.brindlewoodref3_Int_Moved.f k c l a = some r) : F33 (c, l) a = some ((r, ()), ()) := by
  unfold P.brindlewoodref3_Int_Moved.f at h
  rw [F33_eq]
  try simp only [F33_J3_eq]
  try simp only [decide_eq_true_eq, bne_iff_ne, beq_iff_eq, ne_eq, Bool.not_eq_true', Bool.not_eq_true, Bool.not_eq_false, w64e, wu32, wu8, gt_iff_lt, ge_iff_le, List.length_cons, List.length_nil, Nat.zero_add, Int.le_refl, true_and, and_true, rdl, rdmap, rdb, esub, n64, n32, List.map_cons, List.map_nil, List.length_map, shrP, beqd, Bool.and_eq_true, Bool.and_true, Bool.or_eq_true, Bool.not_and, decide_eq_false_iff_not, tm2, List.replicate_zero, List.take_length, shr1, shlP, beq_eq_false_iff_ne, List.drop_zero, Int.toNat_natCast, not_lt', decide_true, decide_false, Option.bind_some, shr30, shr27, shr31, shr32, shr33, shr8, shr16, quoi, quou, quo32, w64u, biti, Int.emod_add_emod, Int.add_emod_emod, List.length_append, if_true, if_false, Bool.false_eq_true, Bool.true_eq_false, not_true_eq_false, not_false_eq_true, reduceCtorEq, Int.add_mul_emod_self_right, Int.natCast_pos, Int.zero_sub, false_and, and_false] at h ⊢
  cases c <;> rcases Classical.em (0 ≤ a) with ha | ha <;> simp only [ha, decide_eq_true_eq, bne_iff_ne, beq_iff_eq, ne_eq, Bool.not_eq_true', Bool.not_eq_true, Bool.not_eq_false, w64e, wu32, wu8, gt_iff_lt, ge_iff_le, List.length_cons, List.length_nil, Nat.zero_add, Int.le_refl, true_and, and_true, rdl, rdmap, rdb, esub, n64, n32, List.map_cons, List.map_nil, List.length_map, shrP, beqd, Bool.and_eq_true, Bool.and_true, Bool.or_eq_true, Bool.not_and, decide_eq_false_iff_not, tm2, List.replicate_zero, List.take_length, shr1, shlP, beq_eq_false_iff_ne, List.drop_zero, Int.toNat_natCast, not_lt', decide_true, decide_false, Option.bind_some, shr30, shr27, shr31, shr32, shr33, shr8, shr16, quoi, quou, quo32, w64u, biti, Int.emod_add_emod, Int.add_emod_emod, List.length_append, if_true, if_false, Bool.false_eq_true, Bool.true_eq_false, not_true_eq_false, not_false_eq_true, reduceCtorEq, Int.add_mul_emod_self_right, Int.natCast_pos, Int.zero_sub, false_and, and_false] at h ⊢
  repeat' first
    | (cases h; done)
    | (cases h; rfl)
    | (cases h; simp only [*]; done)
    | (obtain ⟨t, ht, h⟩ := Option.bind_eq_some_iff.1 h; (try simp only [ht, Option.bind_some] at h); (first | replace ht := b57 ht | replace ht := b58 ht | replace ht := b54 ht | replace ht := b53 ht); simp only [ht, Option.bind_some])
    | (replace h := b57 h; simp only [h, Option.bind_some]; done)
    | (replace h := b58 h; simp only [h, Option.bind_some]; done)
    | (replace h := b54 h; simp only [h, Option.bind_some]; done)
    | (replace h := b53 h; simp only [h, Option.bind_some]; done)
    | (split at h <;> rename_i hc <;> (try simp only [hc, decide_eq_true_eq, bne_iff_ne, beq_iff_eq, ne_eq, Bool.not_eq_true', Bool.not_eq_true, Bool.not_eq_false, w64e, wu32, wu8, gt_iff_lt, ge_iff_le, List.length_cons, List.length_nil, Nat.zero_add, Int.le_refl, true_and, and_true, rdl, rdmap, rdb, esub, n64, n32, List.map_cons, List.map_nil, List.length_map, shrP, beqd, Bool.and_eq_true, Bool.and_true, Bool.or_eq_true, Bool.not_and, decide_eq_false_iff_not, tm2, List.replicate_zero, List.take_length, shr1, shlP, beq_eq_false_iff_ne, List.drop_zero, Int.toNat_natCast, not_lt', decide_true, decide_false, Option.bind_some, shr30, shr27, shr31, shr32, shr33, shr8, shr16, quoi, quou, quo32, w64u, biti, Int.emod_add_emod, Int.add_emod_emod, List.length_append, if_true, if_false, Bool.false_eq_true, Bool.true_eq_false, not_true_eq_false, not_false_eq_true, reduceCtorEq, Int.add_mul_emod_self_right, Int.natCast_pos, Int.zero_sub, false_and, and_false] at h ⊢))
    | (rw [if_pos (by omega)])
    | (rw [if_neg (by omega)])
    | (unfold P.brindlewoodref3_Int_Moved.j0 at h; (try simp only [decide_eq_true_eq, bne_iff_ne, beq_iff_eq, ne_eq, Bool.not_eq_true', Bool.not_eq_true, Bool.not_eq_false, w64e, wu32, wu8, gt_iff_lt, ge_iff_le, List.length_cons, List.length_nil, Nat.zero_add, Int.le_refl, true_and, and_true, rdl, rdmap, rdb, esub, n64, n32, List.map_cons, List.map_nil, List.length_map, shrP, beqd, Bool.and_eq_true, Bool.and_true, Bool.or_eq_true, Bool.not_and, decide_eq_false_iff_not, tm2, List.replicate_zero, List.take_length, shr1, shlP, beq_eq_false_iff_ne, List.drop_zero, Int.toNat_natCast, not_lt', decide_true, decide_false, Option.bind_some, shr30, shr27, shr31, shr32, shr33, shr8, shr16, quoi, quou, quo32, w64u, biti, Int.emod_add_emod, Int.add_emod_emod, List.length_append, if_true, if_false, Bool.false_eq_true, Bool.true_eq_false, not_true_eq_false, not_false_eq_true, reduceCtorEq, Int.add_mul_emod_self_right, Int.natCast_pos, Int.zero_sub, false_and, and_false] at h))
    | (exfalso; omega)
    | fail

theorem b35_loops : ∀ n : Nat, (∀ k, k ≤ n → ∀ (x0 : List P.S24) (x3 : Int) {r : Int × Int}, P.brindlewoodref3_Faults.l0 k x0 x3 = some r → F35_L2 (x0.map fun s => (s.f0, s.f1)) x3 0 0 = some ((r, ()), ()))
  | 0 => fun k hk x0 x3 r h => by
    obtain rfl : k = 0 := by omega
    unfold P.brindlewoodref3_Faults.l0 at h; cases h
  | n + 1 => by
    have ih0 := b35_loops n
    intro k hk x0 x3 r h
    cases k with
    | zero => unfold P.brindlewoodref3_Faults.l0 at h; cases h
    | succ k =>
    unfold P.brindlewoodref3_Faults.l0 at h
    rw [F35_L2_eq]
    try simp only [F35_J4_eq, F35_J6_eq, F35_J3_eq]
    try simp only [decide_eq_true_eq, bne_iff_ne, beq_iff_eq, ne_eq, Bool.not_eq_true', Bool.not_eq_true, Bool.not_eq_false, w64e, wu32, wu8, gt_iff_lt, ge_iff_le, List.length_cons, List.length_nil, Nat.zero_add, Int.le_refl, true_and, and_true, rdl, rdmap, rdb, esub, n64, n32, List.map_cons, List.map_nil, List.length_map, shrP, beqd, Bool.and_eq_true, Bool.and_true, Bool.or_eq_true, Bool.not_and, decide_eq_false_iff_not, tm2, List.replicate_zero, List.take_length, shr1, shlP, beq_eq_false_iff_ne, List.drop_zero, Int.toNat_natCast, not_lt', decide_true, decide_false, Option.bind_some, shr30, shr27, shr31, shr32, shr33, shr8, shr16, quoi, quou, quo32, w64u, biti, Int.emod_add_emod, Int.add_emod_emod, List.length_append, if_true, if_false, Bool.false_eq_true, Bool.true_eq_false, not_true_eq_false, not_false_eq_true, reduceCtorEq, Int.add_mul_emod_self_right, Int.natCast_pos, Int.zero_sub, false_and, and_false] at h ⊢
    repeat' first
      | (cases h; done)
      | (cases h; rfl)
      | (cases h; simp only [*]; done)
      | exact (ih0 _ (by omega) _ _) h
      | (obtain ⟨t, ht, h⟩ := Option.bind_eq_some_iff.1 h; (first | replace ht := b12 ht | replace ht := b59 ht); simp only [ht, Option.bind_some])
      | (replace h := b12 h; simp only [h, Option.bind_some]; done)
      | (replace h := b59 h; simp only [h, Option.bind_some]; done)
      | (split at h <;> rename_i hc <;> (try simp only [hc, decide_eq_true_eq, bne_iff_ne, beq_iff_eq, ne_eq, Bool.not_eq_true', Bool.not_eq_true, Bool.not_eq_false, w64e, wu32, wu8, gt_iff_lt, ge_iff_le, List.length_cons, List.length_nil, Nat.zero_add, Int.le_refl, true_and, and_true, rdl, rdmap, rdb, esub, n64, n32, List.map_cons, List.map_nil, List.length_map, shrP, beqd, Bool.and_eq_true, Bool.and_true, Bool.or_eq_true, Bool.not_and, decide_eq_false_iff_not, tm2, List.replicate_zero, List.take_length, shr1, shlP, beq_eq_false_iff_ne, List.drop_zero, Int.toNat_natCast, not_lt', decide_true, decide_false, Option.bind_some, shr30, shr27, shr31, shr32, shr33, shr8, shr16, quoi, quou, quo32, w64u, biti, Int.emod_add_emod, Int.add_emod_emod, List.length_append, if_true, if_false, Bool.false_eq_true, Bool.true_eq_false, not_true_eq_false, not_false_eq_true, reduceCtorEq, Int.add_mul_emod_self_right, Int.natCast_pos, Int.zero_sub, false_and, and_false] at h ⊢))
      | (rw [if_pos (by omega)])
      | (rw [if_neg (by omega)])
      | (exfalso; omega)
      | fail

theorem b35_L2 {k : Nat} {x0 : List P.S24} {x3 : Int} {r : Int × Int} (h : P.brindlewoodref3_Faults.l0 k x0 x3 = some r) : F35_L2 (x0.map fun s => (s.f0, s.f1)) x3 0 0 = some ((r, ()), ()) := (b35_loops k) k (Nat.le_refl _) _ _ h

theorem b35 {k : Nat} {l : List P.S24} {r : Int × Int} (h : P.brindlewoodref3_Faults.f k l = some r) : F35 (l.map fun s => (s.f0, s.f1)) = some ((r, ()), ()) := by
  rw [F35_eq]
  exact b35_L2 h
theorem b35_3 {k : Nat} {c d e : Bool} {a b f : List Int} {r : Int × Int} (h : P.brindlewoodref3_Faults.f k [⟨c, a⟩, ⟨d, b⟩, ⟨e, f⟩] = some r) : F35 [(c, a), (d, b), (e, f)] = some ((r, ()), ()) := b35 h

theorem b7_J11 {k : Nat} {ws : List Int} {s t : Int} {c : Bool} {l : List Int} {d : Bool} {m : List Int} {r : Bool} (h : P.brindlewoodlaw4_RandomBounded.j0 k ws s t c l d m = some r) : F7_J11 ws s t c l d m = some ((r, ()), ()) := by
  cases k with
  | zero => unfold P.brindlewoodlaw4_RandomBounded.j0 at h; cases h
  | succ k =>
  unfold P.brindlewoodlaw4_RandomBounded.j0 at h
  rw [F7_J11_eq]
  try simp only [F7_J14_eq]
  try simp only [decide_eq_true_eq, bne_iff_ne, beq_iff_eq, ne_eq, Bool.not_eq_true', Bool.not_eq_true, Bool.not_eq_false, w64e, wu32, wu8, gt_iff_lt, ge_iff_le, List.length_cons, List.length_nil, Nat.zero_add, Int.le_refl, true_and, and_true, rdl, rdmap, rdb, esub, n64, n32, List.map_cons, List.map_nil, List.length_map, shrP, beqd, Bool.and_eq_true, Bool.and_true, Bool.or_eq_true, Bool.not_and, decide_eq_false_iff_not, tm2, List.replicate_zero, List.take_length, shr1, shlP, beq_eq_false_iff_ne, List.drop_zero, Int.toNat_natCast, not_lt', decide_true, decide_false, Option.bind_some, shr30, shr27, shr31, shr32, shr33, shr8, shr16, quoi, quou, quo32, w64u, biti, Int.emod_add_emod, Int.add_emod_emod, List.length_append, if_true, if_false, Bool.false_eq_true, Bool.true_eq_false, not_true_eq_false, not_false_eq_true, reduceCtorEq, Int.add_mul_emod_self_right, Int.natCast_pos, Int.zero_sub, false_and, and_false] at h ⊢
  repeat' first
    | (cases h; done)
    | (cases h; rfl)
    | (cases h; simp only [*]; done)
    | (obtain ⟨t, ht, h⟩ := Option.bind_eq_some_iff.1 h; (try simp only [ht, Option.bind_some] at h); (first | replace ht := b17 ht | replace ht := b35_3 ht | replace ht := b20 ht | replace ht := b22 ht | replace ht := b31 ht); simp only [ht, Option.bind_some])
    | (replace h := b17 h; simp only [h, Option.bind_some]; done)
    | (replace h := b35_3 h; simp only [h, Option.bind_some]; done)
    | (replace h := b20 h; simp only [h, Option.bind_some]; done)
    | (replace h := b22 h; simp only [h, Option.bind_some]; done)
    | (replace h := b31 h; simp only [h, Option.bind_some]; done)
    | (split at h <;> rename_i hc <;> (try simp only [hc, decide_eq_true_eq, bne_iff_ne, beq_iff_eq, ne_eq, Bool.not_eq_true', Bool.not_eq_true, Bool.not_eq_false, w64e, wu32, wu8, gt_iff_lt, ge_iff_le, List.length_cons, List.length_nil, Nat.zero_add, Int.le_refl, true_and, and_true, rdl, rdmap, rdb, esub, n64, n32, List.map_cons, List.map_nil, List.length_map, shrP, beqd, Bool.and_eq_true, Bool.and_true, Bool.or_eq_true, Bool.not_and, decide_eq_false_iff_not, tm2, List.replicate_zero, List.take_length, shr1, shlP, beq_eq_false_iff_ne, List.drop_zero, Int.toNat_natCast, not_lt', decide_true, decide_false, Option.bind_some, shr30, shr27, shr31, shr32, shr33, shr8, shr16, quoi, quou, quo32, w64u, biti, Int.emod_add_emod, Int.add_emod_emod, List.length_append, if_true, if_false, Bool.false_eq_true, Bool.true_eq_false, not_true_eq_false, not_false_eq_true, reduceCtorEq, Int.add_mul_emod_self_right, Int.natCast_pos, Int.zero_sub, false_and, and_false] at h ⊢))
    | (rw [if_pos (by omega)])
    | (rw [if_neg (by omega)])
    | (exfalso; omega)
    | fail

theorem b7 {k : Nat} {s t x : Int} {c d : Bool} {l m ws : List Int} {r : Bool} (h : P.brindlewoodlaw4_RandomBounded.f k s t x c l d m ws = some r) : F7 (s, t) x (c, l) (d, m) ws = some ((r, ()), ()) := by
  unfold P.brindlewoodlaw4_RandomBounded.f at h
  obtain ⟨z, hz, h⟩ := Option.bind_eq_some_iff.1 h
  rw [F7_eq, b11 hz, Option.bind_some]
  by_cases hc : z = true
  case neg => rw [if_neg hc] at h; cases h
  rw [if_pos hc] at h
  simp only [hc, Bool.not_true, Bool.false_eq_true, if_false]
  rw [F7_J3_eq]
  simp only [beq_iff_eq]
  by_cases h0 : Int.tmod t 2 = 0
  · rw [if_pos h0] at h ⊢
    cases h
    rfl
  rw [if_neg h0] at h ⊢
  rw [F7_J5_eq]
  by_cases hx : x ≥ 0
  case neg =>
    rw [if_neg hx] at h
    rw [if_neg (by simpa using hx)]
    exact b7_J11 (k := k + 1) (by unfold P.brindlewoodlaw4_RandomBounded.j0; exact h)
  rw [if_pos hx] at h
  rw [if_pos (by simpa using hx)]
  try simp (maxSteps := 4000000) only [decide_eq_true_eq, bne_iff_ne, beq_iff_eq, ne_eq, Bool.not_eq_true', Bool.not_eq_true, Bool.not_eq_false, w64e, wu32, wu8, gt_iff_lt, ge_iff_le, List.length_cons, List.length_nil, Nat.zero_add, Int.le_refl, true_and, and_true, rdl, rdmap, rdb, esub, n64, n32, List.map_cons, List.map_nil, List.length_map, shrP, beqd, Bool.and_eq_true, Bool.and_true, Bool.or_eq_true, Bool.not_and, decide_eq_false_iff_not, tm2, List.replicate_zero, List.take_length, shr1, shlP, beq_eq_false_iff_ne, List.drop_zero, Int.toNat_natCast, not_lt', decide_true, decide_false, Option.bind_some, shr30, shr27, shr31, shr32, shr33, shr8, shr16, quoi, quou, quo32, w64u, biti, Int.emod_add_emod, Int.add_emod_emod, List.length_append, if_true, if_false, Bool.false_eq_true, Bool.true_eq_false, not_true_eq_false, not_false_eq_true, reduceCtorEq, Int.add_mul_emod_self_right, Int.natCast_pos, Int.zero_sub, false_and, and_false] at h ⊢
  repeat' first
    | (cases h; done)
    | (cases h; rfl)
    | (cases h; simp only [*]; done)
    | (with_reducible exact b7_J11 h)
    | (obtain ⟨t, ht, h⟩ := Option.bind_eq_some_iff.1 h; (first | replace ht := b25 ht | replace ht := b33 ht | replace ht := b34 ht | replace ht := b16 ht | replace ht := b10 ht | replace ht := b12 ht | replace ht := b20 ht | replace ht := b22 ht); simp only [ht, Option.bind_some])
    | (replace h := b25 h; simp only [h, Option.bind_some]; done)
    | (replace h := b33 h; simp only [h, Option.bind_some]; done)
    | (replace h := b34 h; simp only [h, Option.bind_some]; done)
    | (replace h := b16 h; simp only [h, Option.bind_some]; done)
    | (replace h := b10 h; simp only [h, Option.bind_some]; done)
    | (replace h := b12 h; simp only [h, Option.bind_some]; done)
    | (replace h := b20 h; simp only [h, Option.bind_some]; done)
    | (replace h := b22 h; simp only [h, Option.bind_some]; done)
    | (split at h <;> rename_i hc <;> (try simp (maxSteps := 4000000) only [hc, decide_eq_true_eq, bne_iff_ne, beq_iff_eq, ne_eq, Bool.not_eq_true', Bool.not_eq_true, Bool.not_eq_false, w64e, wu32, wu8, gt_iff_lt, ge_iff_le, List.length_cons, List.length_nil, Nat.zero_add, Int.le_refl, true_and, and_true, rdl, rdmap, rdb, esub, n64, n32, List.map_cons, List.map_nil, List.length_map, shrP, beqd, Bool.and_eq_true, Bool.and_true, Bool.or_eq_true, Bool.not_and, decide_eq_false_iff_not, tm2, List.replicate_zero, List.take_length, shr1, shlP, beq_eq_false_iff_ne, List.drop_zero, Int.toNat_natCast, not_lt', decide_true, decide_false, Option.bind_some, shr30, shr27, shr31, shr32, shr33, shr8, shr16, quoi, quou, quo32, w64u, biti, Int.emod_add_emod, Int.add_emod_emod, List.length_append, if_true, if_false, Bool.false_eq_true, Bool.true_eq_false, not_true_eq_false, not_false_eq_true, reduceCtorEq, Int.add_mul_emod_self_right, Int.natCast_pos, Int.zero_sub, false_and, and_false] at h ⊢))
    | (rw [if_pos (by omega)])
    | (rw [if_neg (by omega)])
    | (exfalso; omega)
    | fail
end Go.AM.RU
