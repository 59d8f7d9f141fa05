/- Numbers in groups of seven bits, and the law over numbers and lists: it answers true. Conditions: those of each lemma. -/
import Derived.RowKit
import Derived.Test.YthkmjjdpfcghcaaDoorPSE
import Derived.Test.YthkmjjdpfcghcaaDoorPST
import Derived.Laws.BitsLemmas
import Derived.Laws.Bits64
/- Numbers written in groups of seven bits. Conditions: those of each lemma. -/
set_option linter.unusedVariables false
namespace Go.Proofs.Varint
/-- groups of seven bits, the least significant one first; all but the last have 128 added -/
def enc : Nat → Nat → List Int
  | 0, _ => []
  | f + 1, u => if u < 128 then [(u : Int)] else ((u % 128 + 128 : Nat) : Int) :: enc f (u / 128)
theorem enc_ne (f u : Nat) : enc (f + 1) u ≠ [] := by
  rw [enc]; split <;> simp
theorem enc_len_pos (f u : Nat) : 0 < (enc (f + 1) u).length := by
  rw [enc]; split <;> simp
theorem enc_len_le : ∀ (f u : Nat), (enc f u).length ≤ f
  | 0, _ => Nat.le_refl 0
  | f + 1, u => by
    rw [enc]
    split
    · simp
    · have := enc_len_le f (u / 128)
      simp only [List.length_cons]; omega
theorem enc_mono : ∀ (f u v : Nat), u ≤ v → (enc f u).length ≤ (enc f v).length
  | 0, _, _, _ => Nat.le_refl 0
  | f + 1, u, v, h => by
    have ih := enc_mono f (u / 128) (v / 128) (Nat.div_le_div_right h)
    rw [enc, enc]
    split
    · split
      · simp
      · simp
    · rw [if_neg (by omega)]
      simp only [List.length_cons]; omega
theorem enc_odd (f q : Nat) : (enc f (2 * q + 1)).length = (enc f (2 * q)).length := by
  cases f with
  | zero => rfl
  | succ f =>
    rw [enc, enc, show (2 * q + 1) / 128 = 2 * q / 128 by omega]
    by_cases h : 2 * q < 128
    · rw [if_pos h, if_pos (by omega)]; rfl
    · rw [if_neg h, if_neg (by omega)]; rfl
theorem enc_inj : ∀ (f u v : Nat), u < 128 ^ f → v < 128 ^ f → enc f u = enc f v → u = v
  | 0, u, v, hu, hv, _ => by simp at hu hv; omega
  | f + 1, u, v, hu, hv, h => by
    have ih := enc_inj f (u / 128) (v / 128) (by rw [Nat.pow_succ] at hu; omega) (by rw [Nat.pow_succ] at hv; omega)
    rw [enc, enc] at h
    by_cases h1 : u < 128 <;> by_cases h2 : v < 128
    · rw [if_pos h1, if_pos h2] at h
      have := List.cons.inj h
      omega
    · rw [if_pos h1, if_neg h2] at h
      have := (List.cons.inj h).1
      omega
    · rw [if_neg h1, if_pos h2] at h
      have := (List.cons.inj h).1
      omega
    · rw [if_neg h1, if_neg h2] at h
      have h3 := List.cons.inj h
      have := ih h3.2
      omega
/-- the fold of the sign -/
def zz (a : Int) : Nat := if 0 ≤ a then (2 * a).toNat else (2 * (-1 - a) + 1).toNat
/-- the magnitude -/
def mg (a : Int) : Nat := if 0 ≤ a then a.toNat else (-1 - a).toNat
theorem zz_cases (a : Int) : zz a = 2 * mg a ∨ zz a = 2 * mg a + 1 := by
  unfold zz mg
  split
  · left; omega
  · right; omega
theorem zz_len (f : Nat) (a b : Int) (h : mg a ≤ mg b) : (enc f (zz a)).length ≤ (enc f (zz b)).length := by
  have h1 : (enc f (zz a)).length = (enc f (2 * mg a)).length := by
    rcases zz_cases a with e | e <;> rw [e]
    exact enc_odd f (mg a)
  have h2 : (enc f (zz b)).length = (enc f (2 * mg b)).length := by
    rcases zz_cases b with e | e <;> rw [e]
    exact enc_odd f (mg b)
  rw [h1, h2]
  exact enc_mono f _ _ (by omega)
theorem zz_inj (a b : Int) (h : zz a = zz b) : a = b := by
  unfold zz at h
  split at h <;> split at h <;> omega
theorem zz_lt (a : Int) (h1 : -9223372036854775808 ≤ a) (h2 : a < 9223372036854775808) : zz a < 18446744073709551616 := by
  unfold zz
  split <;> omega
end Go.Proofs.Varint

/- PackingShortest, the plain law, part 1: integers, their two limbs, and the groups of seven bits. Conditions: those of each lemma. -/
set_option linter.unusedVariables false
set_option linter.unusedSimpArgs false
set_option maxRecDepth 100000
namespace Go.AM.PS
open Go.Proofs Go.Proofs.Varint
def L : List (Int × (Int × Bool)) := [(118, (1, false))]
theorem c15 : F15 L = some (((0, 0), ()), ()) := callI_of (d := 8) (k := 30) (by kernel_rfl)
theorem c20 : F20 L = some ((1, ()), ()) := callI_of (d := 8) (k := 30) (by kernel_rfl)
theorem c11 : F11 L = some ((1, (10, ((0, 0), ()))), ()) := callI_of (d := 8) (k := 30) (by kernel_rfl)
theorem c29 : F29 118 = some ((0, (true, ())), ()) := callI_of (d := 8) (k := 30) (by kernel_rfl)
theorem wi {x : Int} (h1 : -9223372036854775808 ≤ x) (h2 : x < 9223372036854775808) : IntKind.wrap .i64 x = x := by
  rw [IntKind.wrap_i64]; omega
theorem wu {x : Int} (h1 : 0 ≤ x) (h2 : x < 18446744073709551616) : IntKind.wrap .u64 x = x := by
  rw [IntKind.wrap_u64]; omega
theorem wu32 (x : Int) : IntKind.wrap .u32 x = x % 4294967296 := IntKind.wrap_u32 x
theorem wu8 (x : Int) : IntKind.wrap .u8 x = x % 256 := IntKind.wrap_u8 x
theorem shr32 (x : Int) : shrI .u64 x 32 = x / 4294967296 := Int.fdiv_eq_ediv_of_nonneg _ (by decide)
theorem shr63 (x : Int) : shrI .u64 x 63 = x / 9223372036854775808 := Int.fdiv_eq_ediv_of_nonneg _ (by decide)
theorem shr7 (x : Int) : shrI .u64 x 7 = x / 128 := Int.fdiv_eq_ediv_of_nonneg _ (by decide)
theorem shr1 (x : Int) : shrI .u64 x 1 = x / 2 := Int.fdiv_eq_ediv_of_nonneg _ (by decide)
/-- a number in one or two limbs -/
def T (u : Int) : List Int := if u / 4294967296 ≠ 0 then [u % 4294967296, u / 4294967296] else if u % 4294967296 ≠ 0 then [u % 4294967296] else []
theorem w21 : IntKind.wrap .i64 ((2 : Int) - 1) = 1 := by decide
theorem w10 : IntKind.wrap .i64 ((1 : Int) - 1) = 0 := by decide
theorem step0 (a : Int) : F33_L5_1 a [] false = some (((decide (a < 0), []), ()), ()) := by
  rw [F33_L5_1_eq, if_neg (by simp), F33_J7_1_eq]
theorem step1 (a lo : Int) : F33_L5_1 a [lo] false = if lo = 0 then some (((decide (a < 0), []), ()), ()) else some (((decide (a < 0), [lo]), ()), ()) := by
  have hl : ((([lo] : List Int).length : Nat) : Int) = 1 := rfl
  rw [F33_L5_1_eq, hl, if_pos (by decide), w10, if_pos (by decide), if_pos (by decide)]
  show (if ((lo == 0) = true) then F33_J6_1 a [lo] false else F33_J7_1 a [lo] false) = _
  simp only [beq_iff_eq]
  split
  · rw [F33_J6_1_eq, hl, w10, if_pos (by decide)]; exact step0 a
  · rw [F33_J7_1_eq]
theorem step2 (a lo hi : Int) : F33_L5 a false [lo, hi] = if hi = 0 then (if lo = 0 then some (((decide (a < 0), []), ()), ()) else some (((decide (a < 0), [lo]), ()), ())) else some (((decide (a < 0), [lo, hi]), ()), ()) := by
  have hl : ((([lo, hi] : List Int).length : Nat) : Int) = 2 := rfl
  rw [F33_L5_eq, hl, if_pos (by decide), w21, if_pos (by decide), if_pos (by decide)]
  show (if ((hi == 0) = true) then F33_J6 a false [lo, hi] else F33_J7 a false [lo, hi]) = _
  simp only [beq_iff_eq]
  split
  · rw [F33_J6_eq, hl, w21, if_pos (by decide)]; exact step1 a lo
  · rw [F33_J7_eq]
theorem L5 (a u : Int) (h0 : 0 ≤ u) (h1 : u < 18446744073709551616) : F33_J4 a u false = some (((decide (a < 0), T u), ()), ()) := by
  have e1 : (u / 4294967296) % 4294967296 = u / 4294967296 := by omega
  rw [F33_J4_eq, wu32, wu32, shr32, e1, step2]
  unfold T
  by_cases h : u / 4294967296 = 0
  · by_cases h2 : u % 4294967296 = 0
    · simp [h, h2]
    · simp [h, h2]
  · simp [h]
theorem b33 {a : Int} (h1 : -9223372036854775808 ≤ a) (h2 : a < 9223372036854775808) : F33 a = some (((decide (a < 0), T (a.natAbs : Int)), ()), ()) := by
  rw [F33_eq]
  by_cases h : a < 0
  · have e : IntKind.wrap .u64 ((0 : Int) - IntKind.wrap .u64 a) = (a.natAbs : Int) := by
      rw [IntKind.wrap_u64, IntKind.wrap_u64]; omega
    rw [if_pos (by simpa using h), e, L5 a _ (by omega) (by omega)]
  · have e : IntKind.wrap .u64 a = (a.natAbs : Int) := by
      rw [IntKind.wrap_u64]; omega
    rw [if_neg (by simpa using h), e, L5 a _ (by omega) (by omega)]
theorem T_cases (u : Int) (h0 : 0 ≤ u) (h1 : u < 18446744073709551616) : (T u = [] ∧ u = 0) ∨ (T u = [u] ∧ 0 < u ∧ u < 4294967296) ∨ (T u = [u % 4294967296, u / 4294967296] ∧ 4294967296 ≤ u) := by
  unfold T
  by_cases h : u / 4294967296 = 0
  · by_cases h2 : u % 4294967296 = 0
    · left; simp [h, h2]; omega
    · right; left
      have e : u % 4294967296 = u := by omega
      simp [h, e]; omega
  · right; right; simp [h]; omega
theorem b35 {c : Bool} {u : Int} (h0 : 0 ≤ u) (h1 : u < 18446744073709551616) (h : u = 0 → c = false) : F35 (c, T u) = some ((true, ()), ()) := by
  rw [F35_eq]
  rcases T_cases u h0 h1 with ⟨e, h2⟩ | ⟨e, h2, h3⟩ | ⟨e, h2⟩
  · simp [e, h h2]
  · have hu : u ≠ 0 := by omega
    have hl : ((([u] : List Int).length : Nat) : Int) = 1 := rfl
    rw [e]
    show (if ((decide (((([u] : List Int).length : Nat) : Int) ≤ 128)) = true) then _ else _) = _
    rw [hl, if_pos (by decide), if_neg (by decide), if_pos (by decide), w10, if_pos (by decide), if_pos (by decide)]
    show some (((u != 0), ()), ()) = _
    simp [hu]
  · have hu : u / 4294967296 ≠ 0 := by omega
    have hl : ((([u % 4294967296, u / 4294967296] : List Int).length : Nat) : Int) = 2 := rfl
    rw [e]
    show (if ((decide (((([u % 4294967296, u / 4294967296] : List Int).length : Nat) : Int) ≤ 128)) = true) then _ else _) = _
    rw [hl, if_pos (by decide), if_neg (by decide), if_pos (by decide), w21, if_pos (by decide), if_pos (by decide)]
    show some (((u / 4294967296 != 0), ()), ()) = _
    simp [hu]
end Go.AM.PS

/- PackingShortest, the plain law, part 2: an integer is packed into its groups of seven bits. Conditions: those of each lemma. -/
set_option linter.unusedVariables false
set_option linter.unusedSimpArgs false
set_option maxRecDepth 100000
namespace Go.AM.PS
open Go.Proofs Go.Proofs.Varint
theorem biti (o : BinOp) (k : IntKind) (x y : Int) : bitI o k x y = Go.bits o k x y := by cases o <;> rfl
theorem or64 (a b : Nat) (ha : a < 18446744073709551616) (hb : b < 18446744073709551616) : bitI .or .u64 (a : Int) (b : Int) = ((a ||| b : Nat) : Int) := by
  rw [biti]
  exact (bits_nat .u64 64 (by decide) (fun n h0 h1 => wu h0 (by omega)) a b ha hb).2
theorem xor0 (x : Nat) (h : x < 18446744073709551616) : bitI .xor .u64 (x : Int) 0 = (x : Int) := by
  have e : BitVec.ofInt 64 (0 : Int) = 0#64 := rfl
  show IntKind.wrap .u64 (((BitVec.ofInt 64 (x : Int)) ^^^ (BitVec.ofInt 64 (0 : Int))).toNat : Int) = _
  rw [e, BitVec.xor_zero, BitVec.ofInt_natCast, BitVec.toNat_ofNat, Nat.mod_eq_of_lt h, wu (by omega) (by omega)]
theorem xor1 (x : Nat) (h : x < 18446744073709551616) : bitI .xor .u64 (x : Int) 18446744073709551615 = 18446744073709551615 - (x : Int) := by
  have e : BitVec.ofInt 64 (18446744073709551615 : Int) = BitVec.allOnes 64 := rfl
  show IntKind.wrap .u64 (((BitVec.ofInt 64 (x : Int)) ^^^ (BitVec.ofInt 64 (18446744073709551615 : Int))).toNat : Int) = _
  rw [e, BitVec.xor_allOnes, BitVec.toNat_not, BitVec.ofInt_natCast, BitVec.toNat_ofNat, Nat.mod_eq_of_lt h, wu (by omega) (by omega)]
  omega
theorem or_parts (lo hi : Nat) (h : lo < 4294967296) : lo ||| (hi * 4294967296) = lo + hi * 4294967296 := by
  have := Nat.two_pow_add_eq_or_of_lt (i := 32) h hi
  rw [Nat.or_comm, show hi * 4294967296 = 2 ^ 32 * hi by omega, ← this]
  omega
theorem t63 : shlI .u64 1 63 = 9223372036854775808 := by decide
theorem J9 (x : Int) (c : Bool) (l : List Int) : F36_J9 8 true x c l = if c = true then some ((IntKind.wrap .u64 (0 - x), (decide (x ≤ 9223372036854775808), ())), ()) else some ((x, (decide (x < 9223372036854775808), ())), ()) := by
  have e : IntKind.wrap .i64 (IntKind.wrap .i64 ((8 : Int) * 8) - 1) = 63 := by decide
  have e2 : Int.toNat 63 = 63 := rfl
  rw [F36_J9_eq, e, if_neg (by decide), if_neg (by decide), e2, t63, F36_J14_eq]
theorem L36_0 (c : Bool) : F36_L5 8 true 0 [] 0 0 c [] = F36_J9 8 true 0 c [] := by
  rw [F36_L5_eq, if_neg (by decide)]
theorem L36_1 (c : Bool) (u : Int) (h0 : 0 ≤ u) (h1 : u < 18446744073709551616) : F36_L5 8 true 0 [u] 1 0 c [u] = F36_J9 8 true u c [u] := by
  have hl : ((([u] : List Int).length : Nat) : Int) = 1 := rfl
  have e0 : IntKind.wrap .i64 ((32 : Int) * 0) = 0 := by decide
  have e1 : IntKind.wrap .i64 ((0 : Int) + 1) = 1 := by decide
  have g : List.getD [u] (Int.toNat 0) (0 : Int) = u := rfl
  obtain ⟨n, rfl⟩ := Int.eq_ofNat_of_zero_le h0
  have s : shlI .u64 (n : Int) (Int.toNat 0) = ((n : Nat) : Int) := by
    show IntKind.wrap .u64 ((n : Int) * 2 ^ (min 0 64)) = _
    rw [wu (by simp) (by simp; omega)]; simp
  rw [F36_L5_eq, if_pos (by decide), F36_J6_eq, if_pos (by decide), hl, if_pos (by decide), e0, if_neg (by decide), g, wu h0 h1, s, e1]
  have o : bitI .or .u64 0 ((n : Nat) : Int) = ((n : Nat) : Int) := by
    have := or64 0 n (by decide) (by omega)
    rw [Nat.zero_or] at this
    exact this
  rw [o, F36_L5_eq, if_neg (by decide)]
theorem L36_2 (c : Bool) (lo hi : Nat) (h0 : lo < 4294967296) (h1 : hi < 4294967296) : F36_L5 8 true 0 [(lo : Int), (hi : Int)] 2 0 c [(lo : Int), (hi : Int)] = F36_J9 8 true ((lo + hi * 4294967296 : Nat) : Int) c [(lo : Int), (hi : Int)] := by
  have hl : ((([(lo : Int), (hi : Int)] : List Int).length : Nat) : Int) = 2 := rfl
  have e0 : IntKind.wrap .i64 ((32 : Int) * 0) = 0 := by decide
  have e32 : IntKind.wrap .i64 ((32 : Int) * 1) = 32 := by decide
  have e1 : IntKind.wrap .i64 ((0 : Int) + 1) = 1 := by decide
  have e2 : IntKind.wrap .i64 ((1 : Int) + 1) = 2 := by decide
  have g : List.getD [(lo : Int), (hi : Int)] (Int.toNat 0) (0 : Int) = lo := rfl
  have g1 : List.getD [(lo : Int), (hi : Int)] (Int.toNat 1) (0 : Int) = hi := rfl
  have s : shlI .u64 (lo : Int) (Int.toNat 0) = ((lo : Nat) : Int) := by
    show IntKind.wrap .u64 ((lo : Int) * 2 ^ (min 0 64)) = _
    rw [wu (by simp) (by simp; omega)]; simp
  have s1 : shlI .u64 (hi : Int) (Int.toNat 32) = ((hi * 4294967296 : Nat) : Int) := by
    show IntKind.wrap .u64 ((hi : Int) * 2 ^ (min 32 64)) = _
    rw [show (2 : Int) ^ (min 32 64) = 4294967296 from rfl, wu (by omega) (by omega)]; omega
  rw [F36_L5_eq, if_pos (by decide), F36_J6_eq, if_pos (by decide), hl, if_pos (by decide), e0, if_neg (by decide), g, wu (by omega) (by omega), s, e1]
  have o : bitI .or .u64 0 ((lo : Nat) : Int) = ((lo : Nat) : Int) := by
    have := or64 0 lo (by decide) (by omega)
    rw [Nat.zero_or] at this
    exact this
  rw [o, F36_L5_eq, if_pos (by decide), F36_J6_eq, if_pos (by decide), hl, if_pos (by decide), e32, if_neg (by decide), g1, wu (by omega) (by omega), s1, e2, or64 _ _ (by omega) (by omega), or_parts lo hi h0, F36_L5_eq, if_neg (by decide)]
theorem b36 {a : Int} (h1 : -9223372036854775808 ≤ a) (h2 : a < 9223372036854775808) : F36 (decide (a < 0), T (a.natAbs : Int)) 8 true = some ((a % 18446744073709551616, (true, ())), ()) := by
  have fin : ∀ l, F36_J9 8 true (a.natAbs : Int) (decide (a < 0)) l = some ((a % 18446744073709551616, (true, ())), ()) := by
    intro l
    rw [J9]
    by_cases h : a < 0
    · have e : IntKind.wrap .u64 (0 - (a.natAbs : Int)) = a % 18446744073709551616 := by rw [IntKind.wrap_u64]; omega
      have e2 : ((a.natAbs : Int) ≤ 9223372036854775808) = True := by simp; omega
      simp only [h, decide_true, if_true, e, e2]
    · have e : (a.natAbs : Int) = a % 18446744073709551616 := by omega
      have e2 : ((a.natAbs : Int) < 9223372036854775808) = True := by simp; omega
      simp only [h, decide_false, Bool.false_eq_true, if_false, e2, decide_true]
      rw [← e]
  rw [F36_eq]
  rcases T_cases (a.natAbs : Int) (by omega) (by omega) with ⟨e, h3⟩ | ⟨e, h3, h4⟩ | ⟨e, h3⟩
  · rw [e]
    show (if (decide ((0 : Int) > 2) = true) then _ else F36_J4 8 true 0 (decide (a < 0)) []) = _
    rw [if_neg (by decide), F36_J4_eq]
    show F36_L5 8 true 0 [] 0 0 _ [] = _
    have q := fin []
    rw [h3] at q
    rw [L36_0]
    exact q
  · rw [e]
    show (if (decide ((1 : Int) > 2) = true) then _ else F36_J4 8 true 0 (decide (a < 0)) [(a.natAbs : Int)]) = _
    rw [if_neg (by decide), F36_J4_eq]
    show F36_L5 8 true 0 [(a.natAbs : Int)] 1 0 _ _ = _
    rw [L36_1 _ _ (by omega) (by omega)]
    exact fin _
  · rw [e]
    show (if (decide ((2 : Int) > 2) = true) then _ else F36_J4 8 true 0 (decide (a < 0)) [(a.natAbs : Int) % 4294967296, (a.natAbs : Int) / 4294967296]) = _
    rw [if_neg (by decide), F36_J4_eq]
    show F36_L5 8 true 0 [(a.natAbs : Int) % 4294967296, (a.natAbs : Int) / 4294967296] 2 0 _ _ = _
    have q := L36_2 (decide (a < 0)) (a.natAbs % 4294967296) (a.natAbs / 4294967296) (by omega) (by omega)
    rw [show a.natAbs % 4294967296 + a.natAbs / 4294967296 * 4294967296 = a.natAbs by omega] at q
    have q2 : F36_L5 8 true 0 [(a.natAbs : Int) % 4294967296, (a.natAbs : Int) / 4294967296] 2 0 (decide (a < 0)) [(a.natAbs : Int) % 4294967296, (a.natAbs : Int) / 4294967296] = F36_J9 8 true (a.natAbs : Int) (decide (a < 0)) [(a.natAbs : Int) % 4294967296, (a.natAbs : Int) / 4294967296] := q
    rw [q2]
    exact fin _
theorem or8 : ∀ i : Fin 256, bitI .or .u8 ((i.1 : Nat) : Int) 128 = ((i.1 % 128 + 128 : Nat) : Int) := by decide +kernel
theorem L37 : ∀ (f x : Nat) (out : List Int), x < 128 ^ (f + 1) → x < 18446744073709551616 → out.length + f ≤ 1000 → F37_L2 (x : Int) out = some ((out ++ enc (f + 1) x, ()), ())
  | f, x, out, h, hx, hl => by
    rw [F37_L2_eq, enc]
    by_cases h1 : x < 128
    · have e : IntKind.wrap .u8 ((x : Nat) : Int) = x := by rw [wu8]; omega
      rw [if_neg (by simp; omega), if_pos h1, F37_J5_eq, e, if_pos (by simp; omega)]
    · rw [if_pos (by simp; omega), if_neg h1, F37_J4_eq, shr7]
      have e : IntKind.wrap .u8 ((x : Nat) : Int) = ((x % 256 : Nat) : Int) := by rw [wu8]; omega
      have e2 := or8 ⟨x % 256, by omega⟩
      rw [e, e2, if_pos (by simp; omega), show x % 256 % 128 = x % 128 by omega]
      cases f with
      | zero => simp at h; omega
      | succ f =>
        have e3 : ((x : Nat) : Int) / 128 = ((x / 128 : Nat) : Int) := by omega
        rw [e3, L37 f (x / 128) _ (by rw [Nat.pow_succ] at h; omega) (by omega) (by simp only [List.length_append, List.length_cons, List.length_nil]; omega)]
        simp
theorem b37 {a : Int} (h1 : -9223372036854775808 ≤ a) (h2 : a < 9223372036854775808) : F37 [] (a % 18446744073709551616) = some ((enc 10 (zz a), ()), ()) := by
  have key : bitI .xor .u64 (shlI .u64 (a % 18446744073709551616) 1) (IntKind.wrap .u64 (0 - shrI .u64 (a % 18446744073709551616) 63)) = (zz a : Int) := by
    rw [shr63]
    have s : shlI .u64 (a % 18446744073709551616) 1 = (a % 18446744073709551616 * 2) % 18446744073709551616 := by
      show IntKind.wrap .u64 ((a % 18446744073709551616) * 2 ^ (min 1 64)) = _
      rw [show (2 : Int) ^ (min 1 64) = 2 from rfl, IntKind.wrap_u64]
    rw [s]
    unfold zz
    by_cases h : 0 ≤ a
    · have e : (0 : Int) - a % 18446744073709551616 / 9223372036854775808 = 0 := by omega
      have e2 : a % 18446744073709551616 * 2 % 18446744073709551616 = (((2 * a).toNat : Nat) : Int) := by omega
      rw [e, e2, wu (by decide) (by decide), xor0 _ (by omega), if_pos h]
    · have e : IntKind.wrap .u64 ((0 : Int) - a % 18446744073709551616 / 9223372036854775808) = 18446744073709551615 := by rw [IntKind.wrap_u64]; omega
      have e2 : a % 18446744073709551616 * 2 % 18446744073709551616 = (((2 * a + 18446744073709551616).toNat : Nat) : Int) := by omega
      rw [e, e2, xor1 _ (by omega), if_neg h]
      omega
  rw [F37_eq, key]
  have := zz_lt a h1 h2
  rw [L37 9 (zz a) [] (by omega) this (by simp)]
  rfl
end Go.AM.PS

/- PackingShortest, the plain law, part 3: an integer is packed, and is unpacked from its own bytes alone; the law answers true. Conditions: those of each lemma. -/
set_option linter.unusedVariables false
set_option linter.unusedSimpArgs false
set_option maxRecDepth 100000
namespace Go.AM.PS
open Go.Proofs Go.Proofs.Varint
/-- the value that is packed -/
def V (a : Int) : Int × ((Bool × List Int) × ((Bool × List Int) × (List UInt8 × Int))) := (2, ((decide (a < 0), T (a.natAbs : Int)), ((false, []), ([], 0))))
theorem b17 {a : Int} (h1 : -9223372036854775808 ≤ a) (h2 : a < 9223372036854775808) : F17 a = some ((V a, ()), ()) := by
  rw [F17_eq, b33 h1 h2]
  rfl
theorem b22 {a : Int} (h1 : -9223372036854775808 ≤ a) (h2 : a < 9223372036854775808) : F22 (V a) = some ((true, ()), ()) := by
  rw [F22_eq]
  show (if (((2 : Int) == 2) = true) then ((F35 (decide (a < 0), T (a.natAbs : Int))).bind fun r0 => some ((r0.1.1, ()), ())) else _) = _
  rw [if_pos (by first | decide | simp), b35 (by omega) (by omega) (fun h => by simp; omega)]
  rfl
theorem b23 {a : Int} (h1 : -9223372036854775808 ≤ a) (h2 : a < 9223372036854775808) : F23 [] (118, (1, false)) (V a) = some ((enc 10 (zz a), (0, ())), ()) := by
  rw [F23_eq]
  show (if (((118 : Int) == 115) = true) then _ else if (((118 : Int) == 112) = true) then _ else if (((118 : Int) == 63) = true) then _ else
    F23_J8 2 [] 118 1 false 2 (decide (a < 0)) (T (a.natAbs : Int)) false [] [] 0) = _
  rw [if_neg (by first | decide | simp), if_neg (by first | decide | simp), if_neg (by first | decide | simp), F23_J8_eq, if_neg (by first | decide | simp), F23_J10_eq, if_neg (by first | decide | simp), if_neg (by first | decide | simp), if_neg (by first | decide | simp), F23_J21_eq, c29]
  simp only [Option.bind_some]
  rw [if_pos (by first | decide | simp), F23_J24_eq, b36 h1 h2]
  simp only [Option.bind_some]
  rw [if_neg (by first | decide | simp), if_pos (by first | decide | simp), b37 h1 h2]
  rfl
theorem b6 {a : Int} (h1 : -9223372036854775808 ≤ a) (h2 : a < 9223372036854775808) : F6 L [V a] = some ((enc 10 (zz a), ((0, 0), ())), ()) := by
  have e1 : IntKind.wrap .i64 ((0 : Int) + 1) = 1 := by decide
  rw [F6_eq, c15]
  simp only [Option.bind_some]
  rw [if_neg (by first | decide | simp), F6_J4_eq, c20]
  simp only [Option.bind_some]
  rw [if_neg (by first | decide | simp), F6_J6_eq]
  show F6_L9 [V a] 0 L 1 0 0 0 [] = _
  rw [F6_L9_eq, if_pos (by first | decide | simp), F6_J10_eq, if_pos (by first | decide | simp), if_pos (by first | decide | simp)]
  show (if (((118 : Int) == 120) = true) then _ else F6_J13 [V a] 0 L 1 0 0 0 [] 118 1 false) = _
  rw [if_neg (by first | decide | simp), F6_J13_eq, if_pos (by first | decide | simp)]
  show (if ((0 : Int) < 1) then ((F22 (V a)).bind fun r0 => if ((!r0.1.1) = true) then _ else F6_J15 [V a] 0 L 1 0 0 0 [] 118 1 false) else _) = _
  rw [if_pos (by first | decide | simp), b22 h1 h2]
  simp only [Option.bind_some]
  rw [if_neg (by first | decide | simp), F6_J15_eq, if_pos (by first | decide | simp)]
  show (if ((0 : Int) < 1) then ((F23 [] (118, (1, false)) (V a)).bind fun r0 => if ((r0.1.2.1 != 0) = true) then _ else F6_J18 [V a] 0 L 1 0 0 0 r0.1.1) else _) = _
  rw [if_pos (by first | decide | simp), b23 h1 h2]
  simp only [Option.bind_some]
  rw [if_neg (by first | decide | simp), F6_J18_eq, F6_J20_eq, e1, F6_L9_eq, if_neg (by first | decide | simp), F6_J21_eq]
/-! ### reading -/
theorem take1 {l : List Int} {p : Nat} (h : p < l.length) (hl : l.length ≤ 1000) : F46 (l, (p : Int)) 1 = some (([l[p]], (true, ())), ((l, ((p + 1 : Nat) : Int)), ())) := by
  have e1 : IntKind.wrap .i64 ((l.length : Int) - (p : Int)) = (l.length : Int) - (p : Int) := wi (by omega) (by omega)
  have e2 : IntKind.wrap .i64 ((p : Int) + 1) = (((p + 1 : Nat)) : Int) := by rw [wi (by omega) (by omega)]; omega
  have e3 : IntKind.wrap .i64 ((((p + 1 : Nat)) : Int) - 1) = (p : Int) := by rw [wi (by omega) (by omega)]; omega
  rw [F46_eq]
  show (if ((decide ((1 : Int) > IntKind.wrap .i64 ((l.length : Int) - (p : Int)))) = true) then _ else F46_J3 1 l (p : Int)) = _
  rw [e1, if_neg (by simp; omega), F46_J3_eq, e2, e3, if_pos (by omega), Int.toNat_natCast, Int.toNat_natCast]
  have e4 : List.drop p (List.take (p + 1) l) = [l[p]] := by
    rw [List.take_succ_eq_append_getElem h, List.drop_append_of_le_length (by rw [List.length_take]; omega), List.drop_of_length_le (by rw [List.length_take]; omega)]
    rfl
  rw [e4]
theorem take0 {l : List Int} {p : Nat} (h : l.length ≤ p) (hp : p ≤ 1000) : F46 (l, (p : Int)) 1 = some (([], (false, ())), ((l, (p : Int)), ())) := by
  have e1 : IntKind.wrap .i64 ((l.length : Int) - (p : Int)) = (l.length : Int) - (p : Int) := wi (by omega) (by omega)
  rw [F46_eq]
  show (if ((decide ((1 : Int) > IntKind.wrap .i64 ((l.length : Int) - (p : Int)))) = true) then _ else F46_J3 1 l (p : Int)) = _
  rw [e1, if_pos (by simp; omega)]
theorem b56 (x : Int) : ∃ v, F56 (IntKind.wrap .i64 x) = some ((v, ()), ()) := by
  rw [F56_eq, b33 (by rw [IntKind.wrap_i64]; omega) (by rw [IntKind.wrap_i64]; omega)]
  exact ⟨_, rfl⟩
/-- a byte is taken that goes on -/
theorem J7_more {k : Nat} {b acc : Int} {l : List Int} {p : Nat} (hb : 128 ≤ b) (hk : k ≤ 8) : ∃ acc', F45_J7 acc (k : Int) [b] l (p : Int) 0 false false [] 0 = F45_L4 acc' ((k + 1 : Nat) : Int) l (p : Int) 0 false false [] 0 := by
  have e7 : IntKind.wrap .i64 ((7 : Int) * (k : Int)) = 7 * (k : Int) := wi (by omega) (by omega)
  have e1 : IntKind.wrap .i64 ((k : Int) + 1) = ((k + 1 : Nat) : Int) := by rw [wi (by omega) (by omega)]; omega
  have hj : ∃ acc', F45_J9 acc (k : Int) [b] l (p : Int) 0 false false [] 0 = F45_J3 acc' (k : Int) l (p : Int) 0 false false [] 0 := by
    rw [F45_J9_eq, if_pos (by first | decide | simp), if_pos (by first | decide | simp), e7, if_neg (by omega), if_pos (by first | decide | simp), if_pos (by first | decide | simp)]
    rw [show List.getD [b] (Int.toNat 0) (0 : Int) = b from rfl, if_neg (by simp; omega)]
    exact ⟨_, rfl⟩
  obtain ⟨acc', hj⟩ := hj
  refine ⟨acc', ?_⟩
  rw [← e1, ← F45_J3_eq, ← hj, F45_J7_eq, if_neg (by simp; omega)]
  by_cases hk0 : (k : Int) > 0
  · rw [if_pos (by simpa using hk0), if_pos (by first | decide | simp), if_pos (by first | decide | simp)]
    rw [show List.getD [b] (Int.toNat 0) (0 : Int) = b from rfl, if_neg (by simp; omega)]
  · rw [if_neg (by simpa using hk0)]
/-- the last byte is taken -/
theorem J7_last {k : Nat} {b acc : Int} {l : List Int} {p : Nat} (hb : b < 128) (hk : k ≤ 9) (h9 : k = 9 → b ≤ 1) (h0 : 0 < k → b ≠ 0) : ∃ v, F45_J7 acc (k : Int) [b] l (p : Int) 0 false false [] 0 = some ((v, (0, ())), ((l, (p : Int)), ())) := by
  have e7 : IntKind.wrap .i64 ((7 : Int) * (k : Int)) = 7 * (k : Int) := wi (by omega) (by omega)
  have hj : ∃ v, F45_J9 acc (k : Int) [b] l (p : Int) 0 false false [] 0 = some ((v, (0, ())), ((l, (p : Int)), ())) := by
    rw [F45_J9_eq, if_pos (by first | decide | simp), if_pos (by first | decide | simp), e7, if_neg (by omega), if_pos (by first | decide | simp), if_pos (by first | decide | simp)]
    rw [show List.getD [b] (Int.toNat 0) (0 : Int) = b from rfl, if_pos (by simpa using hb)]
    obtain ⟨v, hv⟩ := b56 (bitI .xor .u64 (shrI .u64 (bitI .or .u64 acc (shlI .u64 (IntKind.wrap .u64 (bitI .and .u8 b 127)) (Int.toNat (7 * (k : Int))))) 1) (IntKind.wrap .u64 ((0 : Int) - (bitI .and .u64 (bitI .or .u64 acc (shlI .u64 (IntKind.wrap .u64 (bitI .and .u8 b 127)) (Int.toNat (7 * (k : Int))))) 1))))
    refine ⟨v, ?_⟩
    rw [hv]
    rfl
  obtain ⟨v, hj⟩ := hj
  refine ⟨v, ?_⟩
  rw [← hj, F45_J7_eq]
  have rest : (if ((decide ((k : Int) > 0)) = true) then (if ((0 : Int) ≤ 0) then (if ((0 : Int) < ((([b] : List Int).length : Nat) : Int)) then (if ((List.getD [b] (Int.toNat 0) (0 : Int) == 0) = true) then some ((((0 : Int), ((false, ([] : List Int)), ((false, ([] : List Int)), (([] : List UInt8), (0 : Int))))), ((16 : Int), ())), ((l, (p : Int)), ())) else F45_J9 acc (k : Int) [b] l (p : Int) 0 false false [] 0) else none) else none) else F45_J9 acc (k : Int) [b] l (p : Int) 0 false false [] 0) = F45_J9 acc (k : Int) [b] l (p : Int) 0 false false [] 0 := by
    by_cases hk0 : (k : Int) > 0
    · rw [if_pos (by simpa using hk0), if_pos (by first | decide | simp), if_pos (by first | decide | simp)]
      rw [show List.getD [b] (Int.toNat 0) (0 : Int) = b from rfl, if_neg (by have := h0 (by omega); simpa using this)]
    · rw [if_neg (by simpa using hk0)]
  by_cases hk9 : k = 9
  · subst hk9
    rw [if_pos (by first | decide | simp), if_pos (by first | decide | simp), if_pos (by first | decide | simp)]
    rw [show List.getD [b] (Int.toNat 0) (0 : Int) = b from rfl, if_neg (by have := h9 rfl; simp; omega)]
    exact rest
  · rw [if_neg (by simp; omega)]
    exact rest
theorem L4_take {k : Nat} {acc : Int} {l : List Int} {p : Nat} (h : p < l.length) (hl : l.length ≤ 1000) : F45_L4 acc (k : Int) l (p : Int) 0 false false [] 0 = F45_J7 acc (k : Int) [l[p]] l ((p + 1 : Nat) : Int) 0 false false [] 0 := by
  rw [F45_L4_eq, take1 h hl]
  simp only [Option.bind_some]
  rw [if_neg (by first | decide | simp)]
theorem L4_end {k : Nat} {acc : Int} {l : List Int} {p : Nat} (h : l.length ≤ p) (hp : p ≤ 1000) : ∃ v, F45_L4 acc (k : Int) l (p : Int) 0 false false [] 0 = some ((v, (15, ())), ((l, (p : Int)), ())) := by
  rw [F45_L4_eq, take0 h hp]
  simp only [Option.bind_some]
  rw [if_pos (by first | decide | simp)]
  exact ⟨_, rfl⟩
theorem drop_lt {l : List Int} {p : Nat} {x : Int} {r : List Int} (hd : l.drop p = x :: r) : ∃ h : p < l.length, l[p] = x ∧ l.drop (p + 1) = r := by
  have hp : p < l.length := by
    apply Classical.byContradiction
    intro h
    rw [List.drop_of_length_le (by omega)] at hd
    cases hd
  have hdd := List.drop_eq_getElem_cons hp
  rw [hd] at hdd
  exact ⟨hp, (List.cons.inj hdd).1.symm, (List.cons.inj hdd).2.symm⟩
theorem rd_last {f k z p : Nat} {acc : Int} {l rest : List Int} (hk : k ≤ 9) (h : z < 128) (h9 : k = 9 → z ≤ 1) (h0 : 0 < k → z ≠ 0) (hd : l.drop p = enc (f + 1) z ++ rest) (hl : l.length ≤ 1000) :
    ∃ v, F45_L4 acc (k : Int) l (p : Int) 0 false false [] 0 = some ((v, (0, ())), ((l, ((p + (enc (f + 1) z).length : Nat) : Int)), ())) := by
  have e : enc (f + 1) z = [(z : Int)] := by rw [enc, if_pos h]
  rw [e] at hd ⊢
  obtain ⟨hp, hg, _⟩ := drop_lt hd
  rw [L4_take hp hl, hg]
  exact J7_last (by omega) hk (fun e => by have := h9 e; omega) (fun hk0 => by have := h0 hk0; omega)
theorem rd_next {f k z p : Nat} {acc : Int} {l rest : List Int} (hk : k ≤ 8) (h : ¬ z < 128) (hd : l.drop p = ((z % 128 + 128 : Nat) : Int) :: rest) (hl : l.length ≤ 1000) :
    ∃ acc', F45_L4 acc (k : Int) l (p : Int) 0 false false [] 0 = F45_L4 acc' ((k + 1 : Nat) : Int) l ((p + 1 : Nat) : Int) 0 false false [] 0 ∧ l.drop (p + 1) = rest ∧ p < l.length := by
  obtain ⟨hp, hg, hr⟩ := drop_lt hd
  obtain ⟨acc', he⟩ := J7_more (k := k) (b := ((z % 128 + 128 : Nat) : Int)) (acc := acc) (l := l) (p := p + 1) (by omega) hk
  exact ⟨acc', by rw [L4_take hp hl, hg, he], hr, hp⟩
/-- all the bytes of a number are read; B: what the number is below, by its place -/
theorem rd_full (l rest : List Int) (hl : l.length ≤ 1000) (B : Nat → Nat) (hB : ∀ k, k ≤ 8 → B k ≤ 128 * B (k + 1)) (hB9 : B 9 = 2) : ∀ (f k z p : Nat) (acc : Int), f + 1 + k = 10 → z < 128 ^ (f + 1) → z < B k → (0 < k → z ≠ 0) → l.drop p = enc (f + 1) z ++ rest →
    ∃ v, F45_L4 acc (k : Int) l (p : Int) 0 false false [] 0 = some ((v, (0, ())), ((l, ((p + (enc (f + 1) z).length : Nat) : Int)), ())) := by
  intro f
  induction f with
  | zero =>
    intro k z p acc hf hz hb h0 hd
    have hz' : z < 128 := by simpa using hz
    exact rd_last (by omega) hz' (fun e => by subst e; rw [hB9] at hb; omega) h0 hd hl
  | succ f ih =>
    intro k z p acc hf hz hb h0 hd
    by_cases h : z < 128
    · exact rd_last (by omega) h (fun e => by omega) h0 hd hl
    · have e : enc (f + 1 + 1) z = ((z % 128 + 128 : Nat) : Int) :: enc (f + 1) (z / 128) := by rw [enc, if_neg h]
      rw [e] at hd ⊢
      rw [List.cons_append] at hd
      obtain ⟨acc', he, hr, _⟩ := rd_next (f := f) (k := k) (acc := acc) (by omega) h hd hl
      have hz2 : z / 128 < 128 ^ (f + 1) := by
        rw [Nat.pow_succ] at hz
        exact Nat.div_lt_of_lt_mul (by rw [Nat.mul_comm]; exact hz)
      obtain ⟨v, hv⟩ := ih (k + 1) (z / 128) (p + 1) acc' (by omega) hz2 (by have := hB k (by omega); omega) (fun _ => by omega) hr
      refine ⟨v, ?_⟩
      rw [he, hv, List.length_cons, show p + 1 + (enc (f + 1) (z / 128)).length = p + ((enc (f + 1) (z / 128)).length + 1) by omega]
/-- without the last byte they are too few -/
theorem rd_cut (l : List Int) (hl : l.length ≤ 1000) : ∀ (f k z p : Nat) (acc : Int), f + 1 + k = 10 → z < 128 ^ (f + 1) → l.drop p = (enc (f + 1) z).dropLast → p ≤ l.length →
    ∃ v p', F45_L4 acc (k : Int) l (p : Int) 0 false false [] 0 = some ((v, (15, ())), ((l, p'), ())) := by
  have last : ∀ (f k z p : Nat) (acc : Int), z < 128 → l.drop p = (enc (f + 1) z).dropLast → p ≤ l.length → ∃ v p', F45_L4 acc (k : Int) l (p : Int) 0 false false [] 0 = some ((v, (15, ())), ((l, p'), ())) := by
    intro f k z p acc h hd hp
    have e : enc (f + 1) z = [(z : Int)] := by rw [enc, if_pos h]
    rw [e] at hd
    have hpl : l.length ≤ p := by
      have := congrArg List.length hd
      simp at this
      omega
    obtain ⟨v, hv⟩ := L4_end (k := k) (acc := acc) hpl (by omega)
    exact ⟨v, _, hv⟩
  intro f
  induction f with
  | zero =>
    intro k z p acc hf hz hd hp
    exact last 0 k z p acc (by simpa using hz) hd hp
  | succ f ih =>
    intro k z p acc hf hz hd hp
    by_cases h : z < 128
    · exact last (f + 1) k z p acc h hd hp
    · have e : enc (f + 1 + 1) z = ((z % 128 + 128 : Nat) : Int) :: enc (f + 1) (z / 128) := by rw [enc, if_neg h]
      rw [e, List.dropLast_cons_of_ne_nil (enc_ne f (z / 128))] at hd
      obtain ⟨acc', he, hr, hp1⟩ := rd_next (f := f) (k := k) (acc := acc) (by omega) h hd hl
      have hz2 : z / 128 < 128 ^ (f + 1) := by
        rw [Nat.pow_succ] at hz
        exact Nat.div_lt_of_lt_mul (by rw [Nat.mul_comm]; exact hz)
      obtain ⟨v, p', hv⟩ := ih (k + 1) (z / 128) (p + 1) acc' (by omega) hz2 hr (by omega)
      exact ⟨v, p', by rw [he, hv]⟩
/-! ### the law -/
def BB (k : Nat) : Nat := 2 ^ (64 - 7 * k)
theorem BB_step (k : Nat) (hk : k ≤ 8) : BB k ≤ 128 * BB (k + 1) := by
  unfold BB
  have e : 64 - 7 * k = (64 - 7 * (k + 1)) + 7 := by omega
  rw [e, Nat.pow_add]
  omega
theorem pow10 {z : Nat} (h : z < 18446744073709551616) : z < 128 ^ (9 + 1) := Nat.lt_of_lt_of_le h (by decide)
theorem b45 {z : Nat} (h : z < 18446744073709551616) (rest : List Int) (hr : rest.length ≤ 10) : ∃ v, F45 (enc 10 z ++ rest, 0) = some ((v, (0, ())), ((enc 10 z ++ rest, ((enc 10 z).length : Int)), ())) := by
  have hl : (enc 10 z ++ rest).length ≤ 1000 := by
    have := enc_len_le 10 z
    rw [List.length_append]; omega
  obtain ⟨v, hv⟩ := rd_full (enc 10 z ++ rest) rest hl BB BB_step (by decide) 9 0 z 0 0 rfl (pow10 h) h (fun h => by omega) rfl
  refine ⟨v, ?_⟩
  rw [F45_eq]
  rw [Nat.zero_add] at hv
  exact hv
theorem b45_cut {z : Nat} (h : z < 18446744073709551616) : ∃ v p, F45 ((enc 10 z).dropLast, 0) = some ((v, (15, ())), (((enc 10 z).dropLast, p), ())) := by
  have hl : (enc 10 z).dropLast.length ≤ 1000 := by
    have := enc_len_le 10 z
    rw [List.length_dropLast]; omega
  obtain ⟨v, p, hv⟩ := rd_cut (enc 10 z).dropLast hl 9 0 z 0 0 rfl (pow10 h) rfl (Nat.zero_le _)
  refine ⟨v, p, ?_⟩
  rw [F45_eq]
  exact hv
theorem b34 {d : List Int} {v p c} (h : F45 (d, 0) = some ((v, (c, ())), ((d, p), ()))) : F34 (d, 0) (118, (1, false)) = some ((v, (c, ())), ((d, p), ())) := by
  rw [F34_eq]
  show ((F29 118).bind fun r0 => if ((decide (r0.1.1 > 0)) = true) then _ else _) = _
  rw [c29]
  simp only [Option.bind_some]
  rw [if_neg (by first | decide | simp), if_pos (by first | decide | simp), h]
  rfl
theorem b18_cut {d : List Int} {v p} (h : F45 (d, 0) = some ((v, (15, ())), ((d, p), ()))) : F18 L d = some (([], ((15, 0), ())), ()) := by
  rw [F18_eq, c15]
  simp only [Option.bind_some]
  rw [if_neg (by first | decide | simp), F18_J4_eq]
  show F18_L7 d L 1 0 0 0 d 0 [] = _
  rw [F18_L7_eq, if_pos (by first | decide | simp), F18_J8_eq, if_pos (by first | decide | simp), if_pos (by first | decide | simp)]
  show ((F34 (d, 0) (118, (1, false))).bind _) = _
  rw [b34 h]
  simp only [Option.bind_some]
  rw [if_pos (by first | decide | simp), F21_eq]
  rfl
theorem b18_long {d : List Int} {v} {p : Int} (h : F45 (d, 0) = some ((v, (0, ())), ((d, p), ()))) (hp : p < (d.length : Int)) : F18 L d = some (([], ((3, -2), ())), ()) := by
  have e1 : IntKind.wrap .i64 ((0 : Int) + 1) = 1 := by decide
  rw [F18_eq, c15]
  simp only [Option.bind_some]
  rw [if_neg (by first | decide | simp), F18_J4_eq]
  show F18_L7 d L 1 0 0 0 d 0 [] = _
  rw [F18_L7_eq, if_pos (by first | decide | simp), F18_J8_eq, if_pos (by first | decide | simp), if_pos (by first | decide | simp)]
  show ((F34 (d, 0) (118, (1, false))).bind _) = _
  rw [b34 h]
  simp only [Option.bind_some]
  rw [if_neg (by first | decide | simp), F18_J12_eq]
  rw [if_pos (by first | decide | simp), if_pos (by simp), F18_J14_eq, e1, F18_L7_eq, if_neg (by first | decide | simp), F18_J15_eq, if_pos (by simpa using hp), F21_eq]
  rfl
end Go.AM.PS

/- PackingShortest, the plain law, part 4: the law answers true. Condition: the numbers are 64-bit numbers, as the row shows of every input. -/
set_option linter.unusedVariables false
set_option linter.unusedSimpArgs false
set_option maxRecDepth 100000
namespace Go.AM.PS
open Go.Proofs Go.Proofs.Varint
theorem enc_byte : ∀ (f u : Nat) (x : Int), x ∈ enc f u → 0 ≤ x ∧ x < 256
  | 0, u, x, h => by simp [enc] at h
  | f + 1, u, x, h => by
    rw [enc] at h
    split at h
    · simp at h; omega
    · rcases List.mem_cons.1 h with h | h
      · omega
      · exact enc_byte f (u / 128) x h
theorem bytesI_inj : ∀ {a b : List Int}, (∀ x ∈ a, 0 ≤ x ∧ x < 256) → (∀ x ∈ b, 0 ≤ x ∧ x < 256) → bytesI a = bytesI b → a = b
  | [], [], _, _, _ => rfl
  | [], y :: b, _, _, h => by cases h
  | x :: a, [], _, _, h => by cases h
  | x :: a, y :: b, ha, hb, h => by
    have h1 := List.cons.inj h
    have hx := ha x List.mem_cons_self
    have hy := hb y List.mem_cons_self
    have e : x.toNat = y.toNat := by
      have := congrArg UInt8.toNat h1.1
      rw [UInt8.toNat_ofNat', UInt8.toNat_ofNat', Nat.mod_eq_of_lt (by omega), Nat.mod_eq_of_lt (by omega)] at this
      exact this
    have e2 := bytesI_inj (fun z hz => ha z (List.mem_cons_of_mem _ hz)) (fun z hz => hb z (List.mem_cons_of_mem _ hz)) h1.2
    rw [e2, show x = y by omega]
theorem b8 {a b : Int} (ha1 : -9223372036854775808 ≤ a) (ha2 : a < 9223372036854775808) (hb1 : -9223372036854775808 ≤ b) (hb2 : b < 9223372036854775808) (h : a ≠ b) : F8 (enc 10 (zz a)) (enc 10 (zz b)) = some ((false, ()), ()) := by
  rw [F8_eq]
  have : ¬ bytesI (enc 10 (zz a)) = bytesI (enc 10 (zz b)) := fun e => h (zz_inj a b (enc_inj 10 _ _ (pow10 (zz_lt a ha1 ha2)) (pow10 (zz_lt b hb1 hb2)) (bytesI_inj (fun x hx => enc_byte _ _ x hx) (fun x hx => enc_byte _ _ x hx) e)))
  simp [this]
theorem j14 {z : Nat} (h : z < 18446744073709551616) : F5_J14 L (enc 10 z) = some ((true, ()), ()) := by
  have hlen := enc_len_le 10 z
  have hpos : 0 < (enc 10 z).length := enc_len_pos 9 z
  have e1 : IntKind.wrap .i64 (((enc 10 z).length : Int) - 1) = (((enc 10 z).length - 1 : Nat) : Int) := by rw [wi (by omega) (by omega)]; omega
  have e2 : List.drop 0 (List.take ((enc 10 z).length - 1) (enc 10 z)) = (enc 10 z).dropLast := by rw [List.dropLast_eq_take]; rfl
  obtain ⟨v, p, h1⟩ := b45_cut h
  obtain ⟨v2, h2⟩ := b45 h [0] (by simp)
  rw [F5_J14_eq, e1, if_pos (by omega), Int.toNat_natCast, e2, b18_cut h1]
  simp only [Option.bind_some]
  rw [if_pos (by omega), if_pos (by simp only [List.length_cons, List.length_nil]; omega), b18_long h2 (by rw [List.length_append]; simp only [List.length_cons, List.length_nil]; omega), F19_eq, F19_eq]
  rfl
theorem j12 {a b : Int} (ha1 : -9223372036854775808 ≤ a) (ha2 : a < 9223372036854775808) (hb1 : -9223372036854775808 ≤ b) (hb2 : b < 9223372036854775808) : F5_J12 a b L (enc 10 (zz a)) (enc 10 (zz b)) (mg a : Int) (mg b : Int) = some ((true, ()), ()) := by
  have fin := j14 (zz_lt a ha1 ha2)
  have neq : ∀ (h : a ≠ b), ((F8 (enc 10 (zz a)) (enc 10 (zz b))).bind fun r0 => if (r0.1.1 = true) then some ((false, ()), ()) else F5_J14 L (enc 10 (zz a))) = some ((true, ()), ()) := by
    intro h
    rw [b8 ha1 ha2 hb1 hb2 h]
    exact fin
  rw [F5_J12_eq]
  have rest : (if ((a != b) = true) then ((F8 (enc 10 (zz a)) (enc 10 (zz b))).bind fun r0 => if (r0.1.1 = true) then some ((false, ()), ()) else F5_J14 L (enc 10 (zz a))) else F5_J14 L (enc 10 (zz a))) = some ((true, ()), ()) := by
    by_cases h : a = b
    · rw [if_neg (by simp [h])]; exact fin
    · rw [if_pos (by simp [h])]; exact neq h
  by_cases hm : mg a ≤ mg b
  · have := zz_len 10 a b hm
    rw [if_pos (by simp; omega), if_neg (by simp; omega)]
    exact rest
  · rw [if_neg (by simp; omega)]
    exact rest
theorem j7 {a b : Int} (ha1 : -9223372036854775808 ≤ a) (ha2 : a < 9223372036854775808) (hb1 : -9223372036854775808 ≤ b) (hb2 : b < 9223372036854775808) : F5_J7 a b L (enc 10 (zz a)) (enc 10 (zz b)) = some ((true, ()), ()) := by
  have fin := j12 ha1 ha2 hb1 hb2
  have e : ∀ x : Int, -9223372036854775808 ≤ x → x < 0 → IntKind.wrap .i64 ((-1 : Int) - x) = (mg x : Int) := by
    intro x h1 h2
    rw [wi (by omega) (by omega)]
    unfold mg
    rw [if_neg (by omega)]; omega
  have e0 : ∀ x : Int, ¬ x < 0 → x = (mg x : Int) := by
    intro x h
    unfold mg
    rw [if_pos (by omega)]; omega
  have j10 : F5_J10 a b L (enc 10 (zz a)) (enc 10 (zz b)) (mg a : Int) b = some ((true, ()), ()) := by
    rw [F5_J10_eq]
    by_cases h : b < 0
    · rw [if_pos (by simpa using h), e b hb1 h]; exact fin
    · rw [if_neg (by simpa using h)]
      have q := e0 b h
      rw [← q] at fin
      exact fin
  rw [F5_J7_eq]
  by_cases h : a < 0
  · rw [if_pos (by simpa using h), e a ha1 h]; exact j10
  · rw [if_neg (by simpa using h)]
    have q := e0 a h
    rw [← q] at j10
    exact j10
theorem law {a b : Int} (ha1 : -9223372036854775808 ≤ a) (ha2 : a < 9223372036854775808) (hb1 : -9223372036854775808 ≤ b) (hb2 : b < 9223372036854775808) : F5 a b = some ((true, ()), ()) := by
  have la := enc_len_le 10 (zz a)
  have pa : 0 < (enc 10 (zz a)).length := enc_len_pos 9 (zz a)
  have lb := enc_len_le 10 (zz b)
  have pb : 0 < (enc 10 (zz b)).length := enc_len_pos 9 (zz b)
  have f7 : F7 = some ((true, ()), ()) := packs_true
  rw [F5_eq, b17 ha1 ha2]
  simp only [Option.bind_some]
  show ((F6 L [V a]).bind _) = _
  rw [b6 ha1 ha2]
  simp only [Option.bind_some]
  rw [b17 hb1 hb2]
  simp only [Option.bind_some]
  show ((F6 L [V b]).bind _) = _
  rw [b6 hb1 hb2]
  simp only [Option.bind_some]
  show ((F11 L).bind _) = _
  rw [c11]
  simp only [Option.bind_some]
  rw [f7]
  simp only [Option.bind_some]
  rw [if_neg (by decide), if_neg (by decide), if_neg (by decide), if_neg (by decide), if_neg (by simp only [beq_iff_eq]; omega), if_neg (by simp only [decide_eq_true_eq]; omega), if_neg (by simp only [decide_eq_true_eq]; omega), if_neg (by simp only [decide_eq_true_eq]; omega), if_neg (by simp only [decide_eq_true_eq]; omega)]
  exact j7 ha1 ha2 hb1 hb2
end Go.AM.PS
