/- The plain law of RandomPrefixes, part 2: over numbers and lists, without Go and memory. Conditions: those of each lemma. -/
import Derived.Test.YtkhiohlfdkkhdaaRPL1
-- AS: LP2
namespace Go.Proofs.Ytkhiohlfdkkhdaa.PL
open Go.RowKit Go.Proofs.YtkhiohlfdkkhdaaW.PrintWords Go.Proofs.Ytkhiohlfdkkhdaa.P
theorem wone (v : Int) : wrap64 (([v].length : Int) - 1) = 0 := by
  simp only [List.length_cons, List.length_nil]; unfold wrap64; omega
theorem lift {α : Type} (f : Nat → Option α) (h : ∀ k, LeO (f k) (f (k + 1))) {k : Nat} {r : α} (e : f k = some r) : ∀ j, k ≤ j → f j = some r := by
  intro j hj
  obtain ⟨d, rfl⟩ : ∃ d, j = k + d := ⟨j - k, by omega⟩
  induction d with
  | zero => exact e
  | succ d ih => exact h _ _ (ih (by omega))
def chk (m : Nat) : Bool :=
  match integer_Of.f 200 (m : Int), integer_Sub.f 200 false [(m : Int)] false [1] with
  | some o, some r => (o == (false, [(m : Int)])) && (match integer_Bits.f 200 r.1 r.2.1 with
    | some b => decide ((m = 1 ∧ b.1 = 0) ∨ (2 ≤ m ∧ 1 ≤ b.1 ∧ b.1 ≤ 10 ∧ 2 ^ (b.1.toNat - 1) < m))
    | none => false)
  | _, _ => false
theorem chk_all : ((List.range 1000).all fun i => chk (i + 1)) = true := by kernel_rfl
theorem of_one : integer_Of.f 200 1 = some (false, [1]) := by kernel_rfl
theorem fin (m : Nat) (h1 : 1 ≤ m) (h2 : m ≤ 1000) : integer_Of.f 200 (m : Int) = some (false, [(m : Int)]) ∧ ∃ r b, integer_Sub.f 200 false [(m : Int)] false [1] = some r ∧ integer_Bits.f 200 r.1 r.2.1 = some b ∧ ((m = 1 ∧ b.1 = 0) ∨ (2 ≤ m ∧ 1 ≤ b.1 ∧ b.1 ≤ 10 ∧ 2 ^ (b.1.toNat - 1) < m)) := by
  have h := (List.all_eq_true.mp chk_all) (m - 1) (by simp; omega)
  rw [show m - 1 + 1 = m by omega] at h
  unfold chk at h
  split at h
  · rename_i o r ho hr
    rw [Bool.and_eq_true] at h
    obtain ⟨g1, g2⟩ := h
    rw [beq_iff_eq] at g1
    subst g1
    split at g2
    · rename_i b hb
      exact ⟨ho, r, b, hr, hb, of_decide_eq_true g2⟩
    · cases g2
  · cases h
def trimv (v : Int) : List Int := if v = 0 then [] else [v]
def tv (s t b : Int) : Int := shr .u32 ((mixf (aff t s) / 4294967296) % 4294967296) (wrap64 (32 - b))
theorem tv_range (s t : Int) (b : Int) (h1 : 1 ≤ b) (h2 : b ≤ 10) : 0 ≤ tv s t b ∧ tv s t b < 2 ^ b.toNat := by
  have hw : wrap64 (32 - b) = 32 - b := by unfold wrap64; omega
  unfold tv
  rw [hw]
  have hr : 0 ≤ (mixf (aff t s) / 4294967296) % 4294967296 ∧ (mixf (aff t s) / 4294967296) % 4294967296 < 4294967296 := by omega
  generalize (mixf (aff t s) / 4294967296) % 4294967296 = y at hr
  have hm : min (32 - b).toNat (IntKind.bits .u32) = 32 - b.toNat := by
    have : IntKind.bits .u32 = 32 := rfl
    rw [this]; omega
  unfold shr
  rw [hm]
  have hp : (0 : Int) < 2 ^ (32 - b.toNat) := Int.pow_pos (by decide)
  refine ⟨Int.ediv_nonneg hr.1 (Int.le_of_lt hp), ?_⟩
  refine Int.ediv_lt_of_lt_mul hp ?_
  rw [← Int.pow_add, show b.toNat + (32 - b.toNat) = 32 by omega]
  exact hr.2
theorem tv_zero (s t b : Int) (h : aff t s = 0) : tv s t b = 0 := by
  unfold tv
  rw [h, mix_zero]
  unfold shr
  simp
theorem bits_none (k : Nat) (s t : Int) (hk : 3 ≤ k) : random_source_bits.f k s t 0 = some (false, [], s, t) := by
  obtain ⟨k, rfl⟩ : ∃ j, k = j + 3 := ⟨k - 3, by omega⟩
  unfold random_source_bits.f
  rw [random_source_bits.l0, if_neg (by decide), random_source_bits.l1]
  rfl
theorem bits_one (k : Nat) (s t b : Int) (hk : 5 ≤ k) (h1 : 1 ≤ b) (h2 : b ≤ 10) : random_source_bits.f k s t b = some (false, trimv (tv s t b), aff t s, t) := by
  obtain ⟨k, rfl⟩ : ∃ j, k = j + 5 := ⟨k - 5, by omega⟩
  have hw : wrap64 (32 - b) = 32 - b := by unfold wrap64; omega
  have hw2 : wrap64 (b - 32) = b - 32 := by unfold wrap64; omega
  unfold random_source_bits.f
  rw [random_source_bits.l0, if_pos (by omega), next_def]
  simp only [Option.bind_some]
  rw [if_pos (by omega), if_pos (by omega), if_pos (by decide), random_source_bits.l0, if_neg (by omega)]
  simp only [List.nil_append]
  rw [random_source_bits.l1]
  have e : wrap64 (([shr IntKind.u32 (mixf (aff t s) / 4294967296 % 4294967296) (wrap64 (32 - b))].length : Int) - 1) = 0 := wone _
  rw [e, if_pos (by simp), if_pos (by simp), if_pos (by simp)]
  have r : rd [shr IntKind.u32 (mixf (aff t s) / 4294967296 % 4294967296) (wrap64 (32 - b))] 0 = tv s t b := rfl
  rw [r]
  by_cases hz : tv s t b = 0
  · rw [if_pos hz, if_pos (by simp), random_source_bits.l1]
    simp [trimv, hz]
  · rw [if_neg hz]
    simp [trimv, hz]
    rfl
theorem valid_one (v : Int) (h : v ≠ 0) : integer_Valid.f false [v] = some true ∧ natural_Valid.f [v] = some true := by
  have e : wrap64 (([v].length : Int) - 1) = 0 := wone _
  have r : rd [v] 0 = v := rfl
  constructor
  · unfold integer_Valid.f
    rw [e, r, if_pos (by simp), if_neg (by simp), if_pos (by simp), if_pos (by simp), if_pos (by simp)]
    simp [h]
  · unfold natural_Valid.f
    rw [e, r, if_pos (by simp), if_neg (by simp), if_pos (by simp), if_pos (by simp)]
    simp [h]
theorem valid_trim (v : Int) : integer_Valid.f false (trimv v) = some true ∧ natural_Valid.f (trimv v) = some true := by
  by_cases h : v = 0
  · subst h; exact ⟨rfl, rfl⟩
  · rw [show trimv v = [v] by simp [trimv, h]]; exact valid_one v h
theorem check_two (k : Nat) (a b : List Int) (hk : 4 ≤ k) (ha : integer_Valid.f false a = some true) (hb : integer_Valid.f false b = some true) :
    integer_check.f k [(⟨false, a⟩ : S24), (⟨false, b⟩ : S24)] = some (0, 0) := by
  obtain ⟨k, rfl⟩ : ∃ j, k = j + 4 := ⟨k - 4, by omega⟩
  unfold integer_check.f
  rw [integer_check.l0, if_pos (by simp), if_pos (by simp), if_pos (by simp)]
  have r0 : rd_T24 [(⟨false, a⟩ : S24), (⟨false, b⟩ : S24)] 0 = ⟨false, a⟩ := rfl
  have r1 : rd_T24 [(⟨false, a⟩ : S24), (⟨false, b⟩ : S24)] 1 = ⟨false, b⟩ := rfl
  have w1 : wrap64 (0 + 1) = 1 := by unfold wrap64; omega
  have w2 : wrap64 (1 + 1) = 2 := by unfold wrap64; omega
  rw [r0, ha]
  simp only [Option.bind_some, if_true]
  rw [w1, integer_check.l0, if_pos (by simp), if_pos (by simp), if_pos (by simp), r1, hb]
  simp only [Option.bind_some, if_true]
  rw [w2, integer_check.l0, if_neg (by simp)]
theorem cmp_one (k : Nat) (v m : Int) (hk : 5 ≤ k) (hm : 1 ≤ m) (hv : 0 ≤ v) : ∃ c, integer_Cmp.f k false (trimv v) false [m] = some (c, 0, 0) ∧ (c < 0 ↔ v < m) := by
  obtain ⟨k, rfl⟩ : ∃ j, k = j + 5 := ⟨k - 5, by omega⟩
  have hV := valid_trim v
  have hM := valid_one m (by omega)
  have hN : ∃ x, natural_Cmp.f (k + 5) (trimv v) [m] = some (x, 0, 0) ∧ (x < 0 ↔ v < m) := by
    unfold natural_Cmp.f natural_check.f
    rw [hV.2, hM.2]
    simp only [Option.bind_some, if_true]
    by_cases h : v = 0
    · subst h
      rw [show trimv 0 = [] from rfl]
      unfold natural_compare.f
      rw [if_neg (by simp), show wrap64 ((([] : List Int).length : Int) - ([m].length : Int)) = -1 by simp only [List.length_cons, List.length_nil]; unfold wrap64; omega]
      exact ⟨-1, rfl, by omega⟩
    · rw [show trimv v = [v] by simp [trimv, h]]
      unfold natural_compare.f
      rw [if_pos (by simp), natural_compare.l0]
      have e : wrap64 (([v].length : Int) - 1) = 0 := wone _
      have r : rd [v] 0 = v := rfl
      have r' : rd [m] 0 = m := rfl
      rw [e, r, r', if_pos (by decide), if_pos (by decide), if_pos (by simp), if_pos (by simp)]
      by_cases h1 : v = m
      · rw [if_pos h1, show wrap64 (0 - 1) = -1 by unfold wrap64; omega, natural_compare.l0, if_neg (by decide)]
        exact ⟨0, rfl, by omega⟩
      · rw [if_neg h1]
        by_cases h2 : v < m
        · rw [if_pos h2]; exact ⟨-1, rfl, by omega⟩
        · rw [if_neg h2]; exact ⟨1, rfl, by omega⟩
  obtain ⟨x, hx, hl⟩ := hN
  refine ⟨x, ?_, hl⟩
  unfold integer_Cmp.f
  rw [check_two _ _ _ (by omega) hV.1 hM.1]
  simp only [Option.bind_some, if_true, hx, Bool.false_eq_true, if_false]
end Go.Proofs.Ytkhiohlfdkkhdaa.PL
