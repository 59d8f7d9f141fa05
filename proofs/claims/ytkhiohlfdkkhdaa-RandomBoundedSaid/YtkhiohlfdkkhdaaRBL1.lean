/- Numbers of many digits, over lists alone, part 1. Conditions: those of each lemma. -/
import Derived.Test.YtkhiohlfdkkhdaaRBP
import Derived.KernelRfl
import Derived.Laws.BitsLemmas
import Derived.Laws.Bits64
import Derived.Lib.BitFns
/- The plain law of RandomPrefixes, part 1: over numbers and lists, without Go and memory. Conditions: those of each lemma. -/
namespace Go.Proofs.Ytkhiohlfdkkhdaa.PL
open Go.RowKit Go.Proofs.YtkhiohlfdkkhdaaW.PrintWords Go.Proofs.Ytkhiohlfdkkhdaa.P
theorem u64w (x : Int) : IntKind.u64.wrap x = x % 18446744073709551616 := rfl
theorem md {x y : Int} (c : Int) (h : x - y = 18446744073709551616 * c) : x % 18446744073709551616 = y % 18446744073709551616 := by
  have : x = y + 18446744073709551616 * c := by omega
  rw [this]; exact Int.add_mul_emod_self_left ..
def aff (t x : Int) : Int := (x * 6364136223846793005 + t) % 18446744073709551616
def it (t : Int) : Nat → Int → Int
  | 0, x => x
  | n + 1, x => it t n (aff t x)
theorem it_add (p : Int) (m n : Nat) (x : Int) : it p (n + m) x = it p m (it p n x) := by
  induction n generalizing x with
  | zero => simp [it]
  | succ n ih => rw [Nat.succ_add]; simp only [it]; exact ih _
theorem aff_range (t x : Int) : 0 ≤ aff t x ∧ aff t x < 18446744073709551616 := by unfold aff; omega
theorem it_range (t : Int) (n : Nat) (x : Int) (h0 : 0 ≤ x) (h1 : x < 18446744073709551616) : 0 ≤ it t n x ∧ it t n x < 18446744073709551616 := by
  induction n generalizing x with
  | zero => exact ⟨h0, h1⟩
  | succ n ih => simp only [it]; exact ih _ (aff_range _ _).1 (aff_range _ _).2
/-- the same without a modulus -/
def itz (p q : Int) : Nat → Int → Int
  | 0, x => x
  | n + 1, x => itz p q n (x * p + q)
theorem itz_mod (t : Int) (n : Nat) : ∀ (x y c : Int), x - y = 18446744073709551616 * c → ∃ d, it t n x - itz 6364136223846793005 t n y = 18446744073709551616 * d := by
  induction n with
  | zero => intro x y c h; exact ⟨c, h⟩
  | succ n ih =>
    intro x y c h
    simp only [it, itz]
    refine ih (aff t x) (y * 6364136223846793005 + t) (c * 6364136223846793005 - (x * 6364136223846793005 + t) / 18446744073709551616) ?_
    have := Int.emod_def (x * 6364136223846793005 + t) 18446744073709551616
    unfold aff
    omega
theorem itz_even (p q y : Int) (p' q' : Int) (hp : p' = p * p) (hq : 2 * q' = q * (p + 1)) : ∀ (n : Nat), itz p q (2 * n) (2 * y) = 2 * itz p' q' n y := by
  intro n
  induction n generalizing y with
  | zero => rfl
  | succ n ih =>
    rw [show 2 * (n + 1) = (2 * n) + 1 + 1 by omega]
    simp only [itz]
    rw [show (2 * y * p + q) * p + q = 2 * (y * p' + q') by subst hp; grind]
    exact ih _
theorem hits : ∀ (k : Nat) (p q x : Int), p % 4 = 1 → q % 2 = 1 → ∃ n : Nat, ∃ c : Int, itz p q n x = 2 ^ k * c := by
  intro k
  induction k with
  | zero => intro p q x _ _; exact ⟨0, x, by simp [itz]⟩
  | succ k ih =>
    have ev : ∀ (p q y : Int), p % 4 = 1 → q % 2 = 1 → ∃ n : Nat, ∃ c : Int, itz p q n (2 * y) = 2 ^ (k + 1) * c := by
      intro p q y hp hq
      obtain ⟨a, rfl⟩ : ∃ a, p = 4 * a + 1 := ⟨p / 4, by omega⟩
      obtain ⟨b, rfl⟩ : ∃ b, q = 2 * b + 1 := ⟨q / 2, by omega⟩
      have e1 : ((4 * a + 1) * (4 * a + 1)) % 4 = 1 := by
        rw [show (4 * a + 1) * (4 * a + 1) = 4 * (a * (4 * a + 1) + a) + 1 by grind]; omega
      have e2 : ((2 * b + 1) * (2 * a + 1)) % 2 = 1 := by
        rw [show (2 * b + 1) * (2 * a + 1) = 2 * (b * (2 * a + 1) + a) + 1 by grind]; omega
      obtain ⟨n, c, h⟩ := ih _ _ y e1 e2
      refine ⟨2 * n, c, ?_⟩
      rw [itz_even (4 * a + 1) (2 * b + 1) y _ ((2 * b + 1) * (2 * a + 1)) rfl (by grind), h, Int.pow_succ]
      grind
    intro p q x hp hq
    by_cases hx : x % 2 = 0
    · obtain ⟨y, rfl⟩ : ∃ y, x = 2 * y := ⟨x / 2, by omega⟩
      exact ev p q y hp hq
    · obtain ⟨a, rfl⟩ : ∃ a, p = 4 * a + 1 := ⟨p / 4, by omega⟩
      obtain ⟨b, rfl⟩ : ∃ b, q = 2 * b + 1 := ⟨q / 2, by omega⟩
      obtain ⟨z, rfl⟩ : ∃ z, x = 2 * z + 1 := ⟨x / 2, by omega⟩
      obtain ⟨n, c, h⟩ := ev (4 * a + 1) (2 * b + 1) (z * (4 * a + 1) + 2 * a + b + 1) hp hq
      refine ⟨n + 1, c, ?_⟩
      simp only [itz]
      rw [show (2 * z + 1) * (4 * a + 1) + (2 * b + 1) = 2 * (z * (4 * a + 1) + 2 * a + b + 1) by grind]
      exact h
/-- The orbit comes to 0. -/
theorem zero_at (t x : Int) (ht : ¬ t % 2 = 0) : ∃ n : Nat, it t (n + 1) x = 0 := by
  obtain ⟨n, c, h⟩ := hits 64 6364136223846793005 t (aff t x) (by decide) (by omega)
  obtain ⟨d, hd⟩ := itz_mod t n (aff t x) (aff t x) 0 (by omega)
  have hr := it_range t n (aff t x) (aff_range _ _).1 (aff_range _ _).2
  refine ⟨n, ?_⟩
  simp only [it]
  rw [h, show (2 : Int) ^ 64 = 18446744073709551616 by decide] at hd
  omega
def mixf (x : Int) : Int := (random_mix.f x).getD 0
theorem mix_def (x : Int) : random_mix.f x = some (mixf x) := rfl
theorem mix_range (x : Int) : 0 ≤ mixf x ∧ mixf x < 18446744073709551616 := by
  have h : ∃ y, mixf x = IntKind.u64.wrap y := ⟨_, rfl⟩
  obtain ⟨y, h⟩ := h
  rw [h, u64w]
  omega
theorem mix_zero : mixf 0 = 0 := by kernel_rfl
theorem next_def (s t : Int) : random_source_next.f s t = some (mixf (aff t s), aff t s, t) := by
  have : IntKind.u64.wrap (IntKind.u64.wrap (s * 6364136223846793005) + t) = aff t s := by
    simp only [u64w, aff]
    exact md (-((s * 6364136223846793005) / 18446744073709551616)) (by have := Int.emod_def (s * 6364136223846793005) 18446744073709551616; omega)
  unfold random_source_next.f
  rw [this, mix_def]
  rfl
end Go.Proofs.Ytkhiohlfdkkhdaa.PL

/- Numbers of many digits, over lists alone: value, comparison, cutting leading zeros. Conditions: those of each lemma. -/
set_option linter.unusedVariables false
namespace Go.Proofs.Ytkhiohlfdkkhdaa.Big
open Go.RowKit Go.Proofs.YtkhiohlfdkkhdaaW.PrintWords
theorem lift {α : Type} (f : Nat → Option α) (h : ∀ k, LeO (f k) (f (k + 1))) {k : Nat} {r : α} (e : f k = some r) : ∀ j, k ≤ j → f j = some r := by
  intro j hj
  obtain ⟨d, rfl⟩ : ∃ d, j = k + d := ⟨j - k, by omega⟩
  induction d with
  | zero => exact e
  | succ d ih => exact h _ _ (ih (by omega))
def val (b : Int) : List Int → Int
  | [] => 0
  | x :: l => x + b * val b l
def Dig (b : Int) (l : List Int) : Prop := ∀ x ∈ l, 0 ≤ x ∧ x < b
def Norm (l : List Int) : Prop := l = [] ∨ rd l ((l.length : Int) - 1) ≠ 0
theorem rd_nat (l : List Int) (i : Nat) : rd l (i : Int) = l.getD i 0 := by unfold rd; rw [Int.toNat_natCast]
theorem rd_get (l : List Int) (i : Nat) (h : i < l.length) : rd l (i : Int) = l[i] := by
  rw [rd_nat, List.getD_eq_getElem?_getD, List.getElem?_eq_getElem h]; rfl
theorem rd_out (l : List Int) (i : Nat) (h : l.length ≤ i) : rd l (i : Int) = 0 := by
  rw [rd_nat, List.getD_eq_getElem?_getD, List.getElem?_eq_none h]; rfl
theorem Dig.rd {b : Int} {l : List Int} (h : Dig b l) (i : Nat) (hi : i < l.length) : 0 ≤ rd l (i : Int) ∧ rd l (i : Int) < b := by
  rw [rd_get l i hi]; exact h _ (List.getElem_mem hi)
theorem Dig.nil (b : Int) : Dig b [] := fun x h => by cases h
theorem Dig.append {b : Int} {l m : List Int} (h : Dig b l) (h2 : Dig b m) : Dig b (l ++ m) := fun x hx => (List.mem_append.mp hx).elim (h x) (h2 x)
theorem Dig.one {b x : Int} (h : 0 ≤ x) (h2 : x < b) : Dig b [x] := fun y hy => by
  obtain rfl := List.mem_singleton.mp hy
  exact ⟨h, h2⟩
theorem Dig.take {b : Int} {l : List Int} (h : Dig b l) (n : Nat) : Dig b (l.take n) := fun x hx => h x (List.mem_of_mem_take hx)
theorem Dig.tail {b x : Int} {l : List Int} (h : Dig b (x :: l)) : Dig b l := fun y hy => h y (List.mem_cons_of_mem _ hy)
theorem Dig.head {b x : Int} {l : List Int} (h : Dig b (x :: l)) : 0 ≤ x ∧ x < b := h x List.mem_cons_self
theorem pow_pos (b : Int) (h : 0 < b) (n : Nat) : 0 < b ^ n := Int.pow_pos h
theorem pow_split (b : Int) (n : Nat) : b ^ (n + 1) = b ^ n * b := Int.pow_succ b n
theorem val_append (b : Int) (l m : List Int) : val b (l ++ m) = val b l + b ^ l.length * val b m := by
  induction l with
  | nil => simp [val]
  | cons x l ih =>
    simp only [List.cons_append, val, ih, List.length_cons, pow_split]
    rw [Int.mul_add, Int.add_assoc, Int.mul_comm (b ^ l.length) b, Int.mul_assoc]
theorem val_one (b x : Int) : val b [x] = x := by simp [val]
theorem val_snoc (b : Int) (l : List Int) (x : Int) : val b (l ++ [x]) = val b l + b ^ l.length * x := by rw [val_append, val_one]
theorem val_take (b : Int) (l : List Int) (i : Nat) (h : i < l.length) : val b (l.take (i + 1)) = val b (l.take i) + b ^ i * rd l (i : Int) := by
  rw [List.take_succ_eq_append_getElem h, val_snoc, rd_get l i h, List.length_take, Nat.min_eq_left (Nat.le_of_lt h)]
theorem val_nonneg {b : Int} (hb : 0 < b) {l : List Int} (h : Dig b l) : 0 ≤ val b l := by
  induction l with
  | nil => exact Int.le_refl 0
  | cons x l ih =>
    have h1 := h.head
    have h2 := Int.mul_nonneg (Int.le_of_lt hb) (ih h.tail)
    simp only [val]
    omega
theorem val_lt {b : Int} (hb : 0 < b) {l : List Int} (h : Dig b l) : val b l < b ^ l.length := by
  induction l with
  | nil => simp [val]
  | cons x l ih =>
    have h1 := h.head
    have h2 : val b l + 1 ≤ b ^ l.length := ih h.tail
    have h3 := Int.mul_le_mul_of_nonneg_left h2 (Int.le_of_lt hb)
    rw [Int.mul_add] at h3
    simp only [val, List.length_cons, pow_split]
    rw [Int.mul_comm (b ^ l.length) b]
    omega
theorem val_ge {b : Int} (hb : 0 < b) {l : List Int} (h : Dig b l) (hn : Norm l) (hl : 0 < l.length) : b ^ (l.length - 1) ≤ val b l := by
  rcases hn with rfl | hn
  · simp at hl
  · have e : l.take (l.length - 1 + 1) = l := by rw [Nat.sub_add_cancel hl, List.take_length]
    have h1 := val_take b l (l.length - 1) (by omega)
    rw [e] at h1
    have h2 := h.rd (l.length - 1) (by omega)
    have e2 : ((l.length - 1 : Nat) : Int) = (l.length : Int) - 1 := by omega
    rw [e2] at h1 h2
    have h3 := val_nonneg hb (h.take (l.length - 1))
    have h4 : 1 ≤ rd l ((l.length : Int) - 1) := by omega
    have h5 := Int.mul_le_mul_of_nonneg_left h4 (Int.le_of_lt (pow_pos b hb (l.length - 1)))
    rw [Int.mul_one] at h5
    omega
theorem val_inj_len {b : Int} (hb : 0 < b) : ∀ {l m : List Int}, Dig b l → Dig b m → l.length = m.length → val b l = val b m → l = m
  | [], [], _, _, _, _ => rfl
  | [], _ :: _, _, _, h, _ => by simp at h
  | _ :: _, [], _, _, h, _ => by simp at h
  | x :: l, y :: m, h1, h2, hl, hv => by
    simp only [val] at hv
    have a1 := h1.head
    have a2 := h2.head
    have e1 : x = y := by
      have q1 : (x + b * val b l) % b = x := by rw [Int.add_mul_emod_self_left]; exact Int.emod_eq_of_lt a1.1 a1.2
      have q2 : (y + b * val b m) % b = y := by rw [Int.add_mul_emod_self_left]; exact Int.emod_eq_of_lt a2.1 a2.2
      rw [← q1, ← q2, hv]
    subst e1
    have e2 : val b l = val b m := by
      have : b * val b l = b * val b m := by omega
      exact Int.eq_of_mul_eq_mul_left (by omega) this
    rw [val_inj_len hb h1.tail h2.tail (by simpa using hl) e2]
theorem pow_mono {b : Int} (hb : 1 ≤ b) {m n : Nat} (h : m ≤ n) : b ^ m ≤ b ^ n := by
  obtain ⟨d, rfl⟩ : ∃ d, n = m + d := ⟨n - m, by omega⟩
  induction d with
  | zero => exact Int.le_refl _
  | succ d ih =>
    have h1 := ih (by omega)
    have h2 := pow_pos b (by omega) (m + d)
    have h3 := Int.mul_le_mul_of_nonneg_left hb (Int.le_of_lt h2)
    rw [Int.mul_one] at h3
    rw [← Nat.add_assoc, pow_split]
    omega
theorem len_le_of_val {b : Int} (hb : 1 < b) {l m : List Int} (h1 : Dig b l) (h2 : Dig b m) (n1 : Norm l) (hv : val b l ≤ val b m) : l.length ≤ m.length := by
  rcases Nat.lt_or_ge m.length l.length with h | h
  · have a := val_ge (by omega) h1 n1 (by omega)
    have c := val_lt (by omega) h2
    have d := pow_mono (b := b) (by omega) (show m.length ≤ l.length - 1 by omega)
    omega
  · exact h
theorem val_inj {b : Int} (hb : 1 < b) {l m : List Int} (h1 : Dig b l) (h2 : Dig b m) (n1 : Norm l) (n2 : Norm m) (hv : val b l = val b m) : l = m := by
  have a := len_le_of_val hb h1 h2 n1 (by omega)
  have c := len_le_of_val hb h2 h1 n2 (by omega)
  exact val_inj_len (by omega) h1 h2 (by omega) hv
theorem val_lt_len {b : Int} (hb : 1 < b) {l m : List Int} (h1 : Dig b l) (h2 : Dig b m) (n2 : Norm m) (h : l.length < m.length) : val b l < val b m := by
  have a := val_ge (by omega) h2 n2 (by omega)
  have c := val_lt (by omega) h1
  have d := pow_mono (b := b) (by omega) (show l.length ≤ m.length - 1 by omega)
  omega
theorem val_drop (b : Int) (l : List Int) (i : Nat) : val b l = val b (l.take i) + b ^ (l.take i).length * val b (l.drop i) := by
  rw [← val_append, List.take_append_drop]
/-- Where all digits from place i + 1 on are equal, digit i decides. -/
theorem val_cmp {b : Int} (hb : 1 < b) {l m : List Int} (h1 : Dig b l) (h2 : Dig b m) (i : Nat) (hl : i < l.length) (hm : i < m.length) (hd : l.drop (i + 1) = m.drop (i + 1)) (h : rd l (i : Int) < rd m (i : Int)) : val b l < val b m := by
  rw [val_drop b l (i + 1), val_drop b m (i + 1), val_take b l i hl, val_take b m i hm, hd, List.length_take, List.length_take, Nat.min_eq_left (by omega), Nat.min_eq_left (by omega)]
  have a := val_lt (by omega) (h1.take i)
  rw [List.length_take, Nat.min_eq_left (by omega)] at a
  have c := val_nonneg (by omega) (h2.take i)
  have d : rd l (i : Int) + 1 ≤ rd m (i : Int) := h
  have e := Int.mul_le_mul_of_nonneg_left d (Int.le_of_lt (pow_pos b (by omega) i))
  rw [Int.mul_add, Int.mul_one] at e
  omega
theorem val_zeros (b : Int) (l : List Int) (h : ∀ x ∈ l, x = 0) : val b l = 0 := by
  induction l with
  | nil => rfl
  | cons x l ih =>
    simp only [val]
    rw [h x List.mem_cons_self, ih (fun y hy => h y (List.mem_cons_of_mem _ hy))]
    simp
/-- What cutting leading zeros gives. -/
structure Cut (b : Int) (l r : List Int) : Prop where
  val : val b r = val b l
  dig : Dig b l → Dig b r
  norm : Norm r
  len : r.length ≤ l.length
theorem cut_step {b : Int} {l r : List Int} (hl : 0 < l.length) (h0 : rd l ((l.length : Int) - 1) = 0) (h : Cut b (l.take (l.length - 1)) r) : Cut b l r := by
  have e : l.take (l.length - 1 + 1) = l := by rw [Nat.sub_add_cancel hl, List.take_length]
  have h1 := val_take b l (l.length - 1) (by omega)
  have e2 : ((l.length - 1 : Nat) : Int) = (l.length : Int) - 1 := by omega
  rw [e, e2, h0, Int.mul_zero, Int.add_zero] at h1
  refine ⟨h.val.trans h1.symm, fun hd => h.dig (hd.take _), h.norm, ?_⟩
  have := h.len
  rw [List.length_take] at this
  omega
theorem cut_end {b : Int} {l : List Int} (h : Norm l) : Cut b l l := ⟨rfl, id, h, Nat.le_refl _⟩
theorem wsub (n : Nat) (h : 0 < n) (h2 : n ≤ 9223372036854775807) : wrap64 ((n : Int) - 1) = (n : Int) - 1 := by unfold wrap64; omega
theorem wsucc (n : Nat) (h2 : n < 9223372036854775807) : wrap64 ((n : Int) + 1) = ((n + 1 : Nat) : Int) := by unfold wrap64; omega
end Go.Proofs.Ytkhiohlfdkkhdaa.Big

/- The printed functions of package natural, over lists of limbs: what they answer. Conditions: those of each lemma. -/
set_option linter.unusedVariables false
namespace Go.Proofs.Ytkhiohlfdkkhdaa.Big
open Go.RowKit Go.Proofs.YtkhiohlfdkkhdaaW.PrintWords Go.Proofs.Ytkhiohlfdkkhdaa.P
def B : Int := 4294967296
theorem u64id {x : Int} (h : 0 ≤ x) (h2 : x < 18446744073709551616) : IntKind.u64.wrap x = x := by
  show x % 18446744073709551616 = x
  omega
/-- cutting zeros -/
theorem trim_ok (b : Int) : ∀ (n : Nat) (l : List Int) (k : Nat), l.length = n → n ≤ 1000000 → n < k → ∃ r, natural_trim.l0 k l = some r ∧ Cut b l r := by
  intro n
  induction n with
  | zero =>
    intro l k hl hn hk
    obtain ⟨k, rfl⟩ : ∃ j, k = j + 1 := ⟨k - 1, by omega⟩
    refine ⟨l, ?_, cut_end (.inl (List.length_eq_zero_iff.mp hl))⟩
    rw [natural_trim.l0, if_neg (by omega)]
  | succ n ih =>
    intro l k hl hn hk
    obtain ⟨k, rfl⟩ : ∃ j, k = j + 1 := ⟨k - 1, by omega⟩
    have w := wsub l.length (by omega) (by omega)
    by_cases h0 : rd l ((l.length : Int) - 1) = 0
    · obtain ⟨r, hr, hc⟩ := ih (l.take (l.length - 1)) k (by rw [List.length_take]; omega) (by omega) (by omega)
      refine ⟨r, ?_, cut_step (by omega) h0 hc⟩
      have e : ((l.length : Int) - 1).toNat = l.length - 1 := by omega
      rw [natural_trim.l0, if_pos (by omega), w, if_pos (by omega), if_pos (by omega), if_pos h0, if_pos (by omega), e]
      exact hr
    · refine ⟨l, ?_, cut_end (.inr h0)⟩
      rw [natural_trim.l0, if_pos (by omega), w, if_pos (by omega), if_pos (by omega), if_neg h0]
theorem valid_eq (l : List Int) : ∃ r, natural_Valid.f l = some r ∧ (r = true ↔ l.length ≤ 600 ∧ Norm l) := by
  unfold natural_Valid.f Norm
  by_cases h : (l.length : Int) ≤ 600
  · rw [if_pos h]
    by_cases h0 : (l.length : Int) = 0
    · rw [if_pos h0]
      exact ⟨true, rfl, fun _ => ⟨by omega, .inl (List.length_eq_zero_iff.mp (by omega))⟩, fun _ => rfl⟩
    · rw [if_neg h0, wsub _ (by omega) (by omega), if_pos (by omega), if_pos (by omega)]
      refine ⟨_, rfl, ?_⟩
      rw [bne_iff_ne]
      constructor
      · intro h1; exact ⟨by omega, .inr h1⟩
      · rintro ⟨_, rfl | h1⟩
        · simp at h0
        · exact h1
  · rw [if_neg h]
    refine ⟨false, rfl, ?_⟩
    constructor
    · intro h1; cases h1
    · rintro ⟨h1, _⟩; omega
theorem valid_true {l : List Int} (h : l.length ≤ 600) (hn : Norm l) : natural_Valid.f l = some true := by
  obtain ⟨r, h1, h2⟩ := valid_eq l
  rw [h1, h2.mpr ⟨h, hn⟩]
theorem check_ok {a b : List Int} (ha : a.length ≤ 600) (na : Norm a) (hb : b.length ≤ 600) (nb : Norm b) : natural_check.f a b = some (0, 0) := by
  unfold natural_check.f
  rw [valid_true ha na, valid_true hb nb]
  rfl
/-- a sign that tells how two numbers compare -/
def Sgn (c x y : Int) : Prop := (c < 0 ↔ x < y) ∧ (c = 0 ↔ x = y)
theorem compare_loop {a b : List Int} (da : Dig B a) (db : Dig B b) (n : Nat) (ha : a.length = n) (hb : b.length = n) (hn : n ≤ 1000000) :
    ∀ (i k : Nat), i ≤ n → i < k → a.drop i = b.drop i → ∃ c, natural_compare.l0 k a b ((i : Int) - 1) = some c ∧ Sgn c (val B a) (val B b) ∧ -1 ≤ c ∧ c ≤ 1 := by
  intro i
  induction i with
  | zero =>
    intro k hi hk hd
    obtain ⟨k, rfl⟩ : ∃ j, k = j + 1 := ⟨k - 1, by omega⟩
    refine ⟨0, ?_, ?_, by omega, by omega⟩
    · rw [natural_compare.l0, if_neg (by omega)]
    · simp only [List.drop_zero] at hd
      rw [hd]
      exact ⟨by omega, by simp⟩
  | succ i ih =>
    intro k hi hk hd
    obtain ⟨k, rfl⟩ : ∃ j, k = j + 1 := ⟨k - 1, by omega⟩
    have e : ((i + 1 : Nat) : Int) - 1 = (i : Int) := by omega
    have w := wsub (i + 1) (by omega) (by omega)
    have w' : wrap64 ((i : Int) - 1) = (i : Int) - 1 := by unfold wrap64; omega
    rw [e, natural_compare.l0, if_pos (by omega), if_pos (by omega), if_pos (by omega), if_pos (by omega)]
    by_cases h1 : rd a (i : Int) = rd b (i : Int)
    · rw [if_pos h1, w']
      refine ih k (by omega) (by omega) ?_
      rw [List.drop_eq_getElem_cons (show i < a.length by omega), List.drop_eq_getElem_cons (show i < b.length by omega), hd, ← rd_get a i (by omega), ← rd_get b i (by omega), h1]
    · rw [if_neg h1]
      by_cases h2 : rd a (i : Int) < rd b (i : Int)
      · rw [if_pos h2]
        have := val_cmp (by decide) da db i (by omega) (by omega) hd h2
        exact ⟨-1, rfl, ⟨by omega, by omega⟩, by omega, by omega⟩
      · rw [if_neg h2]
        have := val_cmp (by decide) db da i (by omega) (by omega) hd.symm (by omega)
        exact ⟨1, rfl, ⟨by omega, by omega⟩, by omega, by omega⟩
theorem compare_ok {a b : List Int} (da : Dig B a) (db : Dig B b) (na : Norm a) (nb : Norm b) (ha : a.length ≤ 1000000) (hb : b.length ≤ 1000000) (k : Nat) (hk : a.length + 1 ≤ k) : ∃ c, natural_compare.f k a b = some c ∧ Sgn c (val B a) (val B b) := by
  unfold natural_compare.f
  by_cases h : (a.length : Int) = (b.length : Int)
  · rw [if_pos h]
    obtain ⟨c, h1, h2, _⟩ := compare_loop da db a.length rfl (by omega) (by omega) a.length k (by omega) (by omega) (by rw [List.drop_length, List.drop_eq_nil_of_le (by omega)])
    have w' : wrap64 ((a.length : Int) - 1) = (a.length : Int) - 1 := by unfold wrap64; omega
    rw [w']
    exact ⟨c, h1, h2⟩
  · rw [if_neg h]
    have w : wrap64 ((a.length : Int) - (b.length : Int)) = (a.length : Int) - (b.length : Int) := by unfold wrap64; omega
    refine ⟨_, rfl, ?_⟩
    rw [w]
    rcases Nat.lt_or_ge a.length b.length with g | g
    · have := val_lt_len (by decide) da db nb g
      exact ⟨by omega, by omega⟩
    · have := val_lt_len (by decide) db da na (by omega)
      exact ⟨by omega, by omega⟩
theorem cmp_ok {a b : List Int} (da : Dig B a) (db : Dig B b) (na : Norm a) (nb : Norm b) (ha : a.length ≤ 600) (hb : b.length ≤ 600) (k : Nat) (hk : a.length + 1 ≤ k) : ∃ c, natural_Cmp.f k a b = some (c, 0, 0) ∧ Sgn c (val B a) (val B b) ∧ -1 ≤ c ∧ c ≤ 1 := by
  obtain ⟨c, h1, h2⟩ := compare_ok da db na nb (by omega) (by omega) k hk
  unfold natural_Cmp.f
  rw [check_ok ha na hb nb]
  simp only [Option.bind_some, if_true]
  rw [h1]
  refine ⟨_, rfl, ?_⟩
  unfold Sgn at h2 ⊢
  unfold mn mx
  split <;> split <;> omega
/-- the sum of two numbers -/
theorem add_loop {a b : List Int} (da : Dig B a) (db : Dig B b) (hba : b.length ≤ a.length) (hn : a.length ≤ 100000) :
    ∀ (d i : Nat) (k : Nat) (out : List Int) (c : Int), i + d = a.length → out.length = i → Dig B out → 0 ≤ c → c ≤ 1 → d + a.length + 4 ≤ k →
      val B out + B ^ i * c = val B (a.take i) + val B (b.take i) →
      ∃ r, natural_add.l0 k b out c a (a.length : Int) (i : Int) = some r ∧ val B r = val B a + val B b ∧ Dig B r ∧ Norm r ∧ r.length ≤ a.length + 1 := by
  intro d
  induction d with
  | zero =>
    intro i k out c hi ho hd c0 c1 hk hv
    obtain ⟨k, rfl⟩ : ∃ j, k = j + 1 := ⟨k - 1, by omega⟩
    rw [natural_add.l0, if_neg (by omega), if_pos (by omega)]
    have e : c % 4294967296 = c := by omega
    rw [e]
    have hl : (out ++ [c]).length = out.length + 1 := by simp
    obtain ⟨r, h1, h2⟩ := trim_ok B (out ++ [c]).length (out ++ [c]) k rfl (by omega) (by omega)
    have h1' : natural_trim.f k (out ++ [c]) = some r := h1
    rw [h1']
    refine ⟨r, rfl, ?_, h2.dig (hd.append (Dig.one c0 (by unfold B; omega))), h2.norm, ?_⟩
    · rw [h2.val, val_snoc, ho, hv, List.take_of_length_le (by omega), List.take_of_length_le (by omega)]
    · have := h2.len; omega
  | succ d ih =>
    intro i k out c hi ho hd c0 c1 hk hv
    obtain ⟨k, rfl⟩ : ∃ j, k = j + 1 := ⟨k - 1, by omega⟩
    have ra := da.rd i (by omega)
    unfold B at ra
    rw [natural_add.l0, if_pos (by omega), if_pos (by omega), if_pos (by omega)]
    have u1 : IntKind.u64.wrap (rd a (i : Int)) = rd a (i : Int) := u64id (by omega) (by omega)
    have step : ∀ s : Int, 0 ≤ s → s < 2 * 4294967296 → val B (a.take (i + 1)) + val B (b.take (i + 1)) = val B out + B ^ i * s →
        ∃ r, natural_add.l0 k b (out ++ [s % 4294967296]) (s / 4294967296) a (a.length : Int) ((i + 1 : Nat) : Int) = some r ∧ val B r = val B a + val B b ∧ Dig B r ∧ Norm r ∧ r.length ≤ a.length + 1 := by
      intro s s0 s1 hs
      refine ih (i + 1) k _ _ (by omega) (by simp [ho]) (hd.append (Dig.one (by omega) (by unfold B; omega))) (by omega) (by omega) (by omega) ?_
      rw [val_snoc, ho, pow_split, hs, Int.mul_assoc]
      have e : s = s % 4294967296 + B * (s / 4294967296) := by unfold B; omega
      conv => rhs; rw [e, Int.mul_add]
      omega
    have hta := val_take B a i (by omega)
    by_cases hb : (i : Int) < (b.length : Int)
    · have rb := db.rd i (by omega)
      unfold B at rb
      have u2 : IntKind.u64.wrap (rd b (i : Int)) = rd b (i : Int) := u64id (by omega) (by omega)
      rw [if_pos hb, if_pos (by omega), wsucc i (by omega), u1, u2, u64id (x := c + rd a (i : Int)) (by omega) (by omega), u64id (by omega) (by omega)]
      have htb := val_take B b i (by omega)
      refine step _ (by omega) (by omega) ?_
      rw [hta, htb, Int.mul_add, Int.mul_add]
      omega
    · rw [if_neg hb, if_pos (by omega), wsucc i (by omega), u1, u64id (x := c + rd a (i : Int)) (by omega) (by omega)]
      have htb : val B (b.take (i + 1)) = val B (b.take i) := by rw [List.take_of_length_le (by omega), List.take_of_length_le (by omega)]
      refine step _ (by omega) (by omega) ?_
      rw [hta, htb, Int.mul_add]
      omega
theorem l50_eq : ∀ k x1 x5 x6 x20 x21 x22, natural_add.l50 k x1 x5 x6 x20 x21 x22 = natural_add.l0 k x1 x5 x6 x20 x21 x22 := by
  intro k
  induction k with
  | zero => intros; rw [natural_add.l50, natural_add.l0]
  | succ k ih => intros; rw [natural_add.l50, natural_add.l0]; simp only [ih]
theorem add_ok {a b : List Int} (da : Dig B a) (db : Dig B b) (ha : a.length ≤ 1000) (hb : b.length ≤ 1000) (k : Nat) (hk : 2010 ≤ k) :
    ∃ r, natural_add.f k a b = some r ∧ val B r = val B a + val B b ∧ Dig B r ∧ Norm r ∧ r.length ≤ 1001 := by
  have key : ∀ {a b : List Int}, Dig B a → Dig B b → b.length ≤ a.length → a.length ≤ 1000 → ∃ r, natural_add.l0 k b [] 0 a (a.length : Int) 0 = some r ∧ val B r = val B a + val B b ∧ Dig B r ∧ Norm r ∧ r.length ≤ 1001 := by
    intro a b da db hba ha
    obtain ⟨r, h1, h2, h3, h4, h5⟩ := add_loop da db hba (by omega) a.length 0 k [] 0 (by omega) rfl (Dig.nil B) (by omega) (by omega) (by omega) (by simp [val])
    exact ⟨r, h1, h2, h3, h4, by omega⟩
  unfold natural_add.f
  by_cases h : (a.length : Int) < (b.length : Int)
  · rw [if_pos h, wsucc _ (by omega), if_pos (by omega), if_pos (by omega)]
    obtain ⟨r, h1, h2, h3⟩ := key db da (by omega) hb
    exact ⟨r, h1, by omega, h3⟩
  · rw [if_neg h, wsucc _ (by omega), if_pos (by omega), if_pos (by omega), l50_eq]
    exact key da db (by omega) ha
theorem fit_ok {a : List Int} (ha : a.length ≤ 600) (na : Norm a) (k : Nat) (hk : 700 ≤ k) : natural_fit.f k a = some (a, 0, 0) := by
  unfold natural_fit.f
  have : natural_trim.f k a = some a := by
    unfold natural_trim.f
    obtain ⟨k, rfl⟩ : ∃ j, k = j + 1 := ⟨k - 1, by omega⟩
    rw [natural_trim.l0]
    by_cases h : (a.length : Int) > 0
    · rw [if_pos h, wsub _ (by omega) (by omega), if_pos (by omega), if_pos (by omega)]
      rcases na with rfl | na
      · simp at h
      · rw [if_neg na]
    · rw [if_neg h]
  rw [this]
  simp only [Option.bind_some]
  rw [if_neg (by omega)]
theorem Add_ok {a b : List Int} (da : Dig B a) (db : Dig B b) (na : Norm a) (nb : Norm b) (ha : a.length ≤ 200) (hb : b.length ≤ 200) (k : Nat) (hk : 2010 ≤ k) :
    ∃ r, natural_Add.f k a b = some (r, 0, 0) ∧ val B r = val B a + val B b ∧ Dig B r ∧ Norm r ∧ r.length ≤ 201 := by
  have key : ∀ {a b : List Int}, Dig B a → Dig B b → b.length ≤ a.length → a.length ≤ 200 → ∃ r, natural_add.l0 k b [] 0 a (a.length : Int) 0 = some r ∧ val B r = val B a + val B b ∧ Dig B r ∧ Norm r ∧ r.length ≤ 201 := by
    intro a b da db hba ha
    obtain ⟨r, h1, h2, h3, h4, h5⟩ := add_loop da db hba (by omega) a.length 0 k [] 0 (by omega) rfl (Dig.nil B) (by omega) (by omega) (by omega) (by simp [val])
    exact ⟨r, h1, h2, h3, h4, by omega⟩
  have main : ∃ r, natural_add.f k a b = some r ∧ val B r = val B a + val B b ∧ Dig B r ∧ Norm r ∧ r.length ≤ 201 := by
    unfold natural_add.f
    by_cases h : (a.length : Int) < (b.length : Int)
    · rw [if_pos h, wsucc _ (by omega), if_pos (by omega), if_pos (by omega)]
      obtain ⟨r, h1, h2, h3⟩ := key db da (by omega) hb
      exact ⟨r, h1, by omega, h3⟩
    · rw [if_neg h, wsucc _ (by omega), if_pos (by omega), if_pos (by omega), l50_eq]
      exact key da db (by omega) ha
  obtain ⟨r, h1, h2, h3, h4, h5⟩ := main
  unfold natural_Add.f
  rw [check_ok (by omega) na (by omega) nb, h1]
  simp only [Option.bind_some, if_true]
  rw [fit_ok (by omega) h4 k (by omega)]
  exact ⟨r, rfl, h2, h3, h4, h5⟩
end Go.Proofs.Ytkhiohlfdkkhdaa.Big

/- Differences and lengths in bits of numbers of many limbs; integers with signs. Conditions: those of each lemma. -/
set_option linter.unusedVariables false
namespace Go.Proofs.Ytkhiohlfdkkhdaa.Big
open Go.RowKit Go.Proofs.YtkhiohlfdkkhdaaW.PrintWords Go.Proofs.Ytkhiohlfdkkhdaa.P
theorem u32id (n : Int) (h₀ : 0 ≤ n) (h₁ : n < 2 ^ 32) : IntKind.u32.wrap n = n := by rw [IntKind.wrap_u32]; omega
theorem and32 (a b : Nat) (ha : a < 2 ^ 32) (hb : b < 2 ^ 32) : Go.bits .and .u32 (a : Int) (b : Int) = ((a &&& b : Nat) : Int) := (bits_nat .u32 32 (by decide) u32id a b ha hb).1
theorem or32 (a b : Nat) (ha : a < 2 ^ 32) (hb : b < 2 ^ 32) : Go.bits .or .u32 (a : Int) (b : Int) = ((a ||| b : Nat) : Int) := (bits_nat .u32 32 (by decide) u32id a b ha hb).2
theorem xor32 (a b : Nat) (ha : a < 2 ^ 32) (hb : b < 2 ^ 32) : Go.bits .xor .u32 (a : Int) (b : Int) = ((a ^^^ b : Nat) : Int) := by
  have ha' : a % 2 ^ IntKind.u32.bits = a := Nat.mod_eq_of_lt ha
  have hb' : b % 2 ^ IntKind.u32.bits = b := Nat.mod_eq_of_lt hb
  simp only [Go.bits, BitVec.ofInt_natCast, BitVec.toNat_xor, BitVec.toNat_ofNat, ha', hb']
  exact u32id _ (Int.natCast_nonneg _) (by have := Nat.xor_lt_two_pow ha hb; exact_mod_cast this)
theorem top (a : Nat) : a / 2147483648 = a >>> 31 := by rw [Nat.shiftRight_eq_div_pow]
/-- the borrow of a difference of two limbs -/
theorem sub32 (x y c : Int) (x0 : 0 ≤ x) (x1 : x < 4294967296) (y0 : 0 ≤ y) (y1 : y < 4294967296) (hc : c = 0 ∨ c = 1) :
    ∃ d : Int, (d = 0 ∨ d = 1) ∧ bits_Sub32.f x y c = some ((x - y - c) % 4294967296, d) ∧ (x - y - c) % 4294967296 = x - y - c + 4294967296 * d := by
  obtain ⟨x, rfl⟩ := Int.eq_ofNat_of_zero_le x0
  obtain ⟨y, rfl⟩ := Int.eq_ofNat_of_zero_le y0
  have hz0 : 0 ≤ ((x : Int) - y - c) % 4294967296 := by omega
  obtain ⟨z, hz⟩ := Int.eq_ofNat_of_zero_le hz0
  have z1 : z < 2 ^ 32 := by omega
  have hx : x < 2 ^ 32 := by omega
  have hy : y < 2 ^ 32 := by omega
  have hF : (4294967295 : Nat) < 2 ^ 32 := by decide
  unfold bits_Sub32.f
  rw [hz]
  have e1 : Go.bits .xor .u32 4294967295 (x : Int) = ((4294967295 ^^^ x : Nat) : Int) := xor32 4294967295 x hF hx
  have l1 := Nat.xor_lt_two_pow hF hx
  have e2 := and32 (4294967295 ^^^ x) y l1 hy
  have l2 : ((4294967295 ^^^ x) &&& y) < 2 ^ 32 := Nat.and_lt_two_pow _ hy
  have e3 := xor32 x y hx hy
  have l3 := Nat.xor_lt_two_pow hx hy
  have e4 : Go.bits .xor .u32 4294967295 ((x ^^^ y : Nat) : Int) = ((4294967295 ^^^ (x ^^^ y) : Nat) : Int) := xor32 4294967295 (x ^^^ y) hF l3
  have l4 := Nat.xor_lt_two_pow hF l3
  have e5 := and32 (4294967295 ^^^ (x ^^^ y)) z l4 z1
  have l5 : ((4294967295 ^^^ (x ^^^ y)) &&& z) < 2 ^ 32 := Nat.and_lt_two_pow _ z1
  have e6 := or32 _ _ l2 l5
  rw [e1, e2, e3, e4, e5, e6]
  have t : ((((4294967295 ^^^ x) &&& y) ||| ((4294967295 ^^^ (x ^^^ y)) &&& z)) / 2147483648) = (((1 ^^^ x / 2147483648) &&& (y / 2147483648)) ||| ((1 ^^^ (x / 2147483648 ^^^ y / 2147483648)) &&& (z / 2147483648))) := by
    simp only [top]
    rw [Nat.shiftRight_or_distrib, Nat.shiftRight_and_distrib, Nat.shiftRight_and_distrib, Nat.shiftRight_xor_distrib, Nat.shiftRight_xor_distrib, Nat.shiftRight_xor_distrib, show (4294967295 : Nat) >>> 31 = 1 from rfl]
  have t' : (((((4294967295 ^^^ x) &&& y) ||| ((4294967295 ^^^ (x ^^^ y)) &&& z) : Nat) : Int)) / 2147483648 = (((1 ^^^ x / 2147483648) &&& (y / 2147483648)) ||| ((1 ^^^ (x / 2147483648 ^^^ y / 2147483648)) &&& (z / 2147483648)) : Nat) := by
    rw [← t]; rfl
  rw [t']
  have b1 : x / 2147483648 = 0 ∨ x / 2147483648 = 1 := by omega
  have b2 : y / 2147483648 = 0 ∨ y / 2147483648 = 1 := by omega
  have b3 : z / 2147483648 = 0 ∨ z / 2147483648 = 1 := by omega
  rcases b1 with b1 | b1 <;> rcases b2 with b2 | b2 <;> rcases b3 with b3 | b3 <;> rw [b1, b2, b3] <;> refine ⟨_, ?_, rfl, ?_⟩ <;> simp <;> omega
theorem rd_set_same (l : List Int) (i : Nat) (v : Int) (h : i < l.length) : rd (l.set i v) (i : Int) = v := by
  rw [rd_get _ i (by simpa using h)]; simp
theorem Dig.set {b : Int} {l : List Int} (h : Dig b l) (i : Nat) {v : Int} (h0 : 0 ≤ v) (h1 : v < b) : Dig b (l.set i v) := by
  intro x hx
  rcases List.mem_or_eq_of_mem_set hx with g | g
  · exact h x g
  · subst g; exact ⟨h0, h1⟩
/-- the difference of a number and one that is not greater -/
theorem sub_loop {a b : List Int} (da : Dig B a) (db : Dig B b) (hv : val B b ≤ val B a) (hba : b.length ≤ a.length) (hn : a.length ≤ 100000) :
    ∀ (d i : Nat) (k : Nat) (out : List Int) (c : Int), i + d = a.length → out.length = a.length → Dig B out → out.drop i = a.drop i → (c = 0 ∨ c = 1) → d + a.length + 4 ≤ k →
      val B (out.take i) + val B (b.take i) = val B (a.take i) + B ^ i * c →
      ∃ r, natural_sub.l0 k b out c (a.length : Int) (i : Int) = some r ∧ val B r = val B a - val B b ∧ Dig B r ∧ Norm r ∧ r.length ≤ a.length := by
  intro d
  induction d with
  | zero =>
    intro i k out c hi ho hd hdr hc hk h
    obtain ⟨k, rfl⟩ : ∃ j, k = j + 1 := ⟨k - 1, by omega⟩
    rw [natural_sub.l0, if_neg (by omega)]
    obtain ⟨r, h1, h2⟩ := trim_ok B out.length out k rfl (by omega) (by omega)
    have h1' : natural_trim.f k out = some r := h1
    rw [h1']
    rw [List.take_of_length_le (by omega), List.take_of_length_le (by omega), List.take_of_length_le (by omega)] at h
    have hlt := val_lt (by decide) hd
    rw [ho] at hlt
    have hia : i = a.length := by omega
    have hc0 : c = 0 := by
      rcases hc with h | hc
      · exact h
      · exfalso
        rw [hc, hia, Int.mul_one] at h
        have h0 := val_nonneg (by decide) hd
        omega
    subst hc0
    refine ⟨r, rfl, ?_, h2.dig hd, h2.norm, ?_⟩
    · rw [h2.val]; omega
    · have := h2.len; omega
  | succ d ih =>
    intro i k out c hi ho hd hdr hc hk h
    obtain ⟨k, rfl⟩ : ∃ j, k = j + 1 := ⟨k - 1, by omega⟩
    have ra := hd.rd i (by omega)
    have hoa : rd out (i : Int) = rd a (i : Int) := by
      rw [rd_get out i (by omega), rd_get a i (by omega)]
      have q1 := List.drop_eq_getElem_cons (show i < out.length by omega)
      have q2 := List.drop_eq_getElem_cons (show i < a.length by omega)
      rw [q1, q2] at hdr
      exact (List.cons.inj hdr).1
    unfold B at ra
    have step : ∀ y e : Int, 0 ≤ y → y < 4294967296 → (e = 0 ∨ e = 1) → (rd out (i : Int) - y - c) % 4294967296 = rd out (i : Int) - y - c + 4294967296 * e → val B (b.take (i + 1)) = val B (b.take i) + B ^ i * y →
        ∃ r, natural_sub.l0 k b (out.set i ((rd out (i : Int) - y - c) % 4294967296)) e (a.length : Int) ((i + 1 : Nat) : Int) = some r ∧ val B r = val B a - val B b ∧ Dig B r ∧ Norm r ∧ r.length ≤ a.length := by
      intro y e y0 y1 he hz hb
      refine ih (i + 1) k _ _ (by omega) (by simpa using ho) (hd.set i (by omega) (by unfold B; omega)) ?_ he (by omega) ?_
      · rw [List.drop_set_of_lt (by omega)]
        have q1 := List.drop_eq_getElem_cons (show i < out.length by omega)
        have q2 := List.drop_eq_getElem_cons (show i < a.length by omega)
        rw [q1, q2] at hdr
        exact (List.cons.inj hdr).2
      · rw [val_take B _ i (by simp; omega), val_take B a i (by omega), List.take_set_of_le (Nat.le_refl i), rd_set_same out i _ (by omega), hz, hb, pow_split, ← hoa]
        simp only [Int.mul_add, Int.mul_sub, Int.mul_assoc]
        unfold B at h ⊢
        rw [show B = 4294967296 from rfl] at *
        omega
    by_cases hb : (i : Int) < (b.length : Int)
    · have rb := db.rd i (by omega)
      unfold B at rb
      obtain ⟨e, he, hs, hz⟩ := sub32 (rd out (i : Int)) (rd b (i : Int)) c ra.1 ra.2 rb.1 rb.2 hc
      rw [natural_sub.l0, if_pos (by omega), if_pos hb, if_pos (by omega), if_pos (by omega), hs, wsucc i (by omega), Int.toNat_natCast]
      simp only [Option.bind_some]
      exact step _ e rb.1 rb.2 he hz (val_take B b i (by omega))
    · obtain ⟨e, he, hs, hz⟩ := sub32 (rd out (i : Int)) 0 c ra.1 ra.2 (by omega) (by omega) hc
      rw [natural_sub.l0, if_pos (by omega), if_neg hb, if_pos (by omega), if_pos (by omega), hs, wsucc i (by omega), Int.toNat_natCast]
      simp only [Option.bind_some]
      exact step 0 e (by omega) (by omega) he hz (by rw [List.take_of_length_le (by omega), List.take_of_length_le (by omega)]; omega)
theorem Sub_ok {a b : List Int} (da : Dig B a) (db : Dig B b) (na : Norm a) (nb : Norm b) (ha : a.length ≤ 600) (hb : b.length ≤ 600) (hv : val B b ≤ val B a) (k : Nat) (hk : 2010 ≤ k) :
    ∃ r, natural_Sub.f k a b = some (r, 0, 0) ∧ val B r = val B a - val B b ∧ Dig B r ∧ Norm r ∧ r.length ≤ a.length := by
  have hl := len_le_of_val (by decide) db da nb hv
  obtain ⟨c, h1, h2⟩ := compare_ok da db na nb (by omega) (by omega) k (by omega)
  obtain ⟨r, g1, g2⟩ := sub_loop da db hv hl (by omega) a.length 0 k a 0 (by omega) rfl da rfl (.inl rfl) (by omega) (by simp [val])
  unfold natural_Sub.f
  rw [check_ok ha na hb nb]
  simp only [Option.bind_some, if_true]
  rw [h1]
  simp only [Option.bind_some]
  rw [if_neg (by unfold Sgn at h2; omega)]
  unfold natural_sub.f slices_Clone_uint32_uint32.f
  rw [if_pos (by omega)]
  simp only [Option.bind_some]
  have g1' : natural_sub.l0 k b a 0 (a.length : Int) 0 = some r := g1
  rw [g1']
  exact ⟨r, rfl, g2⟩
end Go.Proofs.Ytkhiohlfdkkhdaa.Big

/- Lengths in bits, and integers with signs: what the printed functions of package integer answer. Conditions: those of each lemma. -/
set_option linter.unusedVariables false
namespace Go.Proofs.Ytkhiohlfdkkhdaa.Big
open Go.RowKit Go.Proofs.YtkhiohlfdkkhdaaW.PrintWords Go.Proofs.Ytkhiohlfdkkhdaa.P
theorem bl_bounds : ∀ (f x : Nat), x < 2 ^ f → x ≠ 0 → 1 ≤ Lib.bitLenAux f x ∧ 2 ^ (Lib.bitLenAux f x - 1) ≤ x ∧ x < 2 ^ Lib.bitLenAux f x := by
  intro f
  induction f with
  | zero => intro x h h0; simp at h; omega
  | succ f ih =>
    intro x h h0
    rw [Lib.bitLenAux, if_neg h0]
    by_cases h1 : x / 2 = 0
    · have : x = 1 := by omega
      subst this
      have e : Lib.bitLenAux f (1 / 2) = 0 := by cases f <;> simp [Lib.bitLenAux]
      rw [e]
      decide
    · obtain ⟨a, b, c⟩ := ih (x / 2) (by rw [Nat.pow_succ] at h; omega) h1
      generalize Lib.bitLenAux f (x / 2) = q at *
      obtain ⟨q, rfl⟩ : ∃ p, q = p + 1 := ⟨q - 1, by omega⟩
      refine ⟨by omega, ?_, ?_⟩
      · rw [show 1 + (q + 1) - 1 = q + 1 by omega, Nat.pow_succ]
        rw [show q + 1 - 1 = q by omega] at b
        omega
      · rw [show 1 + (q + 1) = (q + 1) + 1 by omega, Nat.pow_succ]
        omega
theorem bl_le (x : Nat) (h : x < 2 ^ 32) : Lib.bitLen x ≤ 32 := Lib.bitLen_le x 32 (by decide) h
theorem B_pow (n : Nat) : B ^ n = 2 ^ (32 * n) := by
  induction n with
  | zero => rfl
  | succ n ih =>
    rw [Nat.mul_succ, Int.pow_add 2, ← ih, pow_split]
    rfl
/-- the length in bits -/
structure IsBits (n : Nat) (v : Int) : Prop where
  lt : v < 2 ^ n
  ge : n = 0 ∧ v = 0 ∨ 1 ≤ n ∧ 2 ^ (n - 1) ≤ v
theorem bits_ok {l : List Int} (d : Dig B l) (nl : Norm l) (hl : l.length ≤ 600) : ∃ n : Nat, natural_Bits.f l = some ((n : Int), 0, 0) ∧ IsBits n (val B l) ∧ n ≤ 32 * l.length := by
  unfold natural_Bits.f
  rw [valid_true hl nl]
  simp only [Option.bind_some, if_true]
  by_cases h0 : (l.length : Int) = 0
  · rw [if_pos h0]
    have : l = [] := List.length_eq_zero_iff.mp (by omega)
    subst this
    exact ⟨0, rfl, ⟨by simp [val], .inl ⟨rfl, rfl⟩⟩, by simp⟩
  · have e2 : ((l.length - 1 : Nat) : Int) = (l.length : Int) - 1 := by omega
    have r := d.rd (l.length - 1) (by omega)
    rw [e2] at r
    have hn : rd l ((l.length : Int) - 1) ≠ 0 := by
      rcases nl with rfl | h
      · simp at h0
      · exact h
    rw [if_neg h0, wsub _ (by omega) (by omega), if_pos (by omega), if_pos (by omega)]
    unfold bits_Len32.f
    unfold B at r
    rw [if_pos ⟨by omega, by omega⟩]
    have hv := val_take B l (l.length - 1) (by omega)
    rw [show l.length - 1 + 1 = l.length by omega, List.take_length, e2] at hv
    have t0 := val_nonneg (by decide) (d.take (l.length - 1))
    have t1 := val_lt (by decide) (d.take (l.length - 1))
    rw [List.length_take, Nat.min_eq_left (by omega)] at t1
    obtain ⟨x, hx⟩ := Int.eq_ofNat_of_zero_le r.1
    rw [hx] at r hn hv ⊢
    rw [Int.toNat_natCast]
    have q32 := bl_le x (by omega)
    obtain ⟨q1, q2, q3⟩ := bl_bounds 64 x (by omega) (by omega)
    change 1 ≤ Lib.bitLen x at q1
    change 2 ^ (Lib.bitLen x - 1) ≤ x at q2
    change x < 2 ^ Lib.bitLen x at q3
    generalize Lib.bitLen x = q at *
    have w1 : wrap64 (32 * ((l.length : Int) - 1)) = 32 * ((l.length : Int) - 1) := by unfold wrap64; omega
    have w2 : wrap64 (32 * ((l.length : Int) - 1) + (q : Int)) = 32 * ((l.length : Int) - 1) + (q : Int) := by unfold wrap64; omega
    simp only [Option.bind_some]
    rw [w1, w2]
    refine ⟨32 * (l.length - 1) + q, by congr 2; omega, ⟨?_, .inr ⟨by omega, ?_⟩⟩, by omega⟩
    · rw [hv, B_pow, Int.pow_add]
      rw [B_pow] at t1
      have q3' : (x : Int) + 1 ≤ 2 ^ q := by
        have : x + 1 ≤ 2 ^ q := q3
        exact_mod_cast this
      have := Int.mul_le_mul_of_nonneg_left q3' (Int.le_of_lt (pow_pos 2 (by decide) (32 * (l.length - 1))))
      rw [Int.mul_add, Int.mul_one] at this
      omega
    · rw [hv, B_pow, show 32 * (l.length - 1) + q - 1 = 32 * (l.length - 1) + (q - 1) by omega, Int.pow_add]
      have q2' : (2 : Int) ^ (q - 1) ≤ (x : Int) := by exact_mod_cast q2
      have := Int.mul_le_mul_of_nonneg_left q2' (Int.le_of_lt (pow_pos 2 (by decide) (32 * (l.length - 1))))
      omega
/-- an integer with its sign -/
def iv (neg : Bool) (l : List Int) : Int := if neg = true then -(val B l) else val B l
structure Ok (neg : Bool) (l : List Int) : Prop where
  dig : Dig B l
  norm : Norm l
  len : l.length ≤ 128
  sign : l = [] → neg = false
theorem ivalid_eq (neg : Bool) (l : List Int) : ∃ r, integer_Valid.f neg l = some r ∧ (r = true ↔ l.length ≤ 128 ∧ Norm l ∧ (l = [] → neg = false)) := by
  unfold integer_Valid.f
  by_cases h : (l.length : Int) ≤ 128
  · rw [if_pos h]
    by_cases h0 : (l.length : Int) = 0
    · have : l = [] := List.length_eq_zero_iff.mp (by omega)
      subst this
      rw [if_pos h0]
      cases neg
      · exact ⟨true, rfl, fun _ => ⟨by simp, .inl rfl, fun _ => rfl⟩, fun _ => rfl⟩
      · exact ⟨false, rfl, ⟨(fun h => by cases h), fun ⟨_, _, h⟩ => by cases h rfl⟩⟩
    · rw [if_neg h0, if_pos (by omega), wsub _ (by omega) (by omega), if_pos (by omega), if_pos (by omega)]
      refine ⟨_, rfl, ?_⟩
      rw [bne_iff_ne]
      constructor
      · intro h1
        refine ⟨by omega, .inr h1, ?_⟩
        rintro rfl
        simp at h0
      · rintro ⟨_, rfl | h1, _⟩
        · simp at h0
        · exact h1
  · rw [if_neg h]
    exact ⟨false, rfl, ⟨(fun h => by cases h), fun ⟨h1, _⟩ => by omega⟩⟩
theorem Ok.valid {neg : Bool} {l : List Int} (h : Ok neg l) : integer_Valid.f neg l = some true := by
  obtain ⟨r, h1, h2⟩ := ivalid_eq neg l
  rw [h1, h2.mpr ⟨h.len, h.norm, h.sign⟩]
theorem icheck_two (k : Nat) {na nb : Bool} {a b : List Int} (hk : 4 ≤ k) (ha : integer_Valid.f na a = some true) (hb : integer_Valid.f nb b = some true) :
    integer_check.f k [(⟨na, a⟩ : S24), (⟨nb, b⟩ : S24)] = some (0, 0) := by
  obtain ⟨k, rfl⟩ : ∃ j, k = j + 4 := ⟨k - 4, by omega⟩
  unfold integer_check.f
  rw [integer_check.l0, if_pos (by simp), if_pos (by simp), if_pos (by simp)]
  have r0 : rd_T24 [(⟨na, a⟩ : S24), (⟨nb, b⟩ : S24)] 0 = ⟨na, a⟩ := rfl
  have r1 : rd_T24 [(⟨na, a⟩ : S24), (⟨nb, b⟩ : S24)] 1 = ⟨nb, b⟩ := rfl
  have w1 : wrap64 (0 + 1) = 1 := by unfold wrap64; omega
  have w2 : wrap64 (1 + 1) = 2 := by unfold wrap64; omega
  rw [r0, ha]
  simp only [Option.bind_some, if_true]
  rw [w1, integer_check.l0, if_pos (by simp), if_pos (by simp), if_pos (by simp), r1, hb]
  simp only [Option.bind_some, if_true]
  rw [w2, integer_check.l0, if_neg (by simp)]
theorem icheck_one (k : Nat) {na : Bool} {a : List Int} (hk : 4 ≤ k) (ha : integer_Valid.f na a = some true) :
    integer_check.f k [(⟨na, a⟩ : S24)] = some (0, 0) := by
  obtain ⟨k, rfl⟩ : ∃ j, k = j + 4 := ⟨k - 4, by omega⟩
  unfold integer_check.f
  rw [integer_check.l0, if_pos (by simp), if_pos (by simp), if_pos (by simp)]
  have r0 : rd_T24 [(⟨na, a⟩ : S24)] 0 = ⟨na, a⟩ := rfl
  have w1 : wrap64 (0 + 1) = 1 := by unfold wrap64; omega
  rw [r0, ha]
  simp only [Option.bind_some, if_true]
  rw [w1, integer_check.l0, if_neg (by simp)]
theorem iv_neg_false (l : List Int) : iv false l = val B l := rfl
theorem iv_neg_true (l : List Int) : iv true l = -(val B l) := rfl
theorem val_pos {l : List Int} (d : Dig B l) (n : Norm l) (h : l ≠ []) : 0 < val B l := by
  have h1 := val_ge (by decide) d n (by have := List.length_pos_iff.mpr h; omega)
  have h2 := pow_pos B (by decide) (l.length - 1)
  omega
theorem icmp_ok {na nb : Bool} {a b : List Int} (ha : Ok na a) (hb : Ok nb b) (k : Nat) (hk : 200 ≤ k) : ∃ c, integer_Cmp.f k na a nb b = some (c, 0, 0) ∧ Sgn c (iv na a) (iv nb b) := by
  obtain ⟨c, h1, h2, h3, h4⟩ := cmp_ok ha.dig hb.dig ha.norm hb.norm (by have := ha.len; omega) (by have := hb.len; omega) k (by have := ha.len; omega)
  unfold integer_Cmp.f
  rw [icheck_two k (by omega) ha.valid hb.valid]
  simp only [Option.bind_some, if_true]
  rw [h1]
  simp only [Option.bind_some]
  refine ⟨_, rfl, ?_⟩
  have a0 := val_nonneg (by decide) ha.dig
  have b0 := val_nonneg (by decide) hb.dig
  have w : wrap64 (-c) = -c := by unfold wrap64; omega
  unfold Sgn at h2 ⊢
  cases na <;> cases nb
  · simp only [Bool.false_eq_true, if_false, iv]; exact h2
  · have hb1 : 0 < val B b := val_pos hb.dig hb.norm (fun e => by cases hb.sign e)
    simp only [Bool.false_eq_true, if_false, if_true, iv]
    omega
  · have ha1 : 0 < val B a := val_pos ha.dig ha.norm (fun e => by cases ha.sign e)
    simp only [Bool.false_eq_true, if_false, if_true, iv]
    omega
  · simp only [if_true, iv, w]
    omega
/-- what a sum or difference answers: the number, or that it is too large -/
structure Res (v : Int) (o : Option (Bool × List Int × Int × Int)) : Prop where
  mk ::
  out : ∃ l : List Int, Dig B l ∧ Norm l ∧ (val B l = v ∨ val B l = -v) ∧ l.length ≤ 201 ∧ ((128 < l.length ∧ o = some (false, [], 14, -1)) ∨ (l.length ≤ 128 ∧ ∃ n, o = some (n, l, 0, 0) ∧ Ok n l ∧ iv n l = v))
theorem signed_ok {l : List Int} (d : Dig B l) (n : Norm l) (hl : l.length ≤ 201) (neg : Bool) : Res (iv neg l) (integer_signed.f neg l) := by
  refine ⟨l, d, n, ?_, hl, ?_⟩
  · cases neg
    · exact .inl rfl
    · right; simp [iv]
  · unfold integer_signed.f
    by_cases h : (l.length : Int) > 128
    · left
      rw [if_pos h]
      exact ⟨by omega, rfl⟩
    · right
      rw [if_neg h]
      refine ⟨by omega, ?_⟩
      cases neg
      · rw [if_neg (by decide)]
        exact ⟨false, rfl, ⟨d, n, by omega, fun _ => rfl⟩, rfl⟩
      · rw [if_pos rfl]
        refine ⟨decide (0 < l.length), rfl, ⟨d, n, by omega, fun e => by subst e; rfl⟩, ?_⟩
        by_cases h0 : 0 < l.length
        · rw [decide_eq_true h0]
        · have : l = [] := List.length_eq_zero_iff.mp (by omega)
          subst this
          rfl
theorem plus_ok {na nb : Bool} {a b : List Int} (da : Dig B a) (db : Dig B b) (nra : Norm a) (nrb : Norm b) (ha : a.length ≤ 200) (hb : b.length ≤ 200) (k : Nat) (hk : 2010 ≤ k) : Res (iv na a + iv nb b) (integer_plus.f k na a nb b) := by
  unfold integer_plus.f
  by_cases hs : na = nb
  · subst hs
    rw [if_pos rfl]
    obtain ⟨r, h1, h2, h3, h4, h5⟩ := Add_ok da db nra nrb ha hb k hk
    rw [h1]
    simp only [Option.bind_some]
    have := signed_ok h3 h4 h5 na
    have e : iv na r = iv na a + iv na b := by cases na <;> simp only [iv, Bool.false_eq_true, if_false, if_true] <;> omega
    rw [e] at this
    exact this
  · rw [if_neg hs]
    obtain ⟨c, h1, h2, _⟩ := cmp_ok da db nra nrb (by omega) (by omega) k (by omega)
    rw [h1]
    simp only [Option.bind_some]
    unfold Sgn at h2
    by_cases hc : c < 0
    · rw [if_pos hc]
      obtain ⟨r, g1, g2, g3, g4, g5⟩ := Sub_ok db da nrb nra (by omega) (by omega) (by omega) k hk
      rw [g1]
      simp only [Option.bind_some]
      have := signed_ok g3 g4 (by omega) nb
      have e : iv nb r = iv na a + iv nb b := by
        cases na <;> cases nb
        · exact absurd rfl hs
        · simp only [iv, Bool.false_eq_true, if_false, if_true]; omega
        · simp only [iv, Bool.false_eq_true, if_false, if_true]; omega
        · exact absurd rfl hs
      rw [e] at this
      exact this
    · rw [if_neg hc]
      obtain ⟨r, g1, g2, g3, g4, g5⟩ := Sub_ok da db nra nrb (by omega) (by omega) (by omega) k hk
      rw [g1]
      simp only [Option.bind_some]
      have := signed_ok g3 g4 (by omega) na
      have e : iv na r = iv na a + iv nb b := by
        cases na <;> cases nb
        · exact absurd rfl hs
        · simp only [iv, Bool.false_eq_true, if_false, if_true]; omega
        · simp only [iv, Bool.false_eq_true, if_false, if_true]; omega
        · exact absurd rfl hs
      rw [e] at this
      exact this
theorem iadd_ok {na nb : Bool} {a b : List Int} (ha : Ok na a) (hb : Ok nb b) (k : Nat) (hk : 2010 ≤ k) : Res (iv na a + iv nb b) (integer_Add.f k na a nb b) := by
  unfold integer_Add.f
  rw [icheck_two k (by omega) ha.valid hb.valid]
  simp only [Option.bind_some, if_true]
  exact plus_ok ha.dig hb.dig ha.norm hb.norm (by have := ha.len; omega) (by have := hb.len; omega) k hk
theorem isub_ok {na nb : Bool} {a b : List Int} (ha : Ok na a) (hb : Ok nb b) (k : Nat) (hk : 2010 ≤ k) : Res (iv na a - iv nb b) (integer_Sub.f k na a nb b) := by
  unfold integer_Sub.f
  rw [icheck_two k (by omega) ha.valid hb.valid]
  simp only [Option.bind_some, if_true]
  have := plus_ok (na := na) (nb := !nb) ha.dig hb.dig ha.norm hb.norm (by have := ha.len; omega) (by have := hb.len; omega) k hk
  have e : iv na a + iv (!nb) b = iv na a - iv nb b := by cases nb <;> simp only [iv, Bool.not_true, Bool.not_false, Bool.false_eq_true, if_false, if_true] <;> omega
  rw [e] at this
  exact this
theorem ibits_ok {na : Bool} {a : List Int} (ha : Ok na a) (k : Nat) (hk : 4 ≤ k) : ∃ n : Nat, integer_Bits.f k na a = some ((n : Int), 0, 0) ∧ IsBits n (val B a) ∧ n ≤ 4096 := by
  obtain ⟨n, h1, h2, h3⟩ := bits_ok ha.dig ha.norm (by have := ha.len; omega)
  unfold integer_Bits.f
  rw [icheck_one k hk ha.valid]
  exact ⟨n, h1, h2, by have := ha.len; omega⟩
theorem ok_one : Ok false [1] := ⟨Dig.one (by decide) (by decide), .inr (by decide), by decide, fun h => by cases h⟩
theorem Ok.pos {l : List Int} {n : Bool} (h : Ok n l) (hv : 0 ≤ iv n l) : n = false := by
  cases n
  · rfl
  · exfalso
    have : 0 < val B l := val_pos h.dig h.norm (fun e => by cases h.sign e)
    rw [iv_neg_true] at hv
    omega
end Go.Proofs.Ytkhiohlfdkkhdaa.Big

/- Drawing integers of many limbs: each try ends, and some try is below the bound, whatever the generator. Conditions: those of each lemma. -/
set_option linter.unusedVariables false
namespace Go.Proofs.Ytkhiohlfdkkhdaa.Big
open Go.RowKit Go.Proofs.YtkhiohlfdkkhdaaW.PrintWords Go.Proofs.Ytkhiohlfdkkhdaa.P
open Go.Proofs.Ytkhiohlfdkkhdaa.PL (aff it itz itz_mod itz_even hits mixf mix_range next_def it_range aff_range it_add)
theorem itz_add (p q : Int) (m n : Nat) (x : Int) : itz p q (n + m) x = itz p q m (itz p q n x) := by
  induction n generalizing x with
  | zero => simp [itz]
  | succ n ih => rw [Nat.succ_add]; simp only [itz]; exact ih _
theorem itz_aff (p q : Int) (m : Nat) : ∀ x, itz p q m x = p ^ m * x + itz p q m 0 := by
  induction m with
  | zero => intro x; simp [itz]
  | succ m ih =>
    intro x
    simp only [itz]
    rw [ih (x * p + q), ih (0 * p + q), pow_split]
    grind
theorem itz_odd (p q : Int) (hp : p % 4 = 1) (hq : q % 2 = 1) : ∀ m : Nat, (p ^ m) % 4 = 1 ∧ (itz p q m 0) % 2 = (m : Int) % 2 := by
  intro m
  induction m with
  | zero => exact ⟨by simp, by simp [itz]⟩
  | succ m ih =>
    obtain ⟨h1, h2⟩ := ih
    obtain ⟨a, ha⟩ : ∃ a, p = 4 * a + 1 := ⟨p / 4, by omega⟩
    obtain ⟨b, hb⟩ : ∃ b, p ^ m = 4 * b + 1 := ⟨p ^ m / 4, by omega⟩
    obtain ⟨c, hc⟩ : ∃ c, q = 2 * c + 1 := ⟨q / 2, by omega⟩
    refine ⟨?_, ?_⟩
    · rw [pow_split, hb, ha, show (4 * b + 1) * (4 * a + 1) = 4 * (b * (4 * a + 1) + a) + 1 by grind]; omega
    · simp only [itz]
      rw [itz_aff, hb, hc]
      rw [hc] at h2
      rw [show (4 * b + 1) * (0 * p + (2 * c + 1)) = 2 * (2 * b * (2 * c + 1) + c) + 1 by grind]
      omega
theorem itz_stride (p q : Int) (m : Nat) : ∀ (n : Nat) (x : Int), itz p q (m * n) x = itz (p ^ m) (itz p q m 0) n x := by
  intro n
  induction n with
  | zero => intro x; rfl
  | succ n ih =>
    intro x
    rw [show m * (n + 1) = m + m * n by rw [Nat.mul_succ]; omega, itz_add, ih]
    simp only [itz]
    rw [itz_aff p q m x, Int.mul_comm]
theorem hits_stride (k m : Nat) (hm : m % 2 = 1) : ∀ (e : Nat) (p q y : Int), p % 4 = 1 → q % 2 = 1 → ∃ n : Nat, ∃ c : Int, itz p q (2 ^ e * m * n) (2 ^ e * y) = 2 ^ k * c := by
  intro e
  induction e with
  | zero =>
    intro p q y hp hq
    obtain ⟨h1, h2⟩ := itz_odd p q hp hq m
    obtain ⟨n, c, h⟩ := hits k (p ^ m) (itz p q m 0) y h1 (by omega)
    refine ⟨n, c, ?_⟩
    rw [show 2 ^ 0 * m * n = m * n by rw [Nat.pow_zero, Nat.one_mul], itz_stride, show (2 : Int) ^ 0 * y = y by simp]
    exact h
  | succ e ih =>
    intro p q y hp hq
    obtain ⟨a, rfl⟩ : ∃ a, p = 4 * a + 1 := ⟨p / 4, by omega⟩
    obtain ⟨b, rfl⟩ : ∃ b, q = 2 * b + 1 := ⟨q / 2, by omega⟩
    have e1 : ((4 * a + 1) * (4 * a + 1)) % 4 = 1 := by
      rw [show (4 * a + 1) * (4 * a + 1) = 4 * (a * (4 * a + 1) + a) + 1 by grind]; omega
    have e2 : ((2 * b + 1) * (2 * a + 1)) % 2 = 1 := by
      rw [show (2 * b + 1) * (2 * a + 1) = 2 * (b * (2 * a + 1) + a) + 1 by grind]; omega
    obtain ⟨n, c, h⟩ := ih _ _ y e1 e2
    refine ⟨n, 2 * c, ?_⟩
    rw [show 2 ^ (e + 1) * m * n = 2 * (2 ^ e * m * n) by rw [Nat.pow_succ]; grind, show (2 : Int) ^ (e + 1) * y = 2 * (2 ^ e * y) by rw [Int.pow_succ]; grind]
    rw [itz_even (4 * a + 1) (2 * b + 1) (2 ^ e * y) _ ((2 * b + 1) * (2 * a + 1)) rfl (by grind), h]
    grind
theorem itz_shift (p q y : Int) : ∀ (n : Nat) (x : Int), itz p q n x = itz p (q + (p - 1) * y) n (x - y) + y := by
  intro n
  induction n with
  | zero => intro x; simp only [itz]; omega
  | succ n ih =>
    intro x
    simp only [itz]
    rw [ih (x * p + q), show (x - y) * p + (q + (p - 1) * y) = x * p + q - y by grind]
/-- the parts of a stride -/
theorem split2 : ∀ L : Nat, 1 ≤ L → ∃ e m : Nat, m % 2 = 1 ∧ L = 2 ^ e * m := by
  intro L
  induction L using Nat.strongRecOn with
  | _ L ih =>
    intro h
    by_cases h2 : L % 2 = 1
    · exact ⟨0, L, h2, by simp⟩
    · obtain ⟨e, m, hm, he⟩ := ih (L / 2) (by omega) (by omega)
      refine ⟨e + 1, m, hm, ?_⟩
      rw [Nat.pow_succ]
      have : L = 2 * (L / 2) := by omega
      rw [this, he]
      grind
theorem wit_all : ((List.range 128).all fun r => (List.range 32).any fun j => decide (mixf (((r + 128 * j : Nat) : Int)) < 9223372036854775808)) = true := by kernel_rfl
theorem wit (r : Nat) (h : r < 128) : ∃ y : Int, 0 ≤ y ∧ y < 18446744073709551616 ∧ y % 128 = (r : Int) ∧ mixf y < 9223372036854775808 := by
  have h1 := (List.all_eq_true.mp wit_all) r (by simpa using h)
  obtain ⟨j, hj, h2⟩ := List.any_eq_true.mp h1
  have hj' : j < 32 := by simpa using hj
  exact ⟨((r + 128 * j : Nat) : Int), by omega, by omega, by omega, of_decide_eq_true h2⟩
/-- At some try the last number drawn has no highest bit. -/
theorem low_at (t : Int) (ht : ¬ t % 2 = 0) (L : Nat) (hL : 1 ≤ L) (hL2 : L ≤ 128) (x : Int) (x0 : 0 ≤ x) (x1 : x < 18446744073709551616) : ∃ n : Nat, mixf (it t (L * n) x) < 9223372036854775808 := by
  obtain ⟨e, m, hm, he⟩ := split2 L hL
  have hm0 : 1 ≤ m := by omega
  have he7 : 2 ^ e ≤ 2 ^ 7 := by
    have := Nat.le_mul_of_pos_right (2 ^ e) (show 0 < m by omega)
    omega
  have e7 : e ≤ 7 := by
    rcases Nat.lt_or_ge 7 e with g | g
    · have := Nat.pow_le_pow_right (n := 2) (by decide) (show 8 ≤ e by omega)
      omega
    · exact g
  obtain ⟨y, y0, y1, y2, y3⟩ := wit (x % 128).toNat (by omega)
  obtain ⟨d, hd⟩ : ∃ d, x - y = 128 * d := ⟨(x - y) / 128, by omega⟩
  have h128 : (128 : Int) = 2 ^ e * 2 ^ (7 - e) := by rw [← Int.pow_add, show e + (7 - e) = 7 by omega]; rfl
  rw [h128, Int.mul_assoc] at hd
  have hq : (t + (6364136223846793005 - 1) * y) % 2 = 1 := by omega
  obtain ⟨n, c, h⟩ := hits_stride 64 m hm e 6364136223846793005 (t + (6364136223846793005 - 1) * y) (2 ^ (7 - e) * d) (by decide) hq
  refine ⟨n, ?_⟩
  obtain ⟨c2, hc2⟩ := itz_mod t (L * n) x x 0 (by omega)
  have hr := it_range t (L * n) x x0 x1
  have : it t (L * n) x = y := by
    rw [itz_shift _ _ y, hd, he, h, show (2 : Int) ^ 64 = 18446744073709551616 by decide] at hc2
    rw [he] at hr ⊢
    omega
  rw [this]
  exact y3
/-- a limb that is drawn -/
def hi (t s : Int) (j : Nat) : Int := mixf (it t (j + 1) s) / 4294967296 % 4294967296
def limb (t s : Int) (n j : Nat) : Int := if n - 32 * j < 32 then shr .u32 (hi t s j) ((32 - (n - 32 * j) : Nat) : Int) else hi t s j
def raw (t s : Int) (n j : Nat) : List Int := (List.range j).map (limb t s n)
theorem raw_len (t s : Int) (n j : Nat) : (raw t s n j).length = j := by simp [raw]
theorem raw_succ (t s : Int) (n j : Nat) : raw t s n j ++ [limb t s n j] = raw t s n (j + 1) := by simp [raw, List.range_succ]
theorem hi_range (t s : Int) (j : Nat) : 0 ≤ hi t s j ∧ hi t s j < 4294967296 := by unfold hi; omega
theorem shr_eq (x : Int) (m : Nat) (hm : m ≤ 32) : shr .u32 x (m : Int) = x / 2 ^ m := by
  unfold shr
  have : min ((m : Int).toNat) (IntKind.bits .u32) = m := by
    have : IntKind.bits .u32 = 32 := rfl
    rw [this]; omega
  rw [this]
theorem limb_top (t s : Int) (n j : Nat) (h : n - 32 * j < 32) (h0 : 32 * j < n) : limb t s n j = hi t s j / 2 ^ (32 - (n - 32 * j)) := by
  unfold limb
  rw [if_pos h, shr_eq _ _ (by omega)]
theorem limb_range (t s : Int) (n j : Nat) (h0 : 32 * j < n) : 0 ≤ limb t s n j ∧ limb t s n j < 4294967296 := by
  have hr := hi_range t s j
  by_cases h : n - 32 * j < 32
  · rw [limb_top t s n j h h0]
    have hp := pow_pos 2 (by decide) (32 - (n - 32 * j))
    exact ⟨Int.ediv_nonneg hr.1 (Int.le_of_lt hp), Int.lt_of_le_of_lt (Int.ediv_le_self _ hr.1) hr.2⟩
  · unfold limb
    rw [if_neg h]; exact hr
theorem raw_dig (t s : Int) (n : Nat) : ∀ j, 32 * j < n + 32 → Dig B (raw t s n j) := by
  intro j
  induction j with
  | zero => intro _; exact Dig.nil B
  | succ j ih =>
    intro h
    rw [← raw_succ]
    have := limb_range t s n j (by omega)
    exact (ih (by omega)).append (Dig.one this.1 this.2)
/-- how many limbs are drawn -/
def nL (n : Nat) : Nat := (n + 31) / 32
/-- The number that is drawn has at most n bits; with a low last draw it has one less. -/
theorem raw_lt (t s : Int) (n : Nat) (hn : 1 ≤ n) : val B (raw t s n (nL n)) < 2 ^ n ∧ (mixf (it t (nL n) s) < 9223372036854775808 → val B (raw t s n (nL n)) < 2 ^ (n - 1)) := by
  obtain ⟨j, hj⟩ : ∃ j, nL n = j + 1 := ⟨nL n - 1, by unfold nL; omega⟩
  have hj1 : 32 * j < n := by unfold nL at hj; omega
  have hj2 : n ≤ 32 * j + 32 := by unfold nL at hj; omega
  rw [hj, ← raw_succ, val_snoc, raw_len]
  have h1 := val_lt (by decide) (raw_dig t s n j (by omega))
  rw [raw_len, B_pow] at h1
  rw [B_pow]
  have hr := hi_range t s j
  have key : ∀ b : Nat, b ≤ n → 32 * j ≤ b → limb t s n j < 2 ^ (b - 32 * j) → val B (raw t s n j) + 2 ^ (32 * j) * limb t s n j < 2 ^ b := by
    intro b hb hb2 hl
    have h2 : limb t s n j + 1 ≤ 2 ^ (b - 32 * j) := hl
    have h3 := Int.mul_le_mul_of_nonneg_left h2 (Int.le_of_lt (pow_pos 2 (by decide) (32 * j)))
    rw [Int.mul_add, Int.mul_one, ← Int.pow_add, show 32 * j + (b - 32 * j) = b by omega] at h3
    omega
  have hm := mix_range (it t (j + 1) s)
  refine ⟨key n (Nat.le_refl n) (by omega) ?_, fun hlow => key (n - 1) (by omega) (by omega) ?_⟩
  · by_cases h : n - 32 * j < 32
    · rw [limb_top t s n j h hj1]
      refine Int.ediv_lt_of_lt_mul (pow_pos 2 (by decide) _) ?_
      rw [← Int.pow_add, show n - 32 * j + (32 - (n - 32 * j)) = 32 by omega]
      exact hr.2
    · unfold limb
      rw [if_neg h, show n - 32 * j = 32 by omega]
      exact hr.2
  · have hl : hi t s j < 2147483648 := by unfold hi; omega
    by_cases h : n - 32 * j < 32
    · rw [limb_top t s n j h hj1]
      refine Int.ediv_lt_of_lt_mul (pow_pos 2 (by decide) _) ?_
      rw [← Int.pow_add, show n - 1 - 32 * j + (32 - (n - 32 * j)) = 31 by omega]
      exact hl
    · unfold limb
      rw [if_neg h, show n - 1 - 32 * j = 31 by omega]
      exact hl
end Go.Proofs.Ytkhiohlfdkkhdaa.Big

/- Integers below a bound and between two bounds are drawn, whatever the generator. Conditions: those of each lemma. -/
set_option linter.unusedVariables false
namespace Go.Proofs.Ytkhiohlfdkkhdaa.Big
open Go.RowKit Go.Proofs.YtkhiohlfdkkhdaaW.PrintWords Go.Proofs.Ytkhiohlfdkkhdaa.P
open Go.Proofs.Ytkhiohlfdkkhdaa.PL (aff it itz itz_mod itz_even hits mixf mix_range next_def it_range aff_range it_add)
theorem it_step (t s : Int) (n : Nat) : it t (n + 1) s = aff t (it t n s) := by rw [it_add]; rfl
/-- the limbs of a try -/
theorem bits_l1 (s t b : Int) : ∀ (n : Nat) (l : List Int) (k : Nat), l.length = n → n ≤ 1000000 → n < k → ∃ r, random_source_bits.l1 k l s t = some (false, r, s, t) ∧ Cut B l r := by
  intro n
  induction n with
  | zero =>
    intro l k hl hn hk
    obtain ⟨k, rfl⟩ : ∃ j, k = j + 1 := ⟨k - 1, by omega⟩
    refine ⟨l, ?_, cut_end (.inl (List.length_eq_zero_iff.mp hl))⟩
    rw [random_source_bits.l1, if_neg (by omega)]
  | succ n ih =>
    intro l k hl hn hk
    obtain ⟨k, rfl⟩ : ∃ j, k = j + 1 := ⟨k - 1, by omega⟩
    have w := wsub l.length (by omega) (by omega)
    by_cases h0 : rd l ((l.length : Int) - 1) = 0
    · obtain ⟨r, hr, hc⟩ := ih (l.take (l.length - 1)) k (by rw [List.length_take]; omega) (by omega) (by omega)
      refine ⟨r, ?_, cut_step (by omega) h0 hc⟩
      have e : ((l.length : Int) - 1).toNat = l.length - 1 := by omega
      rw [random_source_bits.l1, if_pos (by omega), w, if_pos (by omega), if_pos (by omega), if_pos h0, if_pos (by omega), e]
      exact hr
    · refine ⟨l, ?_, cut_end (.inr h0)⟩
      rw [random_source_bits.l1, if_pos (by omega), w, if_pos (by omega), if_pos (by omega), if_neg h0]
theorem bits_l0 (t s : Int) (n : Nat) (hn : n ≤ 4096) : ∀ (d j k : Nat), j + d = nL n → d + 1 ≤ k →
    random_source_bits.l0 k ((n : Int) - 32 * j) (raw t s n j) (it t j s) t = random_source_bits.l1 (k - d - 1) (raw t s n (nL n)) (it t (nL n) s) t := by
  intro d
  induction d with
  | zero =>
    intro j k hj hk
    obtain ⟨k, rfl⟩ : ∃ j, k = j + 1 := ⟨k - 1, by omega⟩
    obtain rfl : j = nL n := by omega
    rw [random_source_bits.l0, if_neg (by unfold nL; omega), show k + 1 - 0 - 1 = k by omega]
  | succ d ih =>
    intro j k hj hk
    obtain ⟨k, rfl⟩ : ∃ j, k = j + 1 := ⟨k - 1, by omega⟩
    have hlt : 32 * j < n := by unfold nL at hj; omega
    have w2 : wrap64 (((n : Int) - 32 * j) - 32) = (n : Int) - 32 * ((j + 1 : Nat) : Int) := by unfold wrap64; omega
    have hl : (raw t s n j).length = j := raw_len t s n j
    rw [random_source_bits.l0, if_pos (by omega), next_def]
    simp only [Option.bind_some]
    rw [w2, ← it_step]
    have hI := ih (j + 1) k (by omega) (by omega)
    rw [show k + 1 - (d + 1) - 1 = k - d - 1 by omega]
    by_cases h32 : (n : Int) - 32 * j < 32
    · have w1 : wrap64 (32 - ((n : Int) - 32 * j)) = ((32 - (n - 32 * j) : Nat) : Int) := by unfold wrap64; omega
      rw [if_pos h32, w1, if_pos (by omega), if_pos (by omega)]
      have e : limb t s n j = shr .u32 (mixf (it t (j + 1) s) / 4294967296 % 4294967296) ((32 - (n - 32 * j) : Nat) : Int) := by
        unfold limb; rw [if_pos (by omega)]; rfl
      rw [← e, raw_succ]
      exact hI
    · rw [if_neg h32, if_pos (by omega)]
      have e : limb t s n j = mixf (it t (j + 1) s) / 4294967296 % 4294967296 := by
        unfold limb; rw [if_neg (by omega)]; rfl
      rw [← e, raw_succ]
      exact hI
theorem bits_draw (t s : Int) (n : Nat) (hn : n ≤ 4096) (k : Nat) (hk : 300 ≤ k) : ∃ r, random_source_bits.f k s t (n : Int) = some (false, r, it t (nL n) s, t) ∧ Cut B (raw t s n (nL n)) r := by
  have h := bits_l0 t s n hn (nL n) 0 k (by omega) (by unfold nL; omega)
  unfold random_source_bits.f
  have e : (n : Int) - 32 * ((0 : Nat) : Int) = (n : Int) := by omega
  rw [e] at h
  have h' : random_source_bits.l0 k (n : Int) [] s t = random_source_bits.l1 (k - nL n - 1) (raw t s n (nL n)) (it t (nL n) s) t := h
  rw [h']
  have hl := raw_len t s n (nL n)
  exact bits_l1 (it t (nL n) s) t 0 (raw t s n (nL n)).length (raw t s n (nL n)) (k - nL n - 1) rfl (by rw [hl]; unfold nL; omega) (by rw [hl]; unfold nL; omega)
/-- The number of a try, as an integer. -/
theorem cut_ok {t s : Int} {n : Nat} {r : List Int} (hn : n ≤ 4096) (h : Cut B (raw t s n (nL n)) r) : Ok false r := by
  refine ⟨h.dig (raw_dig t s n (nL n) (by unfold nL; omega)), h.norm, ?_, fun _ => rfl⟩
  have := h.len
  rw [raw_len] at this
  unfold nL at this
  omega
/-- one try -/
theorem below_try {N : List Int} {nb : Bool} (hN : Ok nb N) (t s : Int) (n : Nat) (hn : n ≤ 4096) (k : Nat) (hk : 300 ≤ k) :
    ∃ r, Cut B (raw t s n (nL n)) r ∧ random_source_below.l0 (k + 1) (n : Int) s t nb N = if val B r < iv nb N then some (false, r, it t (nL n) s, t) else random_source_below.l0 k (n : Int) (it t (nL n) s) t nb N := by
  obtain ⟨r, h1, h2⟩ := bits_draw t s n hn k hk
  obtain ⟨c, g1, g2⟩ := icmp_ok (cut_ok hn h2) hN k (by omega)
  refine ⟨r, h2, ?_⟩
  rw [random_source_below.l0, h1]
  simp only [Option.bind_some]
  rw [g1]
  simp only [Option.bind_some]
  rw [iv_neg_false] at g2
  unfold Sgn at g2
  by_cases hc : c < 0
  · rw [if_pos hc, if_pos (g2.1.mp hc)]
  · rw [if_neg hc, if_neg (fun h => hc (g2.1.mpr h))]
/-- the tries -/
theorem below_tries {N : List Int} {nb : Bool} (hN : Ok nb N) (t : Int) (ht : ¬ t % 2 = 0) (n : Nat) (hn : n ≤ 4096) (hlow : ∀ v : Int, v < 2 ^ (n - 1) → 1 ≤ n → v < iv nb N) (h0 : n = 0 → 0 < iv nb N) :
    ∀ (m : Nat) (s : Int), (1 ≤ n → mixf (it t (nL n * (m + 1)) s) < 9223372036854775808) → ∃ (r : List Int) (s' : Int) (j : Nat), Ok false r ∧ val B r < iv nb N ∧ s' = it t (nL n * (j + 1)) s ∧ ∀ k, m + 301 ≤ k → random_source_below.l0 k (n : Int) s t nb N = some (false, r, s', t) := by
  have hzero : n = 0 → ∀ s : Int, val B (raw t s n (nL n)) = 0 := by
    intro h s
    subst h
    rfl
  intro m
  induction m with
  | zero =>
    intro s hm
    obtain ⟨r, h1, h2⟩ := below_try hN t s n hn 300 (Nat.le_refl _)
    have hlt : val B r < iv nb N := by
      rw [h1.val]
      by_cases hn0 : n = 0
      · rw [hzero hn0]; exact h0 hn0
      · have := (raw_lt t s n (by omega)).2 (by simpa using hm (by omega))
        exact hlow _ this (by omega)
    refine ⟨r, _, 0, cut_ok hn h1, hlt, rfl, fun k hk => ?_⟩
    obtain ⟨k, rfl⟩ : ∃ j, k = j + 1 := ⟨k - 1, by omega⟩
    obtain ⟨r', g1, g2⟩ := below_try hN t s n hn k (by omega)
    have e : r' = r := val_inj (by decide) (cut_ok hn g1).dig (cut_ok hn h1).dig g1.norm h1.norm (g1.val.trans h1.val.symm)
    subst e
    rw [g2, if_pos hlt, Nat.zero_add, Nat.mul_one]
  | succ m ih =>
    intro s hm
    obtain ⟨r, h1, h2⟩ := below_try hN t s n hn 300 (Nat.le_refl _)
    by_cases hlt : val B r < iv nb N
    · refine ⟨r, _, 0, cut_ok hn h1, hlt, rfl, fun k hk => ?_⟩
      obtain ⟨k, rfl⟩ : ∃ j, k = j + 1 := ⟨k - 1, by omega⟩
      obtain ⟨r', g1, g2⟩ := below_try hN t s n hn k (by omega)
      have e : r' = r := val_inj (by decide) (cut_ok hn g1).dig (cut_ok hn h1).dig g1.norm h1.norm (g1.val.trans h1.val.symm)
      subst e
      rw [g2, if_pos hlt, Nat.zero_add, Nat.mul_one]
    · obtain ⟨q, s', j, a1, a2, a3, a4⟩ := ih (it t (nL n) s) (fun h => by
        have := hm h
        rw [show nL n * (m + 1 + 1) = nL n + nL n * (m + 1) by rw [Nat.mul_succ (nL n) (m + 1)]; omega, it_add] at this
        exact this)
      refine ⟨q, s', j + 1, a1, a2, ?_, fun k hk => ?_⟩
      · rw [a3, ← it_add, show nL n + nL n * (j + 1) = nL n * (j + 1 + 1) by rw [Nat.mul_succ (nL n) (j + 1)]; omega]
      · obtain ⟨k, rfl⟩ : ∃ j, k = j + 1 := ⟨k - 1, by omega⟩
        obtain ⟨r', g1, g2⟩ := below_try hN t s n hn k (by omega)
        have e : r' = r := val_inj (by decide) (cut_ok hn g1).dig (cut_ok hn h1).dig g1.norm h1.norm (g1.val.trans h1.val.symm)
        subst e
        rw [g2, if_neg hlt]
        exact a4 k (by omega)
theorem of_one : integer_Of.f 200 1 = some (false, [1]) := by kernel_rfl
theorem of_one_at (k : Nat) (hk : 200 ≤ k) : integer_Of.f k 1 = some (false, [1]) := lift (fun k => integer_Of.f k 1) (fun k => integer_Of.mono _ _) of_one k hk
theorem iv_one : iv false [1] = 1 := by decide
/-- the number of bits of the last number below a bound -/
structure Last (N : List Int) (nb : Bool) (n : Nat) : Prop where
  ok : Ok nb N
  pos : 0 < iv nb N
  bits : IsBits n (iv nb N - 1)
  le : n ≤ 4096
theorem Last.low {N : List Int} {nb : Bool} {n : Nat} (h : Last N nb n) : (∀ v : Int, v < 2 ^ (n - 1) → 1 ≤ n → v < iv nb N) ∧ (n = 0 → 0 < iv nb N) := by
  refine ⟨fun v hv hn => ?_, fun _ => h.pos⟩
  rcases h.bits.ge with ⟨h0, _⟩ | ⟨_, hg⟩
  · omega
  · omega
theorem last_of {N : List Int} {nb : Bool} (hN : Ok nb N) (hp : 0 < iv nb N) (k : Nat) (hk : 2010 ≤ k) : ∃ n, Last N nb n ∧ ∀ s t, random_source_below.f k s t nb N = random_source_below.l0 k (n : Int) s t nb N := by
  obtain ⟨l, d, nl, hv, hl, hr⟩ := (isub_ok hN ok_one k hk).out
  rw [iv_one] at hv hr
  have hnn : 0 ≤ val B l := val_nonneg (by decide) d
  have hlv : val B l = iv nb N - 1 := by clear hr; omega
  have hNf := hN.pos (Int.le_of_lt hp)
  have hlen : l.length ≤ 128 := by
    clear hr
    have hle : l.length ≤ N.length := by
      refine len_le_of_val (by decide) d hN.dig nl ?_
      rw [hlv, hNf, iv_neg_false]; omega
    have := hN.len; omega
  rcases hr with ⟨h, _⟩ | ⟨_, b, hb, ok, hiv⟩
  · omega
  · have hbf := ok.pos (by omega)
    obtain ⟨n, g1, g2, g3⟩ := ibits_ok ok k (by omega)
    rw [hlv] at g2
    refine ⟨n, ⟨hN, hp, g2, g3⟩, fun s t => ?_⟩
    unfold random_source_below.f
    rw [of_one_at k (by omega)]
    simp only [Option.bind_some]
    rw [hb]
    simp only [Option.bind_some]
    rw [g1]
    rfl
theorem isbits_inj {m n : Nat} {v : Int} (h : IsBits m v) (g : IsBits n v) : m = n := by
  have key : ∀ {m n : Nat}, IsBits m v → IsBits n v → m ≤ n := by
    intro m n h g
    rcases Nat.lt_or_ge n m with hlt | hge
    · exfalso
      rcases h.ge with ⟨h0, _⟩ | ⟨h1, h2⟩
      · omega
      · have a := pow_mono (b := 2) (by decide) (show n ≤ m - 1 by omega)
        have b := g.lt
        omega
    · exact hge
  exact Nat.le_antisymm (key h g) (key g h)
/-- A number below a bound is drawn. -/
theorem below_ex {N : List Int} {nb : Bool} (hN : Ok nb N) (hp : 0 < iv nb N) (t : Int) (ht : ¬ t % 2 = 0) (s : Int) (s0 : 0 ≤ s) (s1 : s < 18446744073709551616) :
    ∃ (r : List Int) (s' : Int) (n j K : Nat), Last N nb n ∧ Ok false r ∧ val B r < iv nb N ∧ s' = it t (nL n * (j + 1)) s ∧ ∀ k, K ≤ k → random_source_below.f k s t nb N = some (false, r, s', t) := by
  obtain ⟨n, hL, _⟩ := last_of hN hp 2010 (Nat.le_refl _)
  have hlow := hL.low
  have hm : ∃ m : Nat, 1 ≤ n → mixf (it t (nL n * (m + 1)) s) < 9223372036854775808 := by
    by_cases h : 1 ≤ n
    · obtain ⟨m, hm⟩ := low_at t ht (nL n) (by unfold nL; omega) (by have := hL.le; unfold nL; omega) (it t (nL n) s) (it_range t _ s s0 s1).1 (it_range t _ s s0 s1).2
      refine ⟨m, fun _ => ?_⟩
      rw [show nL n * (m + 1) = nL n + nL n * m by rw [Nat.mul_succ]; omega, it_add]
      exact hm
    · exact ⟨0, fun h' => absurd h' h⟩
  obtain ⟨m, hm⟩ := hm
  obtain ⟨r, s', j, a1, a2, a3, a4⟩ := below_tries hN t ht n hL.le hlow.1 hlow.2 m s hm
  refine ⟨r, s', n, j, m + 3000, hL, a1, a2, a3, fun k hk => ?_⟩
  obtain ⟨n', hL', hf⟩ := last_of hN hp k (by omega)
  obtain rfl := isbits_inj hL.bits hL'.bits
  rw [hf]
  exact a4 k (by omega)
/-- Below a power of two one try does. -/
theorem below_two {N : List Int} {nb : Bool} (hN : Ok nb N) (b : Nat) (hb : iv nb N = 2 ^ b) (t s : Int) (k : Nat) (hk : 2400 ≤ k) : ∃ r, random_source_below.f k s t nb N = some (false, r, it t ((b + 31) / 32) s, t) ∧ Ok false r ∧ val B r < iv nb N := by
  have hp : 0 < iv nb N := by rw [hb]; exact pow_pos 2 (by decide) b
  obtain ⟨n, hL, hf⟩ := last_of hN hp k (by omega)
  have hn : n = b := by
    have hz : (0 : Int) < 2 ^ b := pow_pos 2 (by decide) b
    refine isbits_inj hL.bits ⟨by omega, ?_⟩
    rw [hb]
    by_cases h0 : b = 0
    · subst h0; exact .inl ⟨rfl, by decide⟩
    · right
      have e : (2 : Int) ^ b = 2 ^ (b - 1) * 2 := by
        obtain ⟨c, rfl⟩ : ∃ c, b = c + 1 := ⟨b - 1, by omega⟩
        exact Int.pow_succ 2 c
      have := pow_pos 2 (by decide) (b - 1)
      exact ⟨by omega, by omega⟩
  subst hn
  rw [hf]
  obtain ⟨k, rfl⟩ : ∃ j, k = j + 1 := ⟨k - 1, by omega⟩
  obtain ⟨r, h1, h2⟩ := below_try hN t s n hL.le k (by omega)
  have hlt : val B r < iv nb N := by
    rw [h1.val, hb]
    by_cases h0 : n = 0
    · subst h0
      have : val B (raw t s 0 (nL 0)) = 0 := rfl
      rw [this]; decide
    · exact (raw_lt t s n (by omega)).1
  refine ⟨r, ?_, cut_ok hL.le h1, hlt⟩
  rw [h2, if_pos hlt]
  rfl
end Go.Proofs.Ytkhiohlfdkkhdaa.Big
