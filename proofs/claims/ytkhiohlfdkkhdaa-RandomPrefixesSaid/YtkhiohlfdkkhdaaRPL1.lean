/- The plain law of RandomPrefixes, part 1: over numbers and lists, without Go and memory. Conditions: those of each lemma. -/
import Derived.Test.YtkhiohlfdkkhdaaRPP
import Derived.KernelRfl
-- AS: LP1
namespace Go.Proofs.Ytkhiohlfdkkhdaa.PL
open Go.RowKit Go.Proofs.YtkhiohlfdkkhdaaW.PrintWords Go.Proofs.Ytkhiohlfdkkhdaa.P
theorem u64w (x : Int) : IntKind.u64.wrap x = x % 18446744073709551616 := rfl
theorem md {x y : Int} (c : Int) (h : x - y = 18446744073709551616 * c) : x % 18446744073709551616 = y % 18446744073709551616 := by
  have : x = y + 18446744073709551616 * c := by omega
  rw [this]; exact Int.add_mul_emod_self_left ..
def aff (t x : Int) : Int := (x * 6364136223846793005 + t) % 18446744073709551616
def it (t : Int) : Nat → Int → Int
  | 0, x => x
  | n + 1, x => it t n (aff t x)
theorem it_add (p : Int) (m n : Nat) (x : Int) : it p (n + m) x = it p m (it p n x) := by
  induction n generalizing x with
  | zero => simp [it]
  | succ n ih => rw [Nat.succ_add]; simp only [it]; exact ih _
theorem aff_range (t x : Int) : 0 ≤ aff t x ∧ aff t x < 18446744073709551616 := by unfold aff; omega
theorem it_range (t : Int) (n : Nat) (x : Int) (h0 : 0 ≤ x) (h1 : x < 18446744073709551616) : 0 ≤ it t n x ∧ it t n x < 18446744073709551616 := by
  induction n generalizing x with
  | zero => exact ⟨h0, h1⟩
  | succ n ih => simp only [it]; exact ih _ (aff_range _ _).1 (aff_range _ _).2
/-- the same without a modulus -/
def itz (p q : Int) : Nat → Int → Int
  | 0, x => x
  | n + 1, x => itz p q n (x * p + q)
theorem itz_mod (t : Int) (n : Nat) : ∀ (x y c : Int), x - y = 18446744073709551616 * c → ∃ d, it t n x - itz 6364136223846793005 t n y = 18446744073709551616 * d := by
  induction n with
  | zero => intro x y c h; exact ⟨c, h⟩
  | succ n ih =>
    intro x y c h
    simp only [it, itz]
    refine ih (aff t x) (y * 6364136223846793005 + t) (c * 6364136223846793005 - (x * 6364136223846793005 + t) / 18446744073709551616) ?_
    have := Int.emod_def (x * 6364136223846793005 + t) 18446744073709551616
    unfold aff
    omega
theorem itz_even (p q y : Int) (p' q' : Int) (hp : p' = p * p) (hq : 2 * q' = q * (p + 1)) : ∀ (n : Nat), itz p q (2 * n) (2 * y) = 2 * itz p' q' n y := by
  intro n
  induction n generalizing y with
  | zero => rfl
  | succ n ih =>
    rw [show 2 * (n + 1) = (2 * n) + 1 + 1 by omega]
    simp only [itz]
    rw [show (2 * y * p + q) * p + q = 2 * (y * p' + q') by subst hp; grind]
    exact ih _
theorem hits : ∀ (k : Nat) (p q x : Int), p % 4 = 1 → q % 2 = 1 → ∃ n : Nat, ∃ c : Int, itz p q n x = 2 ^ k * c := by
  intro k
  induction k with
  | zero => intro p q x _ _; exact ⟨0, x, by simp [itz]⟩
  | succ k ih =>
    have ev : ∀ (p q y : Int), p % 4 = 1 → q % 2 = 1 → ∃ n : Nat, ∃ c : Int, itz p q n (2 * y) = 2 ^ (k + 1) * c := by
      intro p q y hp hq
      obtain ⟨a, rfl⟩ : ∃ a, p = 4 * a + 1 := ⟨p / 4, by omega⟩
      obtain ⟨b, rfl⟩ : ∃ b, q = 2 * b + 1 := ⟨q / 2, by omega⟩
      have e1 : ((4 * a + 1) * (4 * a + 1)) % 4 = 1 := by
        rw [show (4 * a + 1) * (4 * a + 1) = 4 * (a * (4 * a + 1) + a) + 1 by grind]; omega
      have e2 : ((2 * b + 1) * (2 * a + 1)) % 2 = 1 := by
        rw [show (2 * b + 1) * (2 * a + 1) = 2 * (b * (2 * a + 1) + a) + 1 by grind]; omega
      obtain ⟨n, c, h⟩ := ih _ _ y e1 e2
      refine ⟨2 * n, c, ?_⟩
      rw [itz_even (4 * a + 1) (2 * b + 1) y _ ((2 * b + 1) * (2 * a + 1)) rfl (by grind), h, Int.pow_succ]
      grind
    intro p q x hp hq
    by_cases hx : x % 2 = 0
    · obtain ⟨y, rfl⟩ : ∃ y, x = 2 * y := ⟨x / 2, by omega⟩
      exact ev p q y hp hq
    · obtain ⟨a, rfl⟩ : ∃ a, p = 4 * a + 1 := ⟨p / 4, by omega⟩
      obtain ⟨b, rfl⟩ : ∃ b, q = 2 * b + 1 := ⟨q / 2, by omega⟩
      obtain ⟨z, rfl⟩ : ∃ z, x = 2 * z + 1 := ⟨x / 2, by omega⟩
      obtain ⟨n, c, h⟩ := ev (4 * a + 1) (2 * b + 1) (z * (4 * a + 1) + 2 * a + b + 1) hp hq
      refine ⟨n + 1, c, ?_⟩
      simp only [itz]
      rw [show (2 * z + 1) * (4 * a + 1) + (2 * b + 1) = 2 * (z * (4 * a + 1) + 2 * a + b + 1) by grind]
      exact h
/-- The orbit comes to 0. -/
theorem zero_at (t x : Int) (ht : ¬ t % 2 = 0) : ∃ n : Nat, it t (n + 1) x = 0 := by
  obtain ⟨n, c, h⟩ := hits 64 6364136223846793005 t (aff t x) (by decide) (by omega)
  obtain ⟨d, hd⟩ := itz_mod t n (aff t x) (aff t x) 0 (by omega)
  have hr := it_range t n (aff t x) (aff_range _ _).1 (aff_range _ _).2
  refine ⟨n, ?_⟩
  simp only [it]
  rw [h, show (2 : Int) ^ 64 = 18446744073709551616 by decide] at hd
  omega
def mixf (x : Int) : Int := (random_mix.f x).getD 0
theorem mix_def (x : Int) : random_mix.f x = some (mixf x) := rfl
theorem mix_range (x : Int) : 0 ≤ mixf x ∧ mixf x < 18446744073709551616 := by
  have h : ∃ y, mixf x = IntKind.u64.wrap y := ⟨_, rfl⟩
  obtain ⟨y, h⟩ := h
  rw [h, u64w]
  omega
theorem mix_zero : mixf 0 = 0 := by kernel_rfl
theorem next_def (s t : Int) : random_source_next.f s t = some (mixf (aff t s), aff t s, t) := by
  have : IntKind.u64.wrap (IntKind.u64.wrap (s * 6364136223846793005) + t) = aff t s := by
    simp only [u64w, aff]
    exact md (-((s * 6364136223846793005) / 18446744073709551616)) (by have := Int.emod_def (s * 6364136223846793005) 18446744073709551616; omega)
  unfold random_source_next.f
  rw [this, mix_def]
  rfl
end Go.Proofs.Ytkhiohlfdkkhdaa.PL
