/- The plain law of RandomDraws: over numbers and lists, without Go and memory, the printed function of the law answers true. Conditions: the fields are 64-bit numbers, as the row shows of every input. -/
import Derived.Test.YtkhiohlfdkkhdaaRDP
import Derived.KernelRfl
import Derived.Laws.Bits64b
-- AS: LD1
namespace Go.Proofs.Ytkhiohlfdkkhdaa.P
open Go.RowKit Go.Proofs.YtkhiohlfdkkhdaaW.PrintWords
theorem md {x y : Int} (c : Int) (h : x - y = 18446744073709551616 * c) : x % 18446744073709551616 = y % 18446744073709551616 := by
  have : x = y + 18446744073709551616 * c := by omega
  rw [this]; exact Int.add_mul_emod_self_left ..
def aff (p q x : Int) : Int := (x * p + q) % 18446744073709551616
theorem aff_comp (p q a b x : Int) : aff p q (aff a b x) = aff ((a * p) % 18446744073709551616) (((b * p) % 18446744073709551616 + q) % 18446744073709551616) x := by
  unfold aff
  refine md (x * (a * p / 18446744073709551616) + (b * p / 18446744073709551616) + ((b * p % 18446744073709551616 + q) / 18446744073709551616) - ((x * a + b) / 18446744073709551616) * p) ?_
  have h1 := Int.emod_def (x * a + b) 18446744073709551616
  have h2 := Int.emod_def (a * p) 18446744073709551616
  have h3 := Int.emod_def (b * p) 18446744073709551616
  have h4 := Int.emod_def (b * p % 18446744073709551616 + q) 18446744073709551616
  rw [h4, h1, h2]
  generalize (b * p % 18446744073709551616 + q) / 18446744073709551616 = Q4
  rw [h3]
  generalize (x * a + b) / 18446744073709551616 = Q1
  generalize (a * p) / 18446744073709551616 = Q2
  generalize (b * p) / 18446744073709551616 = Q3
  grind
theorem aff_aff (p q x : Int) : aff p q (aff p q x) = aff ((p * p) % 18446744073709551616) (((q * p) % 18446744073709551616 + q) % 18446744073709551616) x := aff_comp p q p q x
/-- n steps -/
def it (p q : Int) : Nat → Int → Int
  | 0, x => x
  | n + 1, x => it p q n (aff p q x)
theorem it_add (p q : Int) (m n : Nat) (x : Int) : it p q (n + m) x = it p q m (it p q n x) := by
  induction n generalizing x with
  | zero => simp [it]
  | succ n ih => rw [Nat.succ_add]; simp only [it]; exact ih _
theorem it_two (p q : Int) (n : Nat) (x : Int) : it ((p * p) % 18446744073709551616) (((q * p) % 18446744073709551616 + q) % 18446744073709551616) n x = it p q (2 * n) x := by
  induction n generalizing x with
  | zero => rfl
  | succ n ih => rw [show 2 * (n + 1) = (2 * n) + 1 + 1 by omega]; simp only [it]; rw [ih, aff_aff]
theorem u64w (x : Int) : IntKind.u64.wrap x = x % 18446744073709551616 := rfl
theorem skip_loop : ∀ (m k n : Nat) (a b p q s t : Int), m ≤ 64 → n < 2 ^ m → m + 1 ≤ k →
    random_Skip.l0 k (n : Int) a b p q s t = some (it p q n (aff a b s), t, 0, 0) := by
  intro m
  induction m with
  | zero =>
    intro k n a b p q s t hm hn hk
    obtain rfl : n = 0 := by omega
    obtain ⟨k, rfl⟩ : ∃ j, k = j + 1 := ⟨k - 1, by omega⟩
    simp only [random_Skip.l0, u64w, it]
    rw [if_neg (by omega)]
    simp only [aff]
    congr 2
    exact md (-((s * a) / 18446744073709551616)) (by have := Int.emod_def (s * a) 18446744073709551616; omega)
  | succ m ih =>
    intro k n a b p q s t hm hn hk
    obtain ⟨k, rfl⟩ : ∃ j, k = j + 1 := ⟨k - 1, by omega⟩
    rw [random_Skip.l0]
    by_cases h0 : (n : Int) > 0
    · rw [if_pos h0]
      have hb : Go.bits .and .u64 (n : Int) 1 = ((n % 2 : Nat) : Int) := by
        have hp : 2 ^ (m + 1) ≤ 2 ^ 64 := Nat.pow_le_pow_right (by omega) hm
        have := bits_and_u64_nat n 1 (by omega) (by omega)
        rw [Nat.and_one_is_mod] at this
        exact this
      rw [hb]
      have h2 : (n : Int) / 2 = ((n / 2 : Nat) : Int) := by omega
      have hlt : n / 2 < 2 ^ m := by rw [Nat.pow_succ] at hn; omega
      rw [h2]
      simp only [u64w]
      by_cases h1 : ((n % 2 : Nat) : Int) = 1
      · rw [if_pos h1, ih k (n / 2) _ _ _ _ s t (by omega) hlt (by omega), it_two]
        rw [← aff_comp]
        have : n = 2 * (n / 2) + 1 := by omega
        conv => rhs; rw [this]
        rfl
      · rw [if_neg h1, ih k (n / 2) _ _ _ _ s t (by omega) hlt (by omega), it_two]
        have : n = 2 * (n / 2) := by omega
        conv => rhs; rw [this]
    · obtain rfl : n = 0 := by omega
      rw [if_neg h0]
      simp only [u64w, it, aff]
      congr 2
      exact md (-((s * a) / 18446744073709551616)) (by have := Int.emod_def (s * a) 18446744073709551616; omega)

theorem tdw (x n : Int) (h0 : 0 ≤ x) (h1 : x < 18446744073709551616) (hn : 0 < n) : IntKind.u64.wrap (Int.tdiv x n) = x / n := by
  rw [u64w, Int.tdiv_eq_ediv_of_nonneg h0]
  have h2 : 0 ≤ x / n := Int.ediv_nonneg h0 (by omega)
  have h3 : x / n ≤ x := Int.ediv_le_self n h0
  exact Int.emod_eq_of_lt h2 (by omega)
theorem wr0 (x : Int) : 0 ≤ IntKind.u64.wrap x := by rw [u64w]; omega
theorem wr1 (x : Int) : IntKind.u64.wrap x < 18446744073709551616 := by rw [u64w]; omega
theorem mixed_eq (x : Int) (h0 : 0 ≤ x) (h1 : x < 18446744073709551616) : brindlewoodref4_Mixed.f x = random_mix.f x := by
  unfold brindlewoodref4_Mixed.f random_mix.f
  rw [tdw x _ h0 h1 (by omega)]
  rw [tdw _ _ (wr0 _) (wr1 _) (by omega)]
  rw [tdw _ _ (wr0 _) (wr1 _) (by omega)]
theorem mix_some (x : Int) : ∃ t, random_mix.f x = some t := ⟨_, rfl⟩
theorem draw_eq (s t : Int) : brindlewoodref4_Random_Draw.f s t = random_source_next.f s t := by
  unfold brindlewoodref4_Random_Draw.f random_source_next.f
  rw [mixed_eq _ (wr0 _) (wr1 _)]
theorem next_eq (s t : Int) : ∃ x, random_source_next.f s t = some (x, aff 6364136223846793005 t s, t) := by
  unfold random_source_next.f
  obtain ⟨x, hx⟩ := mix_some (IntKind.u64.wrap (IntKind.u64.wrap (s * 6364136223846793005) + t))
  rw [hx]
  refine ⟨x, ?_⟩
  show some (x, IntKind.u64.wrap (IntKind.u64.wrap (s * 6364136223846793005) + t), t) = _
  have : IntKind.u64.wrap (IntKind.u64.wrap (s * 6364136223846793005) + t) = aff 6364136223846793005 t s := by
    simp only [u64w, aff]
    exact md (-((s * 6364136223846793005) / 18446744073709551616)) (by have := Int.emod_def (s * 6364136223846793005) 18446744073709551616; omega)
  rw [this]
theorem seeds (L : List Int) (b : Bool) : ∀ (m k n : Nat) (x : Int), L.length ≤ 128 → n + m = L.length → m + 1 ≤ k →
    ∃ s, brindlewoodref4_Seeded.l0 k x (n : Int) b L = some (s, 1442695040888963407) ∧ random_Seed.l0 k x L (L.length : Int) (n : Int) = some (s, 1442695040888963407, 0, 0) := by
  intro m
  induction m with
  | zero =>
    intro k n x hL hn hk
    obtain ⟨k, rfl⟩ : ∃ j, k = j + 1 := ⟨k - 1, by omega⟩
    refine ⟨x, ?_, ?_⟩
    · rw [brindlewoodref4_Seeded.l0, if_neg (by omega)]
    · rw [random_Seed.l0, if_neg (by omega)]
  | succ m ih =>
    intro k n x hL hn hk
    obtain ⟨k, rfl⟩ : ∃ j, k = j + 1 := ⟨k - 1, by omega⟩
    rw [brindlewoodref4_Seeded.l0, random_Seed.l0, if_pos (by omega), if_pos (by omega), if_pos (by omega), if_pos (by omega), if_pos (by omega)]
    rw [mixed_eq _ (wr0 _) (wr1 _)]
    obtain ⟨t, ht⟩ := mix_some (IntKind.u64.wrap (IntKind.u64.wrap (IntKind.u64.wrap (x * 6364136223846793005) + IntKind.u64.wrap (rd L (n : Int))) + 1))
    rw [ht]
    have hw : wrap64 ((n : Int) + 1) = ((n + 1 : Nat) : Int) := by unfold wrap64; omega
    simp only [Option.bind_some, hw]
    exact ih k (n + 1) t hL (by omega) (by omega)

theorem valid_some (b : Bool) (L : List Int) : ∃ r, integer_Valid.f b L = some r ∧ (r = true → L.length ≤ 128) := by
  have h1 : L.length ≠ 0 → L.length ≤ 128 → wrap64 ((L.length : Int) - 1) = (L.length : Int) - 1 := by intro _ _; unfold wrap64; omega
  unfold integer_Valid.f
  by_cases h : (L.length : Int) ≤ 128
  · rw [if_pos h]
    by_cases h0 : (L.length : Int) = 0
    · rw [if_pos h0]
      cases b
      · rw [if_neg (by decide)]; exact ⟨_, rfl, fun _ => by omega⟩
      · rw [if_pos rfl, if_neg (by omega)]; exact ⟨_, rfl, fun _ => by omega⟩
    · rw [if_neg h0, if_pos (by omega), h1 (by omega) (by omega), if_pos (by omega), if_pos (by omega)]
      exact ⟨_, rfl, fun _ => by omega⟩
  · rw [if_neg h]; exact ⟨_, rfl, fun h => by cases h⟩
theorem it_range (p q : Int) (n : Nat) (x : Int) (h0 : 0 ≤ x) (h1 : x < 18446744073709551616) : 0 ≤ it p q n x ∧ it p q n x < 18446744073709551616 := by
  induction n generalizing x with
  | zero => exact ⟨h0, h1⟩
  | succ n ih =>
    simp only [it]
    exact ih _ (by unfold aff; omega) (by unfold aff; omega)
theorem skip_eq (k n : Nat) (s t : Int) (ht : ¬ t % 2 = 0) (h0 : 0 ≤ s) (h1 : s < 18446744073709551616) (hn : n < 18446744073709551616) (hk : 65 ≤ k) :
    random_Skip.f k s t (n : Int) = some (it 6364136223846793005 t n s, t, 0, 0) := by
  unfold random_Skip.f random_open_ok.f
  rw [if_neg ht, if_neg ht]
  simp only [Option.bind_some]
  rw [skip_loop 64 k n _ _ _ _ _ _ (by omega) (by omega) (by omega)]
  have : aff 1 0 s = s := by unfold aff; omega
  rw [this]
theorem skip_even (k : Nat) (n s t : Int) (ht : t % 2 = 0) : random_Skip.f k s t n = some (0, 0, 6, -1) := by
  unfold random_Skip.f random_open_no.f
  rw [if_pos ht, if_pos ht]; rfl
theorem rounds (st sp : Int) (n m : Nat) (hsp : ¬ sp % 2 = 0) (h0 : 0 ≤ st) (h1 : st < 18446744073709551616) (hn : n < 18446744073709551616) (hm : m < 18446744073709551616) :
    ∀ (c k : Nat) (s : Int), c < 5000 → c + 66 ≤ k → 
      brindlewoodlaw4_RandomDraws.l0 k (n : Int) (m : Int) (c : Int) st sp (it 6364136223846793005 sp c s) sp (it 6364136223846793005 sp n st) sp s sp = some true := by
  intro c
  induction c with
  | zero =>
    intro k s hc hk
    obtain ⟨k, rfl⟩ : ∃ j, k = j + 1 := ⟨k - 1, by omega⟩
    have hd := it_range 6364136223846793005 sp n st h0 h1
    rw [brindlewoodlaw4_RandomDraws.l0, if_neg (by omega)]
    simp only [it, beq_self_eq_true, Bool.not_true, Bool.or_self, Bool.false_eq_true, if_false]
    have w1 : IntKind.u64.wrap ((n : Int) + m) = (((n + m) % 18446744073709551616 : Nat) : Int) := by rw [u64w]; omega
    have w2 : IntKind.u64.wrap ((n : Int) + 1) = (((n + 1) % 18446744073709551616 : Nat) : Int) := by rw [u64w]; omega
    rw [w1, w2, skip_eq k m _ sp hsp hd.1 hd.2 hm (by omega), skip_eq k _ st sp hsp h0 h1 (Nat.mod_lt _ (by omega)) (by omega), skip_eq k _ st sp hsp h0 h1 (Nat.mod_lt _ (by omega)) (by omega)]
    simp only [Option.bind_some]
    obtain ⟨x, hx⟩ := next_eq (it 6364136223846793005 sp n st) sp
    have hN : random_Next.f (it 6364136223846793005 sp n st) sp = some (x, aff 6364136223846793005 sp (it 6364136223846793005 sp n st), sp, 0, 0) := by
      unfold random_Next.f random_open_ok.f
      rw [if_neg hsp, if_neg hsp]
      simp only [Option.bind_some, hx]
    rw [hN]
    simp only [Option.bind_some, if_true]
    have e2 : n + 1 < 18446744073709551616 → it 6364136223846793005 sp ((n + 1) % 18446744073709551616) st = aff 6364136223846793005 sp (it 6364136223846793005 sp n st) := by
      intro h
      rw [Nat.mod_eq_of_lt h, it_add]; rfl
    have E2 : ¬ ((((n + 1) % 18446744073709551616 : Nat) : Int) = 0) → it 6364136223846793005 sp ((n + 1) % 18446744073709551616) st = aff 6364136223846793005 sp (it 6364136223846793005 sp n st) := by
      intro h; exact e2 (by omega)
    by_cases g1 : ((((n + m) % 18446744073709551616 : Nat) : Int)) < (n : Int)
    · rw [if_pos g1]
      by_cases g2 : ((((n + 1) % 18446744073709551616 : Nat) : Int)) = 0
      · rw [if_pos g2]
      · rw [if_neg g2, E2 g2]; simp
    · rw [if_neg g1]
      have e1 : it 6364136223846793005 sp ((n + m) % 18446744073709551616) st = it 6364136223846793005 sp m (it 6364136223846793005 sp n st) := by
        rw [Nat.mod_eq_of_lt (by omega), it_add]
      rw [e1]
      simp only [beq_self_eq_true, Bool.and_self, if_true]
      by_cases g2 : ((((n + 1) % 18446744073709551616 : Nat) : Int)) = 0
      · rw [if_pos g2]
      · rw [if_neg g2, E2 g2]; simp
  | succ c ih =>
    intro k s hc hk
    obtain ⟨k, rfl⟩ : ∃ j, k = j + 1 := ⟨k - 1, by omega⟩
    rw [brindlewoodlaw4_RandomDraws.l0, if_pos (by omega), draw_eq]
    obtain ⟨x, hx⟩ := next_eq s sp
    rw [hx]
    have hw : IntKind.u64.wrap (((c + 1 : Nat) : Int) - 1) = (c : Int) := by rw [u64w]; omega
    simp only [Option.bind_some, hw, it]
    exact ih k _ (by omega) (by omega)
theorem draws_true : brindlewoodlaw4_draws.f 200 = some true := by kernel_rfl
theorem draws_at : ∀ j, brindlewoodlaw4_draws.f (200 + j) = some true := by
  intro j
  induction j with
  | zero => exact draws_true
  | succ j ih => exact brindlewoodlaw4_draws.mono _ _ ih
theorem law_true (b : Bool) (L : List Int) (st sp : Int) (n m : Nat) (h0 : 0 ≤ st) (h1 : st < 18446744073709551616) (hs0 : 0 ≤ sp) (hn : n < 18446744073709551616) (hm : m < 18446744073709551616) :
    brindlewoodlaw4_RandomDraws.f 6000 b L st sp (n : Int) (m : Int) = some true := by
  obtain ⟨v, hv, hv1⟩ := valid_some b L
  have hI : brindlewoodref3_IntOk.f b L = some v := hv
  have hc : Int.tmod (n : Int) 5000 = ((n % 5000 : Nat) : Int) := by rw [Int.tmod_eq_emod_of_nonneg (by omega)]; rfl
  have hd : brindlewoodlaw4_draws.f 6000 = some true := draws_at 5800
  have J0 : ∀ x N0 N1 N2 N3 c0 c1 c2 c3 d0 d1 d2 d3, random_Next.f st sp = some (x, N0, N1, N2, N3) → random_Skip.f 6000 st sp ((n % 5000 : Nat) : Int) = some (c0, c1, c2, c3) → random_Skip.f 6000 st sp (n : Int) = some (d0, d1, d2, d3) → 
     brindlewoodlaw4_RandomDraws.j0 6000 (n : Int) (m : Int) x st sp N0 N1 N2 N3 c0 c1 c2 c3 d0 d1 d2 d3 = some true := by
    intro x N0 N1 N2 N3 c0 c1 c2 c3 d0 d1 d2 d3 hN hC hD
    rw [brindlewoodlaw4_RandomDraws.j0, Int.tmod_eq_emod_of_nonneg hs0]
    by_cases he : sp % 2 = 0
    · rw [if_pos he]
      rw [skip_even _ _ _ _ he] at hC hD
      have hN' : random_Next.f st sp = some (0, 0, 0, 6, -1) := by
        unfold random_Next.f random_open_no.f
        rw [if_pos he, if_pos he]; rfl
      rw [hN'] at hN
      simp only [Option.some.injEq, Prod.mk.injEq] at hN hC hD
      obtain ⟨rfl, rfl, rfl, rfl, rfl⟩ := hN
      obtain ⟨rfl, rfl, rfl, rfl⟩ := hC
      obtain ⟨rfl, rfl, rfl, rfl⟩ := hD
      rfl
    · rw [if_neg he]
      rw [skip_eq _ _ st sp he h0 h1 (by omega) (by omega)] at hC hD
      obtain ⟨y, hy⟩ := next_eq st sp
      have hN' : random_Next.f st sp = some (y, aff 6364136223846793005 sp st, sp, 0, 0) := by
        unfold random_Next.f random_open_ok.f
        rw [if_neg he, if_neg he]
        simp only [Option.bind_some, hy]
      rw [hN'] at hN
      simp only [Option.some.injEq, Prod.mk.injEq] at hN hC hD
      obtain ⟨rfl, rfl, rfl, rfl, rfl⟩ := hN
      obtain ⟨rfl, rfl, rfl, rfl⟩ := hC
      obtain ⟨rfl, rfl, rfl, rfl⟩ := hD
      rw [draw_eq, hy]
      simp only [Option.bind_some, if_true, beq_self_eq_true, Bool.not_true, Bool.or_self, Bool.false_eq_true, if_false]
      rw [hc]
      exact rounds st sp n m he h0 h1 hn hm (n % 5000) _ st (Nat.mod_lt _ (by omega)) (by omega)
  obtain ⟨⟨x, N0, N1, N2, N3⟩, hN⟩ : ∃ z, random_Next.f st sp = some z := by
    by_cases he : sp % 2 = 0
    · unfold random_Next.f random_open_no.f
      rw [if_pos he, if_pos he]; exact ⟨_, rfl⟩
    · unfold random_Next.f random_open_ok.f
      obtain ⟨y, hy⟩ := next_eq st sp
      rw [if_neg he, if_neg he]; simp only [Option.bind_some, hy]; exact ⟨_, rfl⟩
  have hS : ∀ q : Nat, q < 18446744073709551616 → ∃ z, random_Skip.f 6000 st sp (q : Int) = some z := by
    intro q hq
    by_cases he : sp % 2 = 0
    · exact ⟨_, skip_even _ _ _ _ he⟩
    · exact ⟨_, skip_eq _ _ _ _ he h0 h1 hq (by omega)⟩
  obtain ⟨⟨c0, c1, c2, c3⟩, hC⟩ := hS (n % 5000) (by omega)
  obtain ⟨⟨d0, d1, d2, d3⟩, hD⟩ := hS n hn
  have hJ := J0 _ _ _ _ _ _ _ _ _ _ _ _ _ hN hC hD
  unfold brindlewoodlaw4_RandomDraws.f
  rw [hN, hc, hC, hD, hd, hI]
  cases v with
  | true =>
    have hl := hv1 rfl
    have hSeed : ∃ s, brindlewoodref4_Seeded.f 6000 b L = some (s, 1442695040888963407) ∧ random_Seed.f 6000 b L = some (s, 1442695040888963407, 0, 0) := by
      unfold brindlewoodref4_Seeded.f random_Seed.f
      rw [hv]
      simp only [Option.bind_some, if_true]
      cases b
      · simp only [Bool.false_eq_true, if_false]
        rw [brindlewoodref4_Seeded.j0, random_Seed.j0]
        exact seeds L false L.length 5999 0 _ hl (by omega) (by omega)
      · simp only [if_true]
        rw [brindlewoodref4_Seeded.j0, random_Seed.j0]
        exact seeds L true L.length 5999 0 _ hl (by omega) (by omega)
    obtain ⟨s, e1, e2⟩ := hSeed
    rw [e1, e2]
    simp only [Option.bind_some, if_true, beq_self_eq_true, Bool.not_true, Bool.or_self, Bool.false_eq_true, if_false]
    exact hJ
  | false =>
    have hSeed : random_Seed.f 6000 b L = some (0, 0, 6, -1) := by
      unfold random_Seed.f random_at.f
      rw [hv]; rfl
    rw [hSeed]
    simp only [Option.bind_some, if_true, Bool.false_eq_true, if_false, brindlewoodref4_At.f, beq_self_eq_true, Bool.not_true, Bool.or_self]
    exact hJ
end Go.Proofs.Ytkhiohlfdkkhdaa.P
