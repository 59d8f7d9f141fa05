/- The plain law of RandomPrefixes, part 5. Conditions: those of each lemma. -/
import Derived.Test.YtkhiohlfdkkhdaaRPL4
-- AS: LP5
namespace Go.Proofs.Ytkhiohlfdkkhdaa.PL
open Go.RowKit Go.Proofs.YtkhiohlfdkkhdaaW.PrintWords Go.Proofs.Ytkhiohlfdkkhdaa.P
theorem it_step (t s : Int) (n : Nat) : it t (n + 1) s = aff t (it t n s) := by rw [it_add]; rfl
/-- the byte at a place of the stream -/
def bt_ (t s : Int) (j : Nat) : Int := (shr .u64 (mixf (it t (j / 8 + 1) s)) ((8 * (j % 8) : Nat) : Int)) % 256
def B_ (t s : Int) (n : Nat) : List Int := (List.range n).map (bt_ t s)
theorem B_len (t s : Int) (n : Nat) : (B_ t s n).length = n := by simp [B_]
theorem B_succ (t s : Int) (n : Nat) : B_ t s n ++ [bt_ t s n] = B_ t s (n + 1) := by simp [B_, List.range_succ]
theorem B_take (t s : Int) (n k : Nat) (h : k ≤ n) : (B_ t s n).take k = B_ t s k := by
  unfold B_
  rw [← List.map_take, List.take_range, Nat.min_eq_left h]
def EndA (t s0 : Int) (n : Nat) (f : Nat → Option (List Int × Int × Int × Int × Int)) (m : Nat) : Prop := ∃ s', ∀ k, m ≤ k → f k = some (B_ t s0 n, s', t, 0, 0)
theorem l1_step (t s0 : Int) (n q c m : Nat) (hn : n ≤ 4000) (hc : c < 8) (hl : 8 * q + c < n)
    (h : EndA t s0 n (fun k => random_Bytes.l1 k (n : Int) (B_ t s0 (8 * q + (c + 1))) (mixf (it t (q + 1) s0)) ((c + 1 : Nat) : Int) (it t (q + 1) s0) t) m) :
    EndA t s0 n (fun k => random_Bytes.l1 k (n : Int) (B_ t s0 (8 * q + c)) (mixf (it t (q + 1) s0)) (c : Int) (it t (q + 1) s0) t) (m + 1) := by
  obtain ⟨s', h⟩ := h
  refine ⟨s', fun k hk => ?_⟩
  obtain ⟨k, rfl⟩ : ∃ j, k = j + 1 := ⟨k - 1, by omega⟩
  dsimp only
  have w1 : wrap64 (8 * (c : Int)) = ((8 * c : Nat) : Int) := by unfold wrap64; omega
  have w2 : wrap64 ((c : Int) + 1) = ((c + 1 : Nat) : Int) := by unfold wrap64; omega
  have hb : bt_ t s0 (8 * q + c) = (shr .u64 (mixf (it t (q + 1) s0)) ((8 * c : Nat) : Int)) % 256 := by
    unfold bt_
    rw [show (8 * q + c) / 8 = q by omega, show (8 * q + c) % 8 = c by omega]
  rw [random_Bytes.l1, if_pos (by omega), B_len, if_pos (by omega), w1, if_pos (by omega), if_pos (by omega), w2, ← hb, B_succ]
  exact h k (by omega)
theorem l1_out (t s0 : Int) (n q c m : Nat) (hc : c = 8 ∨ 8 * q + c = n) (he : c ≤ 8)
    (h : EndA t s0 n (fun k => random_Bytes.l0 k (n : Int) (B_ t s0 (8 * q + c)) (it t (q + 1) s0) t) m) :
    EndA t s0 n (fun k => random_Bytes.l1 k (n : Int) (B_ t s0 (8 * q + c)) (mixf (it t (q + 1) s0)) (c : Int) (it t (q + 1) s0) t) (m + 1) := by
  obtain ⟨s', h⟩ := h
  refine ⟨s', fun k hk => ?_⟩
  obtain ⟨k, rfl⟩ : ∃ j, k = j + 1 := ⟨k - 1, by omega⟩
  dsimp only
  rw [random_Bytes.l1]
  by_cases h8 : c = 8
  · rw [if_neg (by omega)]; exact h k (by omega)
  · rw [if_pos (by omega), B_len, if_neg (by omega)]; exact h k (by omega)
theorem l0_in (t s0 : Int) (n q m : Nat) (hl : 8 * q < n)
    (h : EndA t s0 n (fun k => random_Bytes.l1 k (n : Int) (B_ t s0 (8 * q + 0)) (mixf (it t (q + 1) s0)) ((0 : Nat) : Int) (it t (q + 1) s0) t) m) :
    EndA t s0 n (fun k => random_Bytes.l0 k (n : Int) (B_ t s0 (8 * q)) (it t q s0) t) (m + 1) := by
  obtain ⟨s', h⟩ := h
  refine ⟨s', fun k hk => ?_⟩
  obtain ⟨k, rfl⟩ : ∃ j, k = j + 1 := ⟨k - 1, by omega⟩
  have h1 := h k (by omega)
  rw [it_step] at h1
  dsimp only
  rw [random_Bytes.l0, B_len, if_pos (by omega), next_def]
  exact h1
theorem l0_end (t s0 : Int) (n L : Nat) (s : Int) (hl : L = n) : EndA t s0 n (fun k => random_Bytes.l0 k (n : Int) (B_ t s0 L) s t) 1 := by
  subst hl
  refine ⟨s, fun k hk => ?_⟩
  obtain ⟨k, rfl⟩ : ∃ j, k = j + 1 := ⟨k - 1, by omega⟩
  dsimp only
  rw [random_Bytes.l0, B_len, if_neg (by omega)]
theorem EndA.more {t s0 : Int} {n : Nat} {f} {m m' : Nat} (h : EndA t s0 n f m) (hm : m ≤ m') : EndA t s0 n f m' := by
  obtain ⟨s', h⟩ := h
  exact ⟨s', fun k hk => h k (by omega)⟩
theorem bytes_loop (t s0 : Int) (n : Nat) (hn : n ≤ 4000) : ∀ d,
    (∀ q, 8 * q + d = n → EndA t s0 n (fun k => random_Bytes.l0 k (n : Int) (B_ t s0 (8 * q)) (it t q s0) t) (3 * d + 3)) ∧
    (∀ q c, c ≤ 8 → 8 * q + c + d = n → EndA t s0 n (fun k => random_Bytes.l1 k (n : Int) (B_ t s0 (8 * q + c)) (mixf (it t (q + 1) s0)) (c : Int) (it t (q + 1) s0) t) (3 * d + 4)) := by
  intro d
  induction d with
  | zero =>
    refine ⟨fun q hq => (l0_end t s0 n _ _ (by omega)).more (by omega), fun q c hc hq => ?_⟩
    exact (l1_out t s0 n q c 1 (by omega) hc (l0_end t s0 n _ _ (by omega))).more (by omega)
  | succ d ih =>
    have b1 : ∀ q c, c < 8 → 8 * q + c + (d + 1) = n → EndA t s0 n (fun k => random_Bytes.l1 k (n : Int) (B_ t s0 (8 * q + c)) (mixf (it t (q + 1) s0)) (c : Int) (it t (q + 1) s0) t) (3 * d + 5) := by
      intro q c hc hq
      exact l1_step t s0 n q c _ hn hc (by omega) (ih.2 q (c + 1) (by omega) (by omega))
    have a1 : ∀ q, 8 * q + (d + 1) = n → EndA t s0 n (fun k => random_Bytes.l0 k (n : Int) (B_ t s0 (8 * q)) (it t q s0) t) (3 * d + 6) := by
      intro q hq
      exact l0_in t s0 n q _ (by omega) (b1 q 0 (by omega) (by omega))
    refine ⟨fun q hq => (a1 q hq).more (by omega), fun q c hc hq => ?_⟩
    by_cases h8 : c = 8
    · subst h8
      have := a1 (q + 1) (by omega)
      rw [show 8 * (q + 1) = 8 * q + 8 by omega] at this
      exact (l1_out t s0 n q 8 _ (.inl rfl) (by omega) this).more (by omega)
    · exact (b1 q c (by omega) hq).more (by omega)
theorem bytes_eq (t s0 : Int) (n : Nat) (hn : n ≤ 4000) (ht : ¬ t % 2 = 0) : ∃ s', ∃ K, ∀ k, K ≤ k → random_Bytes.f k s0 t (n : Int) = some (B_ t s0 n, s', t, 0, 0) := by
  obtain ⟨s', h⟩ := (bytes_loop t s0 n hn n).1 0 (by omega)
  refine ⟨s', 3 * n + 3, fun k hk => ?_⟩
  have := h k hk
  unfold random_Bytes.f random_open_ok.f
  rw [if_neg ht, if_neg ht]
  simp only [Option.bind_some]
  rw [if_neg (by omega), if_neg (by omega)]
  exact this
theorem numbers_loop (l : List Int) (hl : l.length ≤ 4000) : ∀ d i, i + d = l.length → ∀ k, d + 1 ≤ k → brindlewoodref4_Numbers.l0 k l l (i : Int) = some true := by
  intro d
  induction d with
  | zero =>
    intro i hi k hk
    obtain ⟨k, rfl⟩ : ∃ j, k = j + 1 := ⟨k - 1, by omega⟩
    rw [brindlewoodref4_Numbers.l0, if_neg (by omega)]
  | succ d ih =>
    intro i hi k hk
    obtain ⟨k, rfl⟩ : ∃ j, k = j + 1 := ⟨k - 1, by omega⟩
    have w : wrap64 ((i : Int) + 1) = ((i + 1 : Nat) : Int) := by unfold wrap64; omega
    rw [brindlewoodref4_Numbers.l0, if_pos (by omega), if_pos (by omega), if_pos (by omega), if_pos rfl, w]
    exact ih (i + 1) (by omega) k (by omega)
theorem numbers_same (l : List Int) (hl : l.length ≤ 4000) (k : Nat) (hk : 4001 ≤ k) : brindlewoodref4_Numbers.f k l l = some true := by
  unfold brindlewoodref4_Numbers.f
  rw [if_pos rfl]
  exact numbers_loop l hl l.length 0 (by omega) k (by omega)
/-- each number is seen once -/
theorem seen_loop (n : Nat) (hn : n ≤ 1000) (p : List Int × Int) (I : Inv n p) : ∀ d i (l : List Bool), i + d = n → l.length = n → (∀ a, a < n → (l.getD a false = true ↔ ∃ b, b < i ∧ p.1.getD b 0 = (a : Int))) →
    ∀ k, d + 1 ≤ k → brindlewoodlaw4_RandomPrefixes.l0 k (n : Int) p.1 l (i : Int) = some true := by
  intro d
  induction d with
  | zero =>
    intro i l hi hl h k hk
    obtain ⟨k, rfl⟩ : ∃ j, k = j + 1 := ⟨k - 1, by omega⟩
    rw [brindlewoodlaw4_RandomPrefixes.l0, if_neg (by omega)]
  | succ d ih =>
    intro i l hi hl h k hk
    obtain ⟨k, rfl⟩ : ∃ j, k = j + 1 := ⟨k - 1, by omega⟩
    have w : wrap64 ((i : Int) + 1) = ((i + 1 : Nat) : Int) := by unfold wrap64; omega
    have hr : rd p.1 (i : Int) = p.1.getD i 0 := by unfold rd; rw [Int.toNat_natCast]
    obtain ⟨r0, r1⟩ := I.rng i (by omega)
    obtain ⟨v, hv⟩ := Int.eq_ofNat_of_zero_le r0
    have hlen := I.len
    rw [brindlewoodlaw4_RandomPrefixes.l0, hr, hv, w]
    rw [hv] at r1
    have hs : ¬ rdOf false l (v : Int) = true := by
      unfold rdOf
      rw [Int.toNat_natCast, h v (by omega)]
      rintro ⟨b, hb, e⟩
      have := I.inj b i (by omega) (by omega) (by rw [e, hv])
      omega
    rw [if_pos (by omega), if_pos (by omega), if_pos (by omega), if_neg (by omega), if_neg (by omega), if_pos (by omega), if_pos (by omega), if_neg hs, Int.toNat_natCast]
    refine ih (i + 1) _ (by omega) (by simpa using hl) ?_ k (by omega)
    intro a ha
    have e1 : (l.set v true).getD a false = if v = a then true else l.getD a false := by
      rw [List.getD_eq_getElem?_getD, List.getElem?_set, List.getD_eq_getElem?_getD]
      by_cases h : v = a
      · rw [if_pos h, if_pos h, if_pos (by omega)]; rfl
      · rw [if_neg h, if_neg h]
    rw [e1]
    by_cases hva : v = a
    · rw [if_pos hva]
      exact ⟨fun _ => ⟨i, by omega, by rw [hv, hva]⟩, fun _ => rfl⟩
    · rw [if_neg hva, h a ha]
      constructor
      · rintro ⟨b, hb, e⟩; exact ⟨b, by omega, e⟩
      · rintro ⟨b, hb, e⟩
        refine ⟨b, ?_, e⟩
        rcases Nat.lt_or_ge b i with g | g
        · exact g
        · have : b = i := by omega
          subst this
          rw [hv] at e
          omega
theorem draws_true : brindlewoodlaw4_draws.f 200 = some true := by kernel_rfl
theorem law_true (s t : Int) (n kk : Int) (h0 : 0 ≤ s) (h1 : s < 18446744073709551616) (ht0 : 0 ≤ t) : ∃ K, brindlewoodlaw4_RandomPrefixes.f K s t n kk = some true := by
  have hd : ∀ k, 200 ≤ k → brindlewoodlaw4_draws.f k = some true := lift (fun k => brindlewoodlaw4_draws.f k) (fun k => brindlewoodlaw4_draws.mono k) draws_true
  have start : ∀ k, 200 ≤ k → ¬ (Int.tmod t 2 ≠ 0 ∧ 0 ≤ n ∧ n ≤ 1000 ∧ 0 ≤ kk ∧ kk ≤ n) → brindlewoodlaw4_RandomPrefixes.f k s t n kk = some true := by
    intro k hk h
    unfold brindlewoodlaw4_RandomPrefixes.f
    rw [hd k hk]
    simp only [Option.bind_some, if_true]
    by_cases a1 : Int.tmod t 2 = 0
    · rw [if_pos a1]
    rw [if_neg a1]
    by_cases a2 : n < 0
    · rw [if_pos a2]
    rw [if_neg a2]
    by_cases a3 : n > 1000
    · rw [if_pos a3]
    rw [if_neg a3]
    by_cases a4 : kk < 0
    · rw [if_pos a4]
    rw [if_neg a4]
    by_cases a5 : kk > n
    · rw [if_pos a5]
    exact absurd ⟨a1, by omega, by omega, by omega, by omega⟩ h
  rcases Classical.em (Int.tmod t 2 ≠ 0 ∧ 0 ≤ n ∧ n ≤ 1000 ∧ 0 ≤ kk ∧ kk ≤ n) with hall | hall
  case inr => exact ⟨200, start 200 (by omega) hall⟩
  obtain ⟨a1, a2, a3, a4, a5⟩ := hall
  obtain ⟨n, rfl⟩ := Int.eq_ofNat_of_zero_le a2
  obtain ⟨kk, rfl⟩ := Int.eq_ofNat_of_zero_le a4
  have ht : ¬ t % 2 = 0 := by rw [Int.tmod_eq_emod_of_nonneg ht0] at a1; exact a1
  obtain ⟨sa, K1, e1⟩ := bytes_eq t s n (by omega) ht
  obtain ⟨sb, K2, e2⟩ := bytes_eq t s kk (by omega) ht
  obtain ⟨K3, e3⟩ := sample_eq t s n n (by omega) (Nat.le_refl n) h0 h1 ht
  obtain ⟨K4, e4⟩ := sample_eq t s n kk (by omega) (by omega) h0 h1 ht
  have I := F_inv t s n (by omega) h0 h1 ht n (Nat.le_refl n)
  have I2 := F_inv t s n (by omega) h0 h1 ht kk (by omega)
  have tk : (F t s n n).1.take n = (F t s n n).1 := List.take_of_length_le (by rw [I.len]; exact Nat.le_refl n)
  rw [tk] at e3
  have pre : (F t s n n).1.take kk = (F t s n kk).1.take kk := by
    obtain ⟨d, rfl⟩ : ∃ d, n = kk + d := ⟨n - kk, by omega⟩
    exact F_take t s (kk + d) kk d
  have len2 : ((F t s n kk).1.take kk).length = kk := by rw [List.length_take, I2.len]; omega
  refine ⟨K1 + K2 + K3 + K4 + 4200, ?_⟩
  generalize hK : K1 + K2 + K3 + K4 + 4200 = K
  unfold brindlewoodlaw4_RandomPrefixes.f
  rw [hd K (by omega), e1 K (by omega), e2 K (by omega), e3 K (by omega), e4 K (by omega)]
  simp only [Option.bind_some, if_true]
  rw [if_neg a1, if_neg (by omega), if_neg (by omega), if_neg (by omega), if_neg (by omega), B_len, B_len, I.len, len2, if_pos rfl, if_pos rfl, if_pos rfl, if_pos rfl, if_pos (by omega), if_pos (by omega), Int.toNat_natCast, B_take t s n kk (by omega)]
  unfold brindlewoodref4_SameBytes.f
  simp only [beq_self_eq_true, Option.bind_some, if_true]
  rw [if_pos (by omega), pre, numbers_same _ (by rw [len2]; omega) K (by omega)]
  simp only [Option.bind_some, if_true]
  rw [if_pos (by omega), Int.toNat_natCast, if_pos (by omega)]
  have := seen_loop n (by omega) (F t s n n) I n 0 (List.replicate n false) (by omega) (by simp) (by
    intro a ha
    have : (List.replicate n false).getD a false = false := by simp [List.getD_eq_getElem?_getD, ha]
    rw [this]
    constructor
    · intro h; cases h
    · rintro ⟨b, hb, _⟩; omega) K (by omega)
  exact this
end Go.Proofs.Ytkhiohlfdkkhdaa.PL
