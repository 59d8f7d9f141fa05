/- The plain law of RandomPrefixes, part 3: over numbers and lists, without Go and memory. Conditions: those of each lemma. -/
import Derived.Test.YtkhiohlfdkkhdaaRPL2
-- AS: LP3
namespace Go.Proofs.Ytkhiohlfdkkhdaa.PL
open Go.RowKit Go.Proofs.YtkhiohlfdkkhdaaW.PrintWords Go.Proofs.Ytkhiohlfdkkhdaa.P
theorem below_loop (t b : Int) (m : Nat) (h1 : 1 ≤ m) (hb : 1 ≤ b ∧ b ≤ 10) :
    ∀ (n k : Nat) (s : Int), it t (n + 1) s = 0 → n + 10 ≤ k → ∃ v s', 0 ≤ v ∧ v < (m : Int) ∧ v < 1024 ∧ 0 ≤ s' ∧ s' < 18446744073709551616 ∧ random_source_below.l0 k b s t false [(m : Int)] = some (false, trimv v, s', t) := by
  intro n
  induction n with
  | zero =>
    intro k s h hk
    obtain ⟨k, rfl⟩ : ∃ j, k = j + 1 := ⟨k - 1, by omega⟩
    have h0 : aff t s = 0 := h
    have hv := tv_zero s t b h0
    obtain ⟨c, hc, hl⟩ := cmp_one k (tv s t b) m (by omega) (by omega) (by omega)
    rw [random_source_below.l0, bits_one k s t b (by omega) hb.1 hb.2]
    simp only [Option.bind_some]
    rw [hc]
    simp only [Option.bind_some]
    rw [if_pos (hl.mpr (by omega))]
    exact ⟨_, _, by omega, by omega, by omega, (aff_range t s).1, (aff_range t s).2, rfl⟩
  | succ n ih =>
    intro k s h hk
    obtain ⟨k, rfl⟩ : ∃ j, k = j + 1 := ⟨k - 1, by omega⟩
    have hr := tv_range s t b hb.1 hb.2
    have hp : (2 : Int) ^ b.toNat ≤ 1024 := by
      have h := Nat.pow_le_pow_right (n := 2) (by decide) (show b.toNat ≤ 10 by omega)
      have h2 : ((2 ^ b.toNat : Nat) : Int) ≤ ((2 ^ 10 : Nat) : Int) := Int.ofNat_le.mpr h
      rw [Int.natCast_pow] at h2
      exact h2
    obtain ⟨c, hc, hl⟩ := cmp_one k (tv s t b) m (by omega) (by omega) hr.1
    rw [random_source_below.l0, bits_one k s t b (by omega) hb.1 hb.2]
    simp only [Option.bind_some]
    rw [hc]
    simp only [Option.bind_some]
    by_cases hlt : c < 0
    · rw [if_pos hlt]
      exact ⟨_, _, hr.1, hl.mp hlt, by omega, (aff_range t s).1, (aff_range t s).2, rfl⟩
    · rw [if_neg hlt]
      exact ih k (aff t s) h (by omega)
theorem small_fin : ((List.range 1024).all fun v => integer_Small.f 100 false (trimv (v : Int)) == some ((v : Int), 0, 0)) = true := by kernel_rfl
theorem small_at (v : Int) (h0 : 0 ≤ v) (h1 : v < 1024) : integer_Small.f 100 false (trimv v) = some (v, 0, 0) := by
  obtain ⟨n, rfl⟩ := Int.eq_ofNat_of_zero_le h0
  have h := (List.all_eq_true.mp small_fin) n (by simp; omega)
  exact eq_of_beq h
/-- A number below a small one is drawn, whatever the generator. -/
theorem small_ex (s t : Int) (m : Nat) (h1 : 1 ≤ m) (h2 : m ≤ 1000) (hs0 : 0 ≤ s) (hs1 : s < 18446744073709551616) (ht : ¬ t % 2 = 0) :
    ∃ z : Int × Int, 0 ≤ z.1 ∧ z.1 < (m : Int) ∧ 0 ≤ z.2 ∧ z.2 < 18446744073709551616 ∧ ∃ K, ∀ k, K ≤ k → random_source_small.f k s t (m : Int) = some (z.1, z.2, t) := by
  obtain ⟨hof, r, b, hsub, hbits, hcase⟩ := fin m h1 h2
  have main : ∃ v s', ∃ K : Nat, 200 ≤ K ∧ 0 ≤ v ∧ v < (m : Int) ∧ v < 1024 ∧ 0 ≤ s' ∧ s' < 18446744073709551616 ∧ random_source_below.l0 K b.1 s t false [(m : Int)] = some (false, trimv v, s', t) := by
    rcases hcase with ⟨hm, hb0⟩ | ⟨hm, hb1, hb2, hb3⟩
    · refine ⟨0, s, 200, by omega, by omega, by omega, by omega, hs0, hs1, ?_⟩
      obtain ⟨c, hc, hl⟩ := cmp_one 199 0 m (by omega) (by omega) (by omega)
      rw [show (200 : Nat) = 199 + 1 from rfl, random_source_below.l0, hb0, bits_none 199 s t (by omega)]
      simp only [Option.bind_some]
      have hc' : integer_Cmp.f 199 false [] false [(m : Int)] = some (c, 0, 0) := hc
      rw [hc']
      simp only [Option.bind_some]
      rw [if_pos (hl.mpr (by omega))]
      rfl
    · obtain ⟨n, hn⟩ := zero_at t s ht
      obtain ⟨v, s', g1, g2, g3, g4, g5, g6⟩ := below_loop t b.1 m h1 ⟨hb1, hb2⟩ n (n + 200) s hn (by omega)
      exact ⟨v, s', n + 200, by omega, g1, g2, g3, g4, g5, g6⟩
  obtain ⟨v, s', K, hK, g1, g2, g3, g4, g5, g6⟩ := main
  refine ⟨(v, s'), g1, g2, g4, g5, K, ?_⟩
  refine lift (fun k => random_source_small.f k s t (m : Int)) (fun k => random_source_small.mono _ _ _ _) ?_
  have e1 : integer_Of.f K (m : Int) = some (false, [(m : Int)]) := lift (fun k => integer_Of.f k (m : Int)) (fun k => integer_Of.mono _ _) hof K hK
  have e2 : integer_Of.f K 1 = some (false, [1]) := lift (fun k => integer_Of.f k 1) (fun k => integer_Of.mono _ _) of_one K hK
  have e3 : integer_Sub.f K false [(m : Int)] false [1] = some r := lift (fun k => integer_Sub.f k false [(m : Int)] false [1]) (fun k => integer_Sub.mono _ _ _ _ _) hsub K hK
  have e4 : integer_Bits.f K r.1 r.2.1 = some b := lift (fun k => integer_Bits.f k r.1 r.2.1) (fun k => integer_Bits.mono _ _ _) hbits K hK
  have e5 : integer_Small.f K false (trimv v) = some (v, 0, 0) := lift (fun k => integer_Small.f k false (trimv v)) (fun k => integer_Small.mono _ _ _) (small_at v g1 g3) K (by omega)
  show random_source_small.f K s t (m : Int) = some (v, s', t)
  unfold random_source_small.f random_source_below.f
  rw [e1]
  simp only [Option.bind_some]
  rw [e2]
  simp only [Option.bind_some]
  rw [e3]
  simp only [Option.bind_some]
  rw [e4]
  simp only [Option.bind_some]
  rw [g6]
  simp only [Option.bind_some]
  rw [e5]
  rfl
open Classical in
/-- the number drawn, and the state behind it -/
noncomputable def sm (t s : Int) (m : Nat) : Int × Int := if h : 1 ≤ m ∧ m ≤ 1000 ∧ 0 ≤ s ∧ s < 18446744073709551616 ∧ ¬ t % 2 = 0 then (small_ex s t m h.1 h.2.1 h.2.2.1 h.2.2.2.1 h.2.2.2.2).choose else (0, 0)
theorem sm_spec (t s : Int) (m : Nat) (h1 : 1 ≤ m) (h2 : m ≤ 1000) (hs0 : 0 ≤ s) (hs1 : s < 18446744073709551616) (ht : ¬ t % 2 = 0) :
    0 ≤ (sm t s m).1 ∧ (sm t s m).1 < (m : Int) ∧ 0 ≤ (sm t s m).2 ∧ (sm t s m).2 < 18446744073709551616 ∧ ∃ K, ∀ k, K ≤ k → random_source_small.f k s t (m : Int) = some ((sm t s m).1, (sm t s m).2, t) := by
  unfold sm
  rw [dif_pos ⟨h1, h2, hs0, hs1, ht⟩]
  exact (small_ex s t m h1 h2 hs0 hs1 ht).choose_spec
end Go.Proofs.Ytkhiohlfdkkhdaa.PL
