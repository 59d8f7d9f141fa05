/- The plain law of RandomPrefixes, part 4. Conditions: those of each lemma. -/
import Derived.Test.YtkhiohlfdkkhdaaRPL3
-- AS: LP4
namespace Go.Proofs.Ytkhiohlfdkkhdaa.PL
open Go.RowKit Go.Proofs.YtkhiohlfdkkhdaaW.PrintWords Go.Proofs.Ytkhiohlfdkkhdaa.P
theorem getD_set (l : List Int) (i j : Nat) (v : Int) (hi : i < l.length) : (l.set i v).getD j 0 = if i = j then v else l.getD j 0 := by
  rw [List.getD_eq_getElem?_getD, List.getElem?_set, List.getD_eq_getElem?_getD]
  by_cases h : i = j
  · rw [if_pos h, if_pos h, if_pos hi]; rfl
  · rw [if_neg h, if_neg h]
theorem ext_getD {l1 l2 : List Int} (h : l1.length = l2.length) (he : ∀ a, a < l1.length → l1.getD a 0 = l2.getD a 0) : l1 = l2 := by
  refine List.ext_getElem h fun a h1 h2 => ?_
  have := he a h1
  rwa [List.getD_eq_getElem?_getD, List.getD_eq_getElem?_getD, List.getElem?_eq_getElem h1, List.getElem?_eq_getElem h2] at this
def swp (l : List Int) (i j : Nat) : List Int := (l.set i (l.getD j 0)).set j (l.getD i 0)
def tr (i j a : Nat) : Nat := if a = j then i else if a = i then j else a
theorem swp_len (l : List Int) (i j : Nat) : (swp l i j).length = l.length := by simp [swp]
theorem swp_getD (l : List Int) (i j a : Nat) (hi : i < l.length) (hj : j < l.length) : (swp l i j).getD a 0 = l.getD (tr i j a) 0 := by
  unfold swp tr
  rw [getD_set _ _ _ _ (by simpa using hj)]
  by_cases h : j = a
  · rw [if_pos h, if_pos h.symm]
  · rw [if_neg h, if_neg (fun e => h e.symm), getD_set _ _ _ _ hi]
    by_cases h2 : i = a
    · rw [if_pos h2, if_pos h2.symm]
    · rw [if_neg h2, if_neg (fun e => h2 e.symm)]
theorem tr_lt {i j a n : Nat} (hi : i < n) (hj : j < n) (ha : a < n) : tr i j a < n := by
  unfold tr
  by_cases h1 : a = j
  · rw [if_pos h1]; exact hi
  · rw [if_neg h1]
    by_cases h2 : a = i
    · rw [if_pos h2]; exact hj
    · rw [if_neg h2]; exact ha
theorem tr_inj {i j a b : Nat} (h : tr i j a = tr i j b) : a = b := by
  unfold tr at h
  by_cases h1 : a = j <;> by_cases h2 : b = j <;> by_cases h3 : a = i <;> by_cases h4 : b = i <;> simp_all
theorem swp_take (l : List Int) (i j k : Nat) (hi : k ≤ i) (hj : k ≤ j) : (swp l i j).take k = l.take k := by
  unfold swp
  rw [List.take_set_of_le hj, List.take_set_of_le hi]
noncomputable def F (t s0 : Int) (n : Nat) : Nat → List Int × Int
  | 0 => ((List.range n).map fun (a : Nat) => (a : Int), s0)
  | i + 1 => (swp (F t s0 n i).1 i (i + (sm t (F t s0 n i).2 (n - i)).1.toNat), (sm t (F t s0 n i).2 (n - i)).2)
structure Inv (n : Nat) (p : List Int × Int) : Prop where
  len : p.1.length = n
  rng : ∀ a, a < n → 0 ≤ p.1.getD a 0 ∧ p.1.getD a 0 < (n : Int)
  inj : ∀ a b, a < n → b < n → p.1.getD a 0 = p.1.getD b 0 → a = b
  s0 : 0 ≤ p.2
  s1 : p.2 < 18446744073709551616
theorem range_getD (n a : Nat) (h : a < n) : ((List.range n).map fun (a : Nat) => (a : Int)).getD a 0 = (a : Int) := by
  rw [List.getD_eq_getElem?_getD, List.getElem?_map, List.getElem?_range h]; rfl
theorem F_inv (t s0 : Int) (n : Nat) (hn : n ≤ 1000) (h0 : 0 ≤ s0) (h1 : s0 < 18446744073709551616) (ht : ¬ t % 2 = 0) : ∀ i, i ≤ n → Inv n (F t s0 n i) := by
  intro i
  induction i with
  | zero =>
    intro _
    refine ⟨by simp [F], ?_, ?_, h0, h1⟩
    · intro a ha
      simp only [F]
      rw [range_getD n a ha]
      omega
    · intro a b ha hb h
      simp only [F] at h
      rw [range_getD n a ha, range_getD n b hb] at h
      omega
  | succ i ih =>
    intro hi
    have I := ih (by omega)
    obtain ⟨z1, z2, z3, z4, _⟩ := sm_spec t (F t s0 n i).2 (n - i) (by omega) (by omega) I.s0 I.s1 ht
    have hj : i + (sm t (F t s0 n i).2 (n - i)).1.toNat < n := by omega
    refine ⟨by simp only [F]; rw [swp_len]; exact I.len, ?_, ?_, z3, z4⟩
    · intro a ha
      simp only [F]
      rw [swp_getD _ _ _ _ (by rw [I.len]; omega) (by rw [I.len]; exact hj)]
      exact I.rng _ (tr_lt (by omega) hj ha)
    · intro a b ha hb h
      simp only [F] at h
      rw [swp_getD _ _ _ _ (by rw [I.len]; omega) (by rw [I.len]; exact hj), swp_getD _ _ _ _ (by rw [I.len]; omega) (by rw [I.len]; exact hj)] at h
      exact tr_inj (I.inj _ _ (tr_lt (by omega) hj ha) (tr_lt (by omega) hj hb) h)
theorem F_take (t s0 : Int) (n k : Nat) : ∀ d, (F t s0 n (k + d)).1.take k = (F t s0 n k).1.take k := by
  intro d
  induction d with
  | zero => rfl
  | succ d ih =>
    rw [← Nat.add_assoc]
    simp only [F]
    rw [swp_take _ _ _ _ (by omega) (by omega)]
    exact ih
theorem draw_step (n kk i : Nat) (t : Int) (l : List Int) (s r s' : Int) (Y : List Int × Int) (K K' : Nat) (hn : n ≤ 1000) (hin : i < n) (hik : i < kk) (hl : l.length = n) (z1 : 0 ≤ r) (z2 : r < ((n - i : Nat) : Int))
    (hK' : ∀ k, K' ≤ k → random_source_small.f k s t ((n - i : Nat) : Int) = some (r, s', t))
    (hK : ∀ k, K ≤ k → random_source_sample.l1 k (n : Int) (kk : Int) (swp l i (i + r.toNat)) (kk : Int) ((i + 1 : Nat) : Int) s' t = some (Y.1.take kk, Y.2, t)) :
    ∃ K, ∀ k, K ≤ k → random_source_sample.l1 k (n : Int) (kk : Int) l (kk : Int) (i : Int) s t = some (Y.1.take kk, Y.2, t) := by
  have q1 : (i : Int) < (kk : Int) := by omega
  have q2 : (0 : Int) ≤ ((i + r.toNat : Nat) : Int) := by omega
  have q3 : ((i + r.toNat : Nat) : Int) < (l.length : Int) := by omega
  have q4 : (0 : Int) ≤ (i : Int) := by omega
  have q5 : (i : Int) < (l.length : Int) := by omega
  have w1 : wrap64 ((n : Int) - (i : Int)) = ((n - i : Nat) : Int) := by unfold wrap64; omega
  have w2 : wrap64 ((i : Int) + r) = ((i + r.toNat : Nat) : Int) := by unfold wrap64; omega
  have w3 : wrap64 ((i : Int) + 1) = ((i + 1 : Nat) : Int) := by unfold wrap64; omega
  refine ⟨K + K' + 1, fun k hk' => ?_⟩
  obtain ⟨k, rfl⟩ : ∃ j, k = j + 1 := ⟨k - 1, by clear w1 w2 w3 z2; omega⟩
  have e1 : K' ≤ k := by clear w1 w2 w3 z2; omega
  have e2 : K ≤ k := by clear w1 w2 w3 z2; omega
  rw [random_source_sample.l1, if_pos q1, w1, hK' k e1]
  simp only [Option.bind_some]
  rw [w2, w3, if_pos q2, if_pos q3, if_pos q4, if_pos q5]
  exact hK k e2
/-- the drawing loop -/
theorem draw_loop (t s0 : Int) (n kk : Nat) (hn : n ≤ 1000) (hk : kk ≤ n) (h0 : 0 ≤ s0) (h1 : s0 < 18446744073709551616) (ht : ¬ t % 2 = 0) :
    ∀ d i, i + d = kk → ∃ K, ∀ k, K ≤ k → random_source_sample.l1 k (n : Int) (kk : Int) (F t s0 n i).1 (kk : Int) (i : Int) (F t s0 n i).2 t = some ((F t s0 n kk).1.take kk, (F t s0 n kk).2, t) := by
  intro d
  induction d with
  | zero =>
    intro i hi
    obtain rfl : i = kk := by omega
    have I := F_inv t s0 n hn h0 h1 ht i hk
    refine ⟨1, fun k hk' => ?_⟩
    obtain ⟨k, rfl⟩ : ∃ j, k = j + 1 := ⟨k - 1, by omega⟩
    rw [random_source_sample.l1, if_neg (by omega), if_pos (by omega), if_pos (by have := I.len; omega)]
    unfold slices_Clone_int_int.f
    rw [if_pos (by rw [List.length_take, I.len]; omega)]
    rfl
  | succ d ih =>
    intro i hi
    have I := F_inv t s0 n hn h0 h1 ht i (by omega)
    obtain ⟨K, hK⟩ := ih (i + 1) (by omega)
    obtain ⟨z1, z2, z3, z4, K', hK'⟩ := sm_spec t (F t s0 n i).2 (n - i) (by omega) (by omega) I.s0 I.s1 ht
    have hF : F t s0 n (i + 1) = (swp (F t s0 n i).1 i (i + (sm t (F t s0 n i).2 (n - i)).1.toNat), (sm t (F t s0 n i).2 (n - i)).2) := rfl
    rw [hF] at hK
    clear hF
    have hl := I.len
    have hin : i < n := by omega
    clear I
    generalize sm t (F t s0 n i).2 (n - i) = z at z1 z2 z3 z4 hK' hK
    generalize hX : F t s0 n i = X at *
    generalize F t s0 n kk = Y at *
    obtain ⟨l, s⟩ := X
    obtain ⟨r, s'⟩ := z
    simp only at z1 z2 z3 z4 hK' hK hl ⊢
    exact draw_step n kk i t l s r s' Y K K' hn hin (by omega) hl z1 z2 hK' hK
theorem fill_loop (n kk : Nat) (s t : Int) (hn : n ≤ 1000) : ∀ d i (l : List Int), i + d = n → l.length = n → (∀ a, a < i → l.getD a 0 = (a : Int)) →
    ∀ k, random_source_sample.l0 (k + d + 1) (n : Int) (kk : Int) l (n : Int) (i : Int) s t = random_source_sample.l1 k (n : Int) (kk : Int) ((List.range n).map fun (a : Nat) => (a : Int)) (kk : Int) 0 s t := by
  intro d
  induction d with
  | zero =>
    intro i l hi hl h k
    rw [random_source_sample.l0, if_neg (by omega)]
    have : l = (List.range n).map fun (a : Nat) => (a : Int) := by
      refine ext_getD (by simp [hl]) fun a ha => ?_
      rw [range_getD n a (by omega)]
      exact h a (by omega)
    rw [this]
  | succ d ih =>
    intro i l hi hl h k
    have w3 : wrap64 ((i : Int) + 1) = ((i + 1 : Nat) : Int) := by unfold wrap64; omega
    rw [show k + (d + 1) + 1 = (k + d + 1) + 1 by omega, random_source_sample.l0, if_pos (by omega), if_pos (by omega), if_pos (by omega), w3]
    refine ih (i + 1) _ (by omega) (by simpa using hl) ?_ k
    intro a ha
    rw [Int.toNat_natCast, getD_set _ _ _ _ (by omega)]
    by_cases e : i = a
    · rw [if_pos e]; omega
    · rw [if_neg e]; exact h a (by omega)
theorem sample_eq (t s0 : Int) (n kk : Nat) (hn : n ≤ 1000) (hk : kk ≤ n) (h0 : 0 ≤ s0) (h1 : s0 < 18446744073709551616) (ht : ¬ t % 2 = 0) :
    ∃ K, ∀ k, K ≤ k → random_Sample.f k s0 t (n : Int) (kk : Int) = some ((F t s0 n kk).1.take kk, (F t s0 n kk).2, t, 0, 0) := by
  obtain ⟨K, hK⟩ := draw_loop t s0 n kk hn hk h0 h1 ht kk 0 (by omega)
  refine ⟨K + n + 10, fun k hk' => ?_⟩
  obtain ⟨k, rfl⟩ : ∃ j, k = (j + n + 1) + 2 := ⟨k - n - 3, by omega⟩
  unfold random_Sample.f random_open_ok.f
  rw [if_neg ht, if_neg ht]
  simp only [Option.bind_some]
  rw [if_neg (by omega), random_Sample.j0, show decide ((n : Int) > 1000) = false by simp; omega]
  simp only [Bool.false_eq_true, if_false]
  rw [if_neg (by omega), random_Sample.j1, show decide ((kk : Int) > (n : Int)) = false by simp; omega]
  simp only [Bool.false_eq_true, if_false]
  unfold random_source_sample.f
  rw [if_pos (by omega), if_pos (by omega)]
  simp only [Option.bind_some, Int.toNat_natCast, List.length_replicate]
  have := fill_loop n kk s0 t hn n 0 (List.replicate n 0) (by omega) (by simp) (fun a h => by omega) k
  simp only [Int.natCast_zero] at this
  rw [this]
  have e := hK k (by omega)
  simp only [F, Int.natCast_zero] at e
  rw [e]
  rfl
end Go.Proofs.Ytkhiohlfdkkhdaa.PL
