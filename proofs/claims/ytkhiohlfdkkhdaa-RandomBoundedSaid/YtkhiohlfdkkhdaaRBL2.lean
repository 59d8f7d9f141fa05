/- Numbers of many digits, over lists alone, part 2: the law answers true. Conditions: those of each lemma. -/
import Derived.Test.YtkhiohlfdkkhdaaRBL1
import Derived.Test.YtkhiohlfdkkhdaaRBP
import Derived.KernelRfl
import Derived.Laws.Bits64b
/- The reference's numbers: digits to the base 65536. Conditions: those of each lemma. -/
set_option linter.unusedVariables false
namespace Go.Proofs.Ytkhiohlfdkkhdaa.Big
open Go.RowKit Go.Proofs.YtkhiohlfdkkhdaaW.PrintWords Go.Proofs.Ytkhiohlfdkkhdaa.P
def D : Int := 65536
theorem w64id {x : Int} (h : -9223372036854775808 ≤ x) (h2 : x < 9223372036854775808) : wrap64 x = x := by unfold wrap64; omega
theorem rtrim_eq : ∀ (k : Nat) (l : List Int), brindlewoodref3_trim.l0 k l = natural_trim.l0 k l := by
  intro k
  induction k with
  | zero => intro l; rw [brindlewoodref3_trim.l0, natural_trim.l0]
  | succ k ih => intro l; rw [brindlewoodref3_trim.l0, natural_trim.l0]; simp only [ih]
theorem rtrim_ok (b : Int) (l : List Int) (k : Nat) (hn : l.length ≤ 1000000) (hk : l.length < k) : ∃ r, brindlewoodref3_trim.f k l = some r ∧ Cut b l r := by
  unfold brindlewoodref3_trim.f
  rw [rtrim_eq]
  exact trim_ok b l.length l k rfl hn hk
/-- a number of the reference -/
structure RN (l : List Int) (v : Int) : Prop where
  dig : Dig D l
  norm : Norm l
  val : val D l = v
theorem RN.nonneg {l : List Int} {v : Int} (h : RN l v) : 0 ≤ v := by have := val_nonneg (by decide) h.dig; rw [h.val] at this; exact this
theorem RN.inj {l m : List Int} {v : Int} (h : RN l v) (g : RN m v) : l = m := val_inj (by decide) h.dig g.dig h.norm g.norm (h.val.trans g.val.symm)
theorem RN.nil_iff {l : List Int} {v : Int} (h : RN l v) : l = [] ↔ v = 0 := by
  constructor
  · rintro rfl; rw [← h.val]; rfl
  · intro hv
    subst hv
    exact h.inj ⟨Dig.nil D, .inl rfl, rfl⟩
theorem RN.len_pos {l : List Int} {v : Int} (h : RN l v) : decide (0 < l.length) = decide (v ≠ 0) := by
  have := h.nil_iff
  rw [decide_eq_decide]
  rw [List.length_pos_iff]
  exact not_congr this
theorem DB (n : Nat) : D ^ (2 * n) = B ^ n := by
  induction n with
  | zero => rfl
  | succ n ih => rw [Nat.mul_succ, Int.pow_add D, ih, pow_split]; rfl
/-- the digits of limbs -/
theorem of_loop {l : List Int} (d : Dig B l) (hl : l.length ≤ 600) : ∀ (m i k : Nat) (out : List Int), i + m = l.length → out.length = 2 * i → Dig D out → val D out = val B (l.take i) → m + 2 * l.length + 4 ≤ k →
    ∃ r, brindlewoodref3_Of.l0 k l out (i : Int) = some r ∧ RN r (val B l) ∧ r.length ≤ 2 * l.length := by
  intro m
  induction m with
  | zero =>
    intro i k out hi ho hd hv hk
    obtain ⟨k, rfl⟩ : ∃ j, k = j + 1 := ⟨k - 1, by omega⟩
    obtain ⟨r, h1, h2⟩ := rtrim_ok D out k (by omega) (by omega)
    rw [brindlewoodref3_Of.l0, if_neg (by omega), h1]
    refine ⟨r, rfl, ⟨h2.dig hd, h2.norm, ?_⟩, ?_⟩
    · rw [h2.val, hv, List.take_of_length_le (by omega)]
    · have := h2.len; omega
  | succ m ih =>
    intro i k out hi ho hd hv hk
    obtain ⟨k, rfl⟩ : ∃ j, k = j + 1 := ⟨k - 1, by omega⟩
    have r := d.rd i (by omega)
    unfold B at r
    have e1 : wrap64 (Int.tmod (rd l (i : Int)) 65536) = rd l (i : Int) % 65536 := by rw [Int.tmod_eq_emod_of_nonneg r.1]; exact w64id (by omega) (by omega)
    have e2 : Int.tdiv (rd l (i : Int)) 65536 % 4294967296 = rd l (i : Int) / 65536 := by rw [Int.tdiv_eq_ediv_of_nonneg r.1]; omega
    rw [brindlewoodref3_Of.l0, if_pos (by omega), if_pos (by omega), e1, e2, wsucc i (by omega)]
    simp only [Option.bind_some, List.length_cons, List.length_nil]
    rw [if_pos (by omega)]
    refine ih (i + 1) k _ (by omega) (by simp [ho]; omega) (hd.append ?_) ?_ (by omega)
    · intro x hx
      simp only [List.mem_cons, List.not_mem_nil, or_false] at hx
      unfold D
      rcases hx with rfl | rfl <;> omega
    · rw [val_append, ho, DB, val_take B l i (by omega), hv]
      simp only [val]
      have e : rd l (i : Int) = rd l (i : Int) % 65536 + D * (rd l (i : Int) / 65536) := by unfold D; omega
      conv => rhs; rw [e]
      rw [Int.mul_zero, Int.add_zero]
theorem of_ok {l : List Int} (d : Dig B l) (hl : l.length ≤ 600) (k : Nat) (hk : 1900 ≤ k) : ∃ r, brindlewoodref3_Of.f k l = some r ∧ RN r (val B l) ∧ r.length ≤ 2 * l.length :=
  of_loop d hl l.length 0 k [] (by omega) rfl (Dig.nil D) rfl (by omega)
/-- an integer of the reference: its digits, told by its value -/
structure RI (n : Bool) (l : List Int) (v : Int) : Prop where
  ex : ∃ u, RN l u ∧ v = (if n = true then -u else u)
theorem intof_ok {n : Bool} {l : List Int} (h : Ok n l) (k : Nat) (hk : 1900 ≤ k) : ∃ r, brindlewoodref3_IntOf.f k n l = some (n, r) ∧ RI n r (iv n l) ∧ r.length ≤ 256 := by
  obtain ⟨r, h1, h2, h3⟩ := of_ok h.dig (by have := h.len; omega) k hk
  unfold brindlewoodref3_IntOf.f
  rw [h1]
  exact ⟨r, rfl, ⟨_, h2, rfl⟩, by have := h.len; omega⟩
theorem rcompare_loop {a b : List Int} (da : Dig D a) (db : Dig D b) (n : Nat) (ha : a.length = n) (hb : b.length = n) (hn : n ≤ 1000000) :
    ∀ (i k : Nat), i ≤ n → i < k → a.drop i = b.drop i → ∃ c, brindlewoodref3_Compare.l0 k a b ((i : Int) - 1) = some c ∧ Sgn c (val D a) (val D b) := by
  intro i
  induction i with
  | zero =>
    intro k hi hk hd
    obtain ⟨k, rfl⟩ : ∃ j, k = j + 1 := ⟨k - 1, by omega⟩
    refine ⟨0, ?_, ?_⟩
    · rw [brindlewoodref3_Compare.l0, if_neg (by omega)]
    · simp only [List.drop_zero] at hd
      rw [hd]
      exact ⟨by omega, by simp⟩
  | succ i ih =>
    intro k hi hk hd
    obtain ⟨k, rfl⟩ : ∃ j, k = j + 1 := ⟨k - 1, by omega⟩
    have e : ((i + 1 : Nat) : Int) - 1 = (i : Int) := by omega
    have w' : wrap64 ((i : Int) - 1) = (i : Int) - 1 := by unfold wrap64; omega
    rw [e, brindlewoodref3_Compare.l0, if_pos (by omega), if_pos (by omega), if_pos (by omega), if_pos (by omega)]
    by_cases h2 : rd a (i : Int) < rd b (i : Int)
    · rw [if_pos h2]
      have := val_cmp (by decide) da db i (by omega) (by omega) hd h2
      exact ⟨-1, rfl, ⟨by omega, by omega⟩⟩
    · rw [if_neg h2]
      by_cases h3 : rd a (i : Int) > rd b (i : Int)
      · rw [if_pos h3]
        have := val_cmp (by decide) db da i (by omega) (by omega) hd.symm h3
        exact ⟨1, rfl, ⟨by omega, by omega⟩⟩
      · rw [if_neg h3, w']
        refine ih k (by omega) (by omega) ?_
        have h1 : rd a (i : Int) = rd b (i : Int) := by omega
        rw [List.drop_eq_getElem_cons (show i < a.length by omega), List.drop_eq_getElem_cons (show i < b.length by omega), hd, ← rd_get a i (by omega), ← rd_get b i (by omega), h1]
theorem rcompare_ok {a b : List Int} {x y : Int} (ha : RN a x) (hb : RN b y) (la : a.length ≤ 1000000) (lb : b.length ≤ 1000000) (k : Nat) (hk : a.length + 1 ≤ k) : ∃ c, brindlewoodref3_Compare.f k a b = some c ∧ Sgn c x y := by
  rw [← ha.val, ← hb.val]
  unfold brindlewoodref3_Compare.f
  by_cases h : (a.length : Int) = (b.length : Int)
  · rw [if_pos h]
    have w' : wrap64 ((a.length : Int) - 1) = (a.length : Int) - 1 := by unfold wrap64; omega
    rw [w']
    exact rcompare_loop ha.dig hb.dig a.length rfl (by omega) (by omega) a.length k (by omega) (by omega) (by rw [List.drop_length, List.drop_eq_nil_of_le (by omega)])
  · rw [if_neg h]
    rcases Nat.lt_or_ge a.length b.length with g | g
    · rw [if_pos (by omega)]
      have := val_lt_len (by decide) ha.dig hb.dig hb.norm g
      exact ⟨-1, rfl, ⟨by omega, by omega⟩⟩
    · rw [if_neg (by omega)]
      have := val_lt_len (by decide) hb.dig ha.dig ha.norm (by omega)
      exact ⟨1, rfl, ⟨by omega, by omega⟩⟩
theorem order_ok {na nb : Bool} {a b : List Int} {x y : Int} (ha : RI na a x) (hb : RI nb b y) (la : a.length ≤ 1000) (lb : b.length ≤ 1000) (k : Nat) (hk : 1010 ≤ k) : ∃ c, brindlewoodref3_Int_Order.f k na a nb b = some c ∧ Sgn c x y := by
  obtain ⟨u, hu, hx⟩ := ha.ex
  obtain ⟨v, hv, hy⟩ := hb.ex
  obtain ⟨k, rfl⟩ : ∃ j, k = j + 2 := ⟨k - 2, by omega⟩
  have u0 := hu.nonneg
  have v0 := hv.nonneg
  obtain ⟨c1, p1, p2⟩ := rcompare_ok hu hv (by omega) (by omega) k (by omega)
  obtain ⟨c2, q1, q2⟩ := rcompare_ok hv hu (by omega) (by omega) k (by omega)
  have lu := hu.len_pos
  have lv := hv.len_pos
  unfold Sgn at *
  unfold brindlewoodref3_Int_Order.f
  rw [lu, lv]
  have j0 : ∀ x6 x5 : Bool, brindlewoodref3_Int_Order.j0 (k + 2) x5 x6 na a nb b = if x5 = true ∧ x6 = true then some c2 else if x5 = true then some (-1) else if x6 = true then some 1 else some c1 := by
    intro x6 x5
    rw [brindlewoodref3_Int_Order.j0]
    cases x5 <;> cases x6 <;> simp [brindlewoodref3_Int_Order.j1, p1, q1]
  cases na <;> cases nb <;> simp only [if_true, if_false, Bool.false_eq_true] at hx hy ⊢ <;> rw [j0] <;> subst hx <;> subst hy
  · simp only [Bool.false_eq_true, false_and, if_false]; exact ⟨c1, rfl, by omega⟩
  · by_cases hv0 : v = 0
    · rw [decide_eq_false (by simp [hv0])]; simp only [Bool.false_eq_true, false_and, if_false]; exact ⟨c1, rfl, by omega⟩
    · rw [decide_eq_true hv0]; simp only [Bool.false_eq_true, false_and, if_false, if_true]; exact ⟨1, rfl, by omega⟩
  · by_cases hu0 : u = 0
    · rw [decide_eq_false (by simp [hu0])]; simp only [Bool.false_eq_true, false_and, if_false]; exact ⟨c1, rfl, by omega⟩
    · rw [decide_eq_true hu0]; simp only [Bool.false_eq_true, and_false, if_false, if_true]; exact ⟨-1, rfl, by omega⟩
  · by_cases hu0 : u = 0
    · by_cases hv0 : v = 0
      · rw [decide_eq_false (by simp [hu0]), decide_eq_false (by simp [hv0])]; simp only [Bool.false_eq_true, false_and, if_false]; exact ⟨c1, rfl, by omega⟩
      · rw [decide_eq_false (by simp [hu0]), decide_eq_true hv0]; simp only [Bool.false_eq_true, false_and, if_false, if_true]; exact ⟨1, rfl, by omega⟩
    · by_cases hv0 : v = 0
      · rw [decide_eq_true hu0, decide_eq_false (by simp [hv0])]; simp only [Bool.false_eq_true, and_false, if_false, if_true]; exact ⟨-1, rfl, by omega⟩
      · rw [decide_eq_true hu0, decide_eq_true hv0]; simp only [and_self, if_true]; exact ⟨c2, rfl, by omega⟩
/-- the limbs of digits -/
theorem limbs_loop {l : List Int} (d : Dig D l) (nl : Norm l) (hl : l.length ≤ 1000) : ∀ (m i k : Nat) (out : List Int), 2 * i + m = l.length ∨ (m = 0 ∧ 2 * i = l.length + 1) → out.length = i → Dig B out → val B out = val D (l.take (2 * i)) → (2 * i ≥ l.length → Norm out) → m + 4 ≤ k →
    ∃ r, brindlewoodref3_Limbs.l0 k l out ((2 * i : Nat) : Int) = some r ∧ Dig B r ∧ Norm r ∧ val B r = val D l ∧ 2 * r.length ≤ l.length + 1 := by
  intro m
  induction m using Nat.strongRecOn with
  | _ m ih =>
    intro i k out hi ho hd hv hn hk
    obtain ⟨k, rfl⟩ : ∃ j, k = j + 1 := ⟨k - 1, by omega⟩
    by_cases hlt : 2 * i < l.length
    · have r0 := d.rd (2 * i) hlt
      unfold D at r0
      have w1 : wrap64 (((2 * i : Nat) : Int) + 1) = ((2 * i + 1 : Nat) : Int) := wsucc _ (by omega)
      have w2 : wrap64 (((2 * i : Nat) : Int) + 2) = ((2 * (i + 1) : Nat) : Int) := by unfold wrap64; omega
      rw [brindlewoodref3_Limbs.l0, if_pos (by omega), if_pos (by omega), w1, w2]
      have last : ∀ j, j + 1 = l.length → rd l (j : Int) ≠ 0 := by
        intro j hj
        rcases nl with rfl | h
        · simp at hj
        · have : ((l.length : Int) - 1) = (j : Int) := by omega
          rw [this] at h; exact h
      have nrm : ∀ x : Int, x ≠ 0 → Norm (out ++ [x]) := by
        intro x hx
        right
        have : (((out ++ [x]).length : Int) - 1) = (out.length : Int) := by simp
        rw [this, rd_get _ _ (by simp)]
        simpa using hx
      by_cases h2 : 2 * i + 1 < l.length
      · have r1 := d.rd (2 * i + 1) h2
        unfold D at r1
        have e : (rd l ((2 * i : Nat) : Int) + rd l ((2 * i + 1 : Nat) : Int) % 4294967296 * 65536) % 4294967296 = rd l ((2 * i : Nat) : Int) + 65536 * rd l ((2 * i + 1 : Nat) : Int) := by omega
        rw [if_pos (by omega), if_pos (by omega), if_pos (by omega), e]
        refine ih (m - 2) (by omega) (i + 1) k _ (by omega) (by simp [ho]) (hd.append (Dig.one (by omega) (by unfold B; omega))) ?_ ?_ (by omega)
        · rw [val_snoc, ho, ← DB, show 2 * (i + 1) = (2 * i + 1) + 1 by omega, val_take D l (2 * i + 1) h2, val_take D l (2 * i) hlt, hv, pow_split, Int.mul_add]
          have : D = 65536 := rfl
          rw [Int.mul_assoc, this]
          omega
        · intro hge
          refine nrm _ ?_
          have := last (2 * i + 1) (by omega)
          omega
      · rw [if_neg (by omega), if_pos (by omega)]
        have e : rd l ((2 * i : Nat) : Int) % 4294967296 = rd l ((2 * i : Nat) : Int) := by omega
        rw [e]
        refine ih 0 (by omega) (i + 1) k _ (by omega) (by simp [ho]) (hd.append (Dig.one (by omega) (by unfold B; omega))) ?_ ?_ (by omega)
        · rw [val_snoc, ho, ← DB, hv, List.take_of_length_le (show l.length ≤ 2 * (i + 1) by omega)]
          have := val_take D l (2 * i) hlt
          rw [List.take_of_length_le (show l.length ≤ 2 * i + 1 by omega)] at this
          omega
        · intro _
          exact nrm _ (last (2 * i) (by omega))
    · rw [brindlewoodref3_Limbs.l0, if_neg (by omega)]
      refine ⟨out, rfl, hd, hn (by omega), ?_, by omega⟩
      rw [hv, List.take_of_length_le (by omega)]
theorem limbs_ok {l : List Int} {v : Int} (h : RN l v) (hl : l.length ≤ 1000) (k : Nat) (hk : 1010 ≤ k) : ∃ r, brindlewoodref3_Limbs.f k l = some r ∧ Dig B r ∧ Norm r ∧ val B r = v ∧ 2 * r.length ≤ l.length + 1 := by
  obtain ⟨r, h1, h2, h3, h4, h5⟩ := limbs_loop h.dig h.norm hl l.length 0 k [] (by omega) rfl (Dig.nil B) rfl (fun _ => .inl rfl) (by omega)
  exact ⟨r, h1, h2, h3, by rw [h4, h.val], h5⟩
end Go.Proofs.Ytkhiohlfdkkhdaa.Big

/- The plain law of RandomDraws: over numbers and lists, without Go and memory, the printed function of the law answers true. Conditions: the fields are 64-bit numbers, as the row shows of every input. -/
namespace Go.Proofs.Ytkhiohlfdkkhdaa.P
open Go.RowKit Go.Proofs.YtkhiohlfdkkhdaaW.PrintWords
theorem md {x y : Int} (c : Int) (h : x - y = 18446744073709551616 * c) : x % 18446744073709551616 = y % 18446744073709551616 := by
  have : x = y + 18446744073709551616 * c := by omega
  rw [this]; exact Int.add_mul_emod_self_left ..
def aff (p q x : Int) : Int := (x * p + q) % 18446744073709551616
theorem aff_comp (p q a b x : Int) : aff p q (aff a b x) = aff ((a * p) % 18446744073709551616) (((b * p) % 18446744073709551616 + q) % 18446744073709551616) x := by
  unfold aff
  refine md (x * (a * p / 18446744073709551616) + (b * p / 18446744073709551616) + ((b * p % 18446744073709551616 + q) / 18446744073709551616) - ((x * a + b) / 18446744073709551616) * p) ?_
  have h1 := Int.emod_def (x * a + b) 18446744073709551616
  have h2 := Int.emod_def (a * p) 18446744073709551616
  have h3 := Int.emod_def (b * p) 18446744073709551616
  have h4 := Int.emod_def (b * p % 18446744073709551616 + q) 18446744073709551616
  rw [h4, h1, h2]
  generalize (b * p % 18446744073709551616 + q) / 18446744073709551616 = Q4
  rw [h3]
  generalize (x * a + b) / 18446744073709551616 = Q1
  generalize (a * p) / 18446744073709551616 = Q2
  generalize (b * p) / 18446744073709551616 = Q3
  grind
theorem aff_aff (p q x : Int) : aff p q (aff p q x) = aff ((p * p) % 18446744073709551616) (((q * p) % 18446744073709551616 + q) % 18446744073709551616) x := aff_comp p q p q x
/-- n steps -/
def it (p q : Int) : Nat → Int → Int
  | 0, x => x
  | n + 1, x => it p q n (aff p q x)
theorem it_add (p q : Int) (m n : Nat) (x : Int) : it p q (n + m) x = it p q m (it p q n x) := by
  induction n generalizing x with
  | zero => simp [it]
  | succ n ih => rw [Nat.succ_add]; simp only [it]; exact ih _
theorem it_two (p q : Int) (n : Nat) (x : Int) : it ((p * p) % 18446744073709551616) (((q * p) % 18446744073709551616 + q) % 18446744073709551616) n x = it p q (2 * n) x := by
  induction n generalizing x with
  | zero => rfl
  | succ n ih => rw [show 2 * (n + 1) = (2 * n) + 1 + 1 by omega]; simp only [it]; rw [ih, aff_aff]
theorem u64w (x : Int) : IntKind.u64.wrap x = x % 18446744073709551616 := rfl
theorem skip_loop : ∀ (m k n : Nat) (a b p q s t : Int), m ≤ 64 → n < 2 ^ m → m + 1 ≤ k →
    random_Skip.l0 k (n : Int) a b p q s t = some (it p q n (aff a b s), t, 0, 0) := by
  intro m
  induction m with
  | zero =>
    intro k n a b p q s t hm hn hk
    obtain rfl : n = 0 := by omega
    obtain ⟨k, rfl⟩ : ∃ j, k = j + 1 := ⟨k - 1, by omega⟩
    simp only [random_Skip.l0, u64w, it]
    rw [if_neg (by omega)]
    simp only [aff]
    congr 2
    exact md (-((s * a) / 18446744073709551616)) (by have := Int.emod_def (s * a) 18446744073709551616; omega)
  | succ m ih =>
    intro k n a b p q s t hm hn hk
    obtain ⟨k, rfl⟩ : ∃ j, k = j + 1 := ⟨k - 1, by omega⟩
    rw [random_Skip.l0]
    by_cases h0 : (n : Int) > 0
    · rw [if_pos h0]
      have hb : Go.bits .and .u64 (n : Int) 1 = ((n % 2 : Nat) : Int) := by
        have hp : 2 ^ (m + 1) ≤ 2 ^ 64 := Nat.pow_le_pow_right (by omega) hm
        have := bits_and_u64_nat n 1 (by omega) (by omega)
        rw [Nat.and_one_is_mod] at this
        exact this
      rw [hb]
      have h2 : (n : Int) / 2 = ((n / 2 : Nat) : Int) := by omega
      have hlt : n / 2 < 2 ^ m := by rw [Nat.pow_succ] at hn; omega
      rw [h2]
      simp only [u64w]
      by_cases h1 : ((n % 2 : Nat) : Int) = 1
      · rw [if_pos h1, ih k (n / 2) _ _ _ _ s t (by omega) hlt (by omega), it_two]
        rw [← aff_comp]
        have : n = 2 * (n / 2) + 1 := by omega
        conv => rhs; rw [this]
        rfl
      · rw [if_neg h1, ih k (n / 2) _ _ _ _ s t (by omega) hlt (by omega), it_two]
        have : n = 2 * (n / 2) := by omega
        conv => rhs; rw [this]
    · obtain rfl : n = 0 := by omega
      rw [if_neg h0]
      simp only [u64w, it, aff]
      congr 2
      exact md (-((s * a) / 18446744073709551616)) (by have := Int.emod_def (s * a) 18446744073709551616; omega)

theorem tdw (x n : Int) (h0 : 0 ≤ x) (h1 : x < 18446744073709551616) (hn : 0 < n) : IntKind.u64.wrap (Int.tdiv x n) = x / n := by
  rw [u64w, Int.tdiv_eq_ediv_of_nonneg h0]
  have h2 : 0 ≤ x / n := Int.ediv_nonneg h0 (by omega)
  have h3 : x / n ≤ x := Int.ediv_le_self n h0
  exact Int.emod_eq_of_lt h2 (by omega)
theorem wr0 (x : Int) : 0 ≤ IntKind.u64.wrap x := by rw [u64w]; omega
theorem wr1 (x : Int) : IntKind.u64.wrap x < 18446744073709551616 := by rw [u64w]; omega
theorem mixed_eq (x : Int) (h0 : 0 ≤ x) (h1 : x < 18446744073709551616) : brindlewoodref4_Mixed.f x = random_mix.f x := by
  unfold brindlewoodref4_Mixed.f random_mix.f
  rw [tdw x _ h0 h1 (by omega)]
  rw [tdw _ _ (wr0 _) (wr1 _) (by omega)]
  rw [tdw _ _ (wr0 _) (wr1 _) (by omega)]
theorem mix_some (x : Int) : ∃ t, random_mix.f x = some t := ⟨_, rfl⟩
theorem draw_eq (s t : Int) : brindlewoodref4_Random_Draw.f s t = random_source_next.f s t := by
  unfold brindlewoodref4_Random_Draw.f random_source_next.f
  rw [mixed_eq _ (wr0 _) (wr1 _)]
theorem next_eq (s t : Int) : ∃ x, random_source_next.f s t = some (x, aff 6364136223846793005 t s, t) := by
  unfold random_source_next.f
  obtain ⟨x, hx⟩ := mix_some (IntKind.u64.wrap (IntKind.u64.wrap (s * 6364136223846793005) + t))
  rw [hx]
  refine ⟨x, ?_⟩
  show some (x, IntKind.u64.wrap (IntKind.u64.wrap (s * 6364136223846793005) + t), t) = _
  have : IntKind.u64.wrap (IntKind.u64.wrap (s * 6364136223846793005) + t) = aff 6364136223846793005 t s := by
    simp only [u64w, aff]
    exact md (-((s * 6364136223846793005) / 18446744073709551616)) (by have := Int.emod_def (s * 6364136223846793005) 18446744073709551616; omega)
  rw [this]
theorem seeds (L : List Int) (b : Bool) : ∀ (m k n : Nat) (x : Int), L.length ≤ 128 → n + m = L.length → m + 1 ≤ k →
    ∃ s, brindlewoodref4_Seeded.l0 k x (n : Int) b L = some (s, 1442695040888963407) ∧ random_Seed.l0 k x L (L.length : Int) (n : Int) = some (s, 1442695040888963407, 0, 0) := by
  intro m
  induction m with
  | zero =>
    intro k n x hL hn hk
    obtain ⟨k, rfl⟩ : ∃ j, k = j + 1 := ⟨k - 1, by omega⟩
    refine ⟨x, ?_, ?_⟩
    · rw [brindlewoodref4_Seeded.l0, if_neg (by omega)]
    · rw [random_Seed.l0, if_neg (by omega)]
  | succ m ih =>
    intro k n x hL hn hk
    obtain ⟨k, rfl⟩ : ∃ j, k = j + 1 := ⟨k - 1, by omega⟩
    rw [brindlewoodref4_Seeded.l0, random_Seed.l0, if_pos (by omega), if_pos (by omega), if_pos (by omega), if_pos (by omega), if_pos (by omega)]
    rw [mixed_eq _ (wr0 _) (wr1 _)]
    obtain ⟨t, ht⟩ := mix_some (IntKind.u64.wrap (IntKind.u64.wrap (IntKind.u64.wrap (x * 6364136223846793005) + IntKind.u64.wrap (rd L (n : Int))) + 1))
    rw [ht]
    have hw : wrap64 ((n : Int) + 1) = ((n + 1 : Nat) : Int) := by unfold wrap64; omega
    simp only [Option.bind_some, hw]
    exact ih k (n + 1) t hL (by omega) (by omega)

theorem valid_some (b : Bool) (L : List Int) : ∃ r, integer_Valid.f b L = some r ∧ (r = true → L.length ≤ 128) := by
  have h1 : L.length ≠ 0 → L.length ≤ 128 → wrap64 ((L.length : Int) - 1) = (L.length : Int) - 1 := by intro _ _; unfold wrap64; omega
  unfold integer_Valid.f
  by_cases h : (L.length : Int) ≤ 128
  · rw [if_pos h]
    by_cases h0 : (L.length : Int) = 0
    · rw [if_pos h0]
      cases b
      · rw [if_neg (by decide)]; exact ⟨_, rfl, fun _ => by omega⟩
      · rw [if_pos rfl, if_neg (by omega)]; exact ⟨_, rfl, fun _ => by omega⟩
    · rw [if_neg h0, if_pos (by omega), h1 (by omega) (by omega), if_pos (by omega), if_pos (by omega)]
      exact ⟨_, rfl, fun _ => by omega⟩
  · rw [if_neg h]; exact ⟨_, rfl, fun h => by cases h⟩
theorem it_range (p q : Int) (n : Nat) (x : Int) (h0 : 0 ≤ x) (h1 : x < 18446744073709551616) : 0 ≤ it p q n x ∧ it p q n x < 18446744073709551616 := by
  induction n generalizing x with
  | zero => exact ⟨h0, h1⟩
  | succ n ih =>
    simp only [it]
    exact ih _ (by unfold aff; omega) (by unfold aff; omega)
theorem skip_eq (k n : Nat) (s t : Int) (ht : ¬ t % 2 = 0) (h0 : 0 ≤ s) (h1 : s < 18446744073709551616) (hn : n < 18446744073709551616) (hk : 65 ≤ k) :
    random_Skip.f k s t (n : Int) = some (it 6364136223846793005 t n s, t, 0, 0) := by
  unfold random_Skip.f random_open_ok.f
  rw [if_neg ht, if_neg ht]
  simp only [Option.bind_some]
  rw [skip_loop 64 k n _ _ _ _ _ _ (by omega) (by omega) (by omega)]
  have : aff 1 0 s = s := by unfold aff; omega
  rw [this]
theorem skip_even (k : Nat) (n s t : Int) (ht : t % 2 = 0) : random_Skip.f k s t n = some (0, 0, 6, -1) := by
  unfold random_Skip.f random_open_no.f
  rw [if_pos ht, if_pos ht]; rfl
theorem draws_true : brindlewoodlaw4_draws.f 200 = some true := by kernel_rfl
theorem draws_at : ∀ j, brindlewoodlaw4_draws.f (200 + j) = some true := by
  intro j
  induction j with
  | zero => exact draws_true
  | succ j ih => exact brindlewoodlaw4_draws.mono _ _ ih
end Go.Proofs.Ytkhiohlfdkkhdaa.P

/- Binary digits, small numbers, choices by weights. Conditions: those of each lemma. -/
set_option linter.unusedVariables false
namespace Go.Proofs.Ytkhiohlfdkkhdaa.Big
open Go.RowKit Go.Proofs.YtkhiohlfdkkhdaaW.PrintWords
open Go.Proofs.Ytkhiohlfdkkhdaa.P (brindlewoodref3_Binary.l0 brindlewoodref3_Binary.l1 brindlewoodref3_Binary.f brindlewoodref3_trim.f random_Skip.f brindlewoodref3_Moved.f brindlewoodref3_Moved.j0 brindlewoodref3_Ones.f brindlewoodref3_Int_Moved.f brindlewoodref3_Int_Moved.j0 brindlewoodref3_Number.f integer_Of.f integer_Of.j0 integer_Of.l0 integer_Small.f integer_Small.l0 random_source_small.f random_source_below.f integer_check.f)
/-- the value of binary digits -/
def bv : List Bool → Int
  | [] => 0
  | b :: l => (if b = true then 1 else 0) + 2 * bv l
theorem bv_append (l m : List Bool) : bv (l ++ m) = bv l + 2 ^ l.length * bv m := by
  induction l with
  | nil => simp [bv]
  | cons x l ih =>
    simp only [List.cons_append, bv, ih, List.length_cons, pow_split]
    rw [Int.mul_add, Int.add_assoc, Int.mul_comm (2 ^ l.length) 2, Int.mul_assoc]
theorem bv_range (l : List Bool) : 0 ≤ bv l ∧ bv l < 2 ^ l.length := by
  induction l with
  | nil => exact ⟨Int.le_refl 0, by decide⟩
  | cons x l ih =>
    simp only [bv, List.length_cons, pow_split]
    cases x <;> simp <;> omega
theorem bv_zeros (n : Nat) : bv (List.replicate n false) = 0 := by
  induction n with
  | zero => rfl
  | succ n ih => rw [List.replicate_succ]; simp [bv, ih]
theorem bit_at (l : List Bool) (i : Nat) (h : i < l.length) : rdOf false l (i : Int) = l[i] := by
  unfold rdOf
  rw [Int.toNat_natCast, List.getD_eq_getElem?_getD, List.getElem?_eq_getElem h]; rfl
/-- one digit of sixteen bits -/
theorem bin_l1 (l : List Bool) (hl : l.length ≤ 1000000) (i : Nat) (hi : i < l.length) (out : List Int) (ho : out.length ≤ 1000000) : ∀ (j k : Nat) (x : Int), j ≤ 16 → j + 1 ≤ k → x = bv ((l.drop (i + j)).take (16 - j)) →
    brindlewoodref3_Binary.l1 k l out (i : Int) x ((j : Int) - 1) = brindlewoodref3_Binary.l0 (k - j - 1) l (out ++ [bv ((l.drop i).take 16)]) ((i + 16 : Nat) : Int) := by
  intro j
  induction j with
  | zero =>
    intro k x hj hk hx
    obtain ⟨k, rfl⟩ : ∃ j, k = j + 1 := ⟨k - 1, by omega⟩
    rw [brindlewoodref3_Binary.l1, if_neg (by omega), if_pos (by omega), hx]
    have w : wrap64 ((i : Int) + 16) = ((i + 16 : Nat) : Int) := by unfold wrap64; omega
    rw [w]
    rfl
  | succ j ih =>
    intro k x hj hk hx
    obtain ⟨k, rfl⟩ : ∃ j, k = j + 1 := ⟨k - 1, by omega⟩
    have xr := bv_range ((l.drop (i + (j + 1))).take (16 - (j + 1)))
    rw [← hx] at xr
    have hx2 : x < 65536 := by
      have h1 : ((l.drop (i + (j + 1))).take (16 - (j + 1))).length ≤ 16 := by rw [List.length_take]; omega
      have h2 := pow_mono (b := 2) (by decide) h1
      have h3 : (2 : Int) ^ 16 = 65536 := by decide
      omega
    have e0 : ((j + 1 : Nat) : Int) - 1 = (j : Int) := by omega
    have w1 : wrap64 ((i : Int) + (j : Int)) = ((i + j : Nat) : Int) := by unfold wrap64; omega
    have w2 : wrap64 ((j : Int) - 1) = (j : Int) - 1 := by unfold wrap64; omega
    have w3 : wrap64 (x * 2) = x * 2 := by unfold wrap64; omega
    have w4 : wrap64 (x * 2 + 1) = x * 2 + 1 := by unfold wrap64; omega
    rw [e0, brindlewoodref3_Binary.l1, if_pos (by omega), w1, w2, w3, w4]
    rw [show k + 1 - (j + 1) - 1 = k - j - 1 by omega]
    by_cases hlt : i + j < l.length
    · have hd : (l.drop (i + j)).take (16 - j) = l[i + j] :: (l.drop (i + (j + 1))).take (16 - (j + 1)) := by
        rw [List.drop_eq_getElem_cons hlt, show 16 - j = (16 - (j + 1)) + 1 by omega, List.take_succ_cons]; rfl
      rw [if_pos (by omega), if_pos (by omega), bit_at l (i + j) hlt]
      by_cases hb : l[i + j] = true
      · rw [if_pos hb]
        refine ih k _ (by omega) (by omega) ?_
        rw [hd, hb, hx]; simp only [bv, if_true]; omega
      · rw [if_neg hb]
        refine ih k _ (by omega) (by omega) ?_
        rw [hd, hx]; simp only [bv, if_neg hb]; omega
    · rw [if_neg (by omega)]
      refine ih k _ (by omega) (by omega) ?_
      rw [hx, List.drop_eq_nil_of_le (by omega), List.drop_eq_nil_of_le (by omega)]; simp [bv]
theorem bin_l0 (l : List Bool) (hl : l.length ≤ 100000) : ∀ (m q k : Nat) (out : List Int), 16 * q + m = l.length ∨ (m = 0 ∧ l.length ≤ 16 * q ∧ 16 * q ≤ l.length + 16) → out.length = q → Dig D out → val D out = bv (l.take (16 * q)) → 20 * m + l.length + 50 ≤ k →
    ∃ r, brindlewoodref3_Binary.l0 k l out ((16 * q : Nat) : Int) = some r ∧ RN r (bv l) ∧ r.length ≤ l.length / 16 + 1 := by
  intro m
  induction m using Nat.strongRecOn with
  | _ m ih =>
    intro q k out hi ho hd hv hk
    obtain ⟨k, rfl⟩ : ∃ j, k = j + 1 := ⟨k - 1, by omega⟩
    by_cases hlt : 16 * q < l.length
    · rw [brindlewoodref3_Binary.l0, if_pos (by omega)]
      have h1 := bin_l1 l (by omega) (16 * q) hlt out (by omega) 16 k 0 (by omega) (by omega) (by rw [show 16 - 16 = 0 from rfl, List.take_zero]; rfl)
      rw [show ((16 : Nat) : Int) - 1 = 15 by decide] at h1
      rw [h1, show 16 * q + 16 = 16 * (q + 1) by omega]
      have br := bv_range ((l.drop (16 * q)).take 16)
      have hb2 : bv ((l.drop (16 * q)).take 16) < 65536 := by
        have a1 : ((l.drop (16 * q)).take 16).length ≤ 16 := by rw [List.length_take]; omega
        have a2 := pow_mono (b := 2) (by decide) a1
        have a3 : (2 : Int) ^ 16 = 65536 := by decide
        omega
      refine ih (m - 16) (by omega) (q + 1) (k - 16 - 1) _ (by omega) (by simp [ho]) (hd.append (Dig.one br.1 (by unfold D; omega))) ?_ (by omega)
      rw [val_snoc, ho, hv, show 16 * (q + 1) = 16 * q + 16 by omega, List.take_add, bv_append, List.length_take, Nat.min_eq_left (by omega)]
      have e : D ^ q = 2 ^ (16 * q) := by
        clear h1 br hb2 ih hv hd ho hk hi hlt
        induction q with
        | zero => rfl
        | succ q ih => rw [pow_split, ih, Nat.mul_succ, Int.pow_add 2]; rfl
      rw [e]
    · rw [brindlewoodref3_Binary.l0, if_neg (by omega)]
      obtain ⟨r, h1, h2⟩ := rtrim_ok D out k (by omega) (by omega)
      rw [h1]
      refine ⟨r, rfl, ⟨h2.dig hd, h2.norm, ?_⟩, ?_⟩
      · rw [h2.val, hv, List.take_of_length_le (by omega)]
      · have := h2.len; omega
theorem binary_ok (l : List Bool) (hl : l.length ≤ 10000) (k : Nat) (hk : 210060 ≤ k) : ∃ r, brindlewoodref3_Binary.f k l = some r ∧ RN r (bv l) ∧ r.length ≤ l.length / 16 + 1 :=
  bin_l0 l (by omega) l.length 0 k [] (by omega) rfl (Dig.nil D) rfl (by omega)
theorem ones_one : brindlewoodref3_Ones.f 200 [1] = some [true] := by kernel_rfl
theorem number_one : brindlewoodref3_Number.f 200 1 = some (false, [1]) := by kernel_rfl
/-- a power of two, of the reference -/
theorem moved_one (n : Nat) (hn : n ≤ 4000) (k : Nat) (hk : 210100 ≤ k) : ∃ r, brindlewoodref3_Int_Moved.f k false [1] (n : Int) = some (false, r) ∧ RN r (2 ^ n) ∧ r.length ≤ 300 := by
  have h1 : brindlewoodref3_Ones.f (k - 1) [1] = some [true] := lift (fun k => brindlewoodref3_Ones.f k [1]) (fun k => Go.Proofs.Ytkhiohlfdkkhdaa.P.brindlewoodref3_Ones.mono _ _) ones_one (k - 1) (by omega)
  obtain ⟨k, rfl⟩ : ∃ j, k = j + 2 := ⟨k - 2, by omega⟩
  rw [show k + 2 - 1 = k + 1 by omega] at h1
  obtain ⟨r, g1, g2, g3⟩ := binary_ok (List.replicate n false ++ [true]) (by simp; omega) k (by omega)
  have hv : bv (List.replicate n false ++ [true]) = 2 ^ n := by
    rw [bv_append, bv_zeros, List.length_replicate]; simp [bv]
  rw [hv] at g2
  refine ⟨r, ?_, g2, by simp at g3; omega⟩
  have w : wrap64 (-(([true] : List Bool).length : Int)) = -1 := by simp only [List.length_cons, List.length_nil]; unfold wrap64; omega
  unfold brindlewoodref3_Int_Moved.f
  rw [if_neg (by decide), brindlewoodref3_Int_Moved.j0, if_pos rfl]
  unfold brindlewoodref3_Moved.f
  rw [h1]
  simp only [Option.bind_some]
  rw [if_neg (by decide), w, decide_eq_false (by omega), brindlewoodref3_Moved.j0, if_neg (by decide), if_neg (by omega), if_pos (by omega), Int.toNat_natCast, if_pos (by omega)]
  simp only [Option.bind_some]
  rw [if_pos (by simp; omega), g1]
  rfl
theorem it_two_ (t : Int) : ∀ (n : Nat) (s : Int), Go.Proofs.Ytkhiohlfdkkhdaa.P.it 6364136223846793005 t n s = Go.Proofs.Ytkhiohlfdkkhdaa.PL.it t n s := by
  intro n
  induction n with
  | zero => intro s; rfl
  | succ n ih => intro s; exact ih _
theorem skip_pl (k n : Nat) (s t : Int) (ht : ¬ t % 2 = 0) (h0 : 0 ≤ s) (h1 : s < 18446744073709551616) (hn : n < 18446744073709551616) (hk : 65 ≤ k) :
    random_Skip.f k s t (n : Int) = some (Go.Proofs.Ytkhiohlfdkkhdaa.PL.it t n s, t, 0, 0) := by
  rw [Go.Proofs.Ytkhiohlfdkkhdaa.P.skip_eq k n s t ht h0 h1 hn hk, it_two_]
/-- an int as an integer -/
theorem of_l0 (x : Int) : ∀ (n : Nat) (l : List Int) (k : Nat), l.length = n → n ≤ 1000000 → n < k → ∃ r, integer_Of.l0 k x l = some (decide (x < 0), r) ∧ Cut B l r := by
  intro n
  induction n with
  | zero =>
    intro l k hl hn hk
    obtain ⟨k, rfl⟩ : ∃ j, k = j + 1 := ⟨k - 1, by omega⟩
    refine ⟨l, ?_, cut_end (.inl (List.length_eq_zero_iff.mp hl))⟩
    rw [integer_Of.l0, if_neg (by omega)]
  | succ n ih =>
    intro l k hl hn hk
    obtain ⟨k, rfl⟩ : ∃ j, k = j + 1 := ⟨k - 1, by omega⟩
    have w := wsub l.length (by omega) (by omega)
    by_cases h0 : rd l ((l.length : Int) - 1) = 0
    · obtain ⟨r, hr, hc⟩ := ih (l.take (l.length - 1)) k (by rw [List.length_take]; omega) (by omega) (by omega)
      refine ⟨r, ?_, cut_step (by omega) h0 hc⟩
      have e : ((l.length : Int) - 1).toNat = l.length - 1 := by omega
      rw [integer_Of.l0, if_pos (by omega), w, if_pos (by omega), if_pos (by omega), if_pos h0, if_pos (by omega), e]
      exact hr
    · refine ⟨l, ?_, cut_end (.inr h0)⟩
      rw [integer_Of.l0, if_pos (by omega), w, if_pos (by omega), if_pos (by omega), if_neg h0]
theorem of_nat (m : Nat) (hm : m < 9223372036854775808) (k : Nat) (hk : 10 ≤ k) : ∃ r, integer_Of.f k (m : Int) = some (false, r) ∧ Ok false r ∧ val B r = (m : Int) := by
  obtain ⟨k, rfl⟩ : ∃ j, k = j + 1 := ⟨k - 1, by omega⟩
  unfold integer_Of.f
  rw [if_neg (by omega), integer_Of.j0, u64id (by omega) (by omega)]
  obtain ⟨r, h1, h2⟩ := of_l0 (m : Int) 2 [(m : Int) % 4294967296, (m : Int) / 4294967296 % 4294967296] k rfl (by omega) (by omega)
  have hd : Dig B [(m : Int) % 4294967296, (m : Int) / 4294967296 % 4294967296] := by
    intro x hx
    simp only [List.mem_cons, List.not_mem_nil, or_false] at hx
    unfold B
    rcases hx with rfl | rfl <;> omega
  refine ⟨r, ?_, ⟨h2.dig hd, h2.norm, ?_, fun _ => rfl⟩, ?_⟩
  · rw [h1, decide_eq_false (by omega)]
  · have := h2.len; simp at this; omega
  · rw [h2.val]; simp only [val]; unfold B; omega
theorem or_zero (x : Int) (h : 0 ≤ x) (h2 : x < 4294967296) : Go.bits .or .u64 0 (shl .u64 (IntKind.u64.wrap x) (wrap64 (32 * 0))) = x := by
  obtain ⟨n, rfl⟩ := Int.eq_ofNat_of_zero_le h
  have w : wrap64 (32 * 0) = 0 := by unfold wrap64; omega
  rw [u64id (by omega) (by omega), w]
  have e : shl .u64 (n : Int) 0 = (n : Int) := by
    unfold shl
    simp
    exact u64id (by omega) (by omega)
  rw [e]
  have := (bits_nat .u64 64 (by decide) (fun n h0 h1 => u64id h0 h1) 0 n (by decide) (by omega)).2
  rw [Nat.zero_or] at this
  exact this
theorem small_ok {r : List Int} (h : Ok false r) (hv : val B r < 4294967296) (k : Nat) (hk : 10 ≤ k) : integer_Small.f k false r = some (val B r, 0, 0) := by
  have hlen : r.length ≤ 1 := by
    rcases Nat.lt_or_ge 1 r.length with g | g
    · have a := val_ge (by decide) h.dig h.norm (by omega)
      have c := pow_mono (b := B) (by decide) (show 1 ≤ r.length - 1 by omega)
      have : B ^ 1 = 4294967296 := rfl
      omega
    · exact g
  unfold integer_Small.f
  rw [icheck_one k (by omega) h.valid]
  simp only [Option.bind_some, if_true]
  obtain ⟨k, rfl⟩ : ∃ j, k = j + 2 := ⟨k - 2, by omega⟩
  rcases r with _ | ⟨x, r⟩
  · rw [integer_Small.l0, if_neg (by simp)]
    simp only [Bool.false_eq_true, if_false]
    rw [show wrap64 0 = 0 by unfold wrap64; omega, if_neg (by decide)]
    rfl
  · have hr : r = [] := by
      rcases r with _ | ⟨y, r⟩
      · rfl
      · simp at hlen
    subst hr
    have hx := h.dig.head
    have e0 : rd [x] 0 = x := rfl
    have ev : val B [x] = x := val_one B x
    rw [ev] at hv ⊢
    rw [integer_Small.l0, if_pos (by simp), if_pos (by decide), if_pos (by simp), if_neg (by decide), if_pos (by unfold wrap64; omega), e0, or_zero x hx.1 hv, show wrap64 (0 + 1) = 1 by unfold wrap64; omega, integer_Small.l0, if_neg (by simp)]
    simp only [Bool.false_eq_true, if_false]
    rw [w64id (by omega) (by omega), if_neg (by simp; omega)]
/-- A number below a small one is drawn, whatever the generator. -/
theorem small_any (m : Nat) (h1 : 1 ≤ m) (h2 : m ≤ 4000000000) (t : Int) (ht : ¬ t % 2 = 0) (s : Int) (s0 : 0 ≤ s) (s1 : s < 18446744073709551616) :
    ∃ (z s' : Int) (K : Nat), 0 ≤ z ∧ z < (m : Int) ∧ 0 ≤ s' ∧ s' < 18446744073709551616 ∧ ∀ k, K ≤ k → random_source_small.f k s t (m : Int) = some (z, s', t) := by
  obtain ⟨N, e1, e2, e3⟩ := of_nat m (by omega) 10 (Nat.le_refl _)
  have hiv : iv false N = (m : Int) := e3
  obtain ⟨r, s', n, j, K, a1, a2, a3, a4, a5⟩ := below_ex e2 (by omega) t ht s s0 s1
  rw [hiv] at a3
  have a0 := val_nonneg (by decide) a2.dig
  have hr := Go.Proofs.Ytkhiohlfdkkhdaa.PL.it_range t (nL n * (j + 1)) s s0 s1
  refine ⟨val B r, s', K + 20, a0, a3, by rw [a4]; exact hr.1, by rw [a4]; exact hr.2, fun k hk => ?_⟩
  obtain ⟨N', f1, f2, f3⟩ := of_nat m (by omega) k (by omega)
  have hN : N' = N := val_inj (by decide) f2.dig e2.dig f2.norm e2.norm (f3.trans e3.symm)
  subst hN
  unfold random_source_small.f
  rw [f1]
  simp only [Option.bind_some]
  rw [a5 k (by omega)]
  simp only [Option.bind_some]
  rw [small_ok a2 (by omega) k (by omega)]
  rfl
end Go.Proofs.Ytkhiohlfdkkhdaa.Big

/- Integers between two bounds, choices by weights, and the plain law of RandomBounded. Conditions: those of each lemma. -/
set_option linter.unusedVariables false
namespace Go.Proofs.Ytkhiohlfdkkhdaa.Big
open Go.RowKit Go.Proofs.YtkhiohlfdkkhdaaW.PrintWords
open Go.Proofs.Ytkhiohlfdkkhdaa.P (random_Choose.f random_Choose.l0 random_Choose.l1 random_open_ok.f random_open_no.f random_at.f random_source_small.f random_Between.f random_Between.j0 integer_Valid.f integer_Cmp.f integer_Sub.f integer_Add.f integer_Of.f random_source_below.f random_Below.f random_Below.j0 random_Skip.f brindlewoodref3_Faults.f brindlewoodref3_Faults.l0 brindlewoodref3_IntOk.f brindlewoodref3_IntOf.f brindlewoodref3_Int_Order.f brindlewoodref3_Int_Moved.f brindlewoodref3_Number.f brindlewoodref3_Limbs.f brindlewoodlaw4_RandomBounded.f brindlewoodlaw4_RandomBounded.j0 brindlewoodlaw4_draws.f S24 rd_T24)
def tot : List Int → Int
  | [] => 0
  | x :: l => x + tot l
theorem tot_append (l m : List Int) : tot (l ++ m) = tot l + tot m := by
  induction l with
  | nil => simp [tot]
  | cons x l ih => simp only [List.cons_append, tot, ih]; omega
theorem tot_take (l : List Int) (i : Nat) (h : i < l.length) : tot (l.take (i + 1)) = tot (l.take i) + rd l (i : Int) := by
  rw [List.take_succ_eq_append_getElem h, tot_append, rd_get l i h]; simp [tot]
/-- what a choice answers -/
def Chosen (ws : List Int) (o : Int × Int × Int × Int × Int) : Prop := (o.2.2.2.1 ≠ 0 ∧ o.1 = 0) ∨ (o.2.2.2.1 = 0 ∧ 0 ≤ o.1 ∧ o.1 < (ws.length : Int) ∧ 0 < rd ws o.1)
theorem choose_l1 (ws : List Int) (hl : ws.length ≤ 1000) (hw : ∀ i : Nat, i < ws.length → 0 ≤ rd ws (i : Int) ∧ rd ws (i : Int) ≤ 1000000) (s t z : Int) (hz : z < tot ws) (hz2 : z ≤ 4000000000) : ∀ (m i k : Nat) (x : Int), i + m = ws.length → 0 ≤ x → tot (ws.take i) + x = z → x ≤ z → m + 1 ≤ k →
    ∃ q, random_Choose.l1 k ws x (i : Int) s t = some (q, s, t, 0, 0) ∧ 0 ≤ q ∧ q < (ws.length : Int) ∧ 0 < rd ws q := by
  intro m
  induction m with
  | zero =>
    intro i k x hi hx hs hxz hk
    rw [List.take_of_length_le (by omega)] at hs
    omega
  | succ m ih =>
    intro i k x hi hx hs hxz hk
    obtain ⟨k, rfl⟩ : ∃ j, k = j + 1 := ⟨k - 1, by omega⟩
    have w := hw i (by omega)
    have ht := tot_take ws i (by omega)
    rw [random_Choose.l1, if_pos (by omega), if_pos (by omega)]
    by_cases h : x ≥ rd ws (i : Int)
    · rw [if_pos h, w64id (by omega) (by omega), wsucc i (by omega)]
      exact ih (i + 1) k _ (by omega) (by omega) (by omega) (by omega) (by omega)
    · rw [if_neg h]
      exact ⟨_, rfl, by omega, by omega, by omega⟩
theorem choose_l0 (ws : List Int) (hl : ws.length ≤ 1000) (s t : Int) (ht : ¬ t % 2 = 0) (s0 : 0 ≤ s) (s1 : s < 18446744073709551616) : ∀ (m i : Nat), i + m = ws.length → (∀ j : Nat, j < i → 0 ≤ rd ws (j : Int) ∧ rd ws (j : Int) ≤ 1000000) → 0 ≤ tot (ws.take i) → tot (ws.take i) ≤ 1000000 * i →
    ∃ K o, Chosen ws o ∧ ∀ k, K ≤ k → random_Choose.l0 k ws (tot (ws.take i)) ws (ws.length : Int) (i : Int) s t = some o := by
  intro m
  induction m with
  | zero =>
    intro i hi hw h0 h1
    have e : ws.take i = ws := List.take_of_length_le (by omega)
    rw [e] at h0 h1 ⊢
    by_cases hz : tot ws = 0
    · refine ⟨1, (0, 0, 0, 10, -2), .inl ⟨by show (10 : Int) ≠ 0; decide, rfl⟩, fun k hk => ?_⟩
      obtain ⟨k, rfl⟩ : ∃ j, k = j + 1 := ⟨k - 1, by omega⟩
      rw [random_Choose.l0, if_neg (by omega), if_pos hz]
      rfl
    · obtain ⟨M, hM⟩ := Int.eq_ofNat_of_zero_le h0
      obtain ⟨z, s', K, z0, z1, g0, g1, hz'⟩ := small_any M (by omega) (by omega) t ht s s0 s1
      obtain ⟨q, hq, q0, q1, q2⟩ := choose_l1 ws hl (fun j hj => hw j (by omega)) s' t z (by omega) (by omega) ws.length 0 (ws.length + 1) z (by omega) z0 (by simp [tot]) (Int.le_refl _) (by omega)
      refine ⟨K + ws.length + 3, (q, s', t, 0, 0), .inr ⟨rfl, q0, q1, q2⟩, fun k hk => ?_⟩
      obtain ⟨k, rfl⟩ : ∃ j, k = j + 1 := ⟨k - 1, by omega⟩
      rw [random_Choose.l0, if_neg (by omega), if_neg hz, hM, hz' k (by omega)]
      simp only [Option.bind_some]
      exact lift (fun k => random_Choose.l1 k ws z 0 s' t) (fun k => (Go.Proofs.Ytkhiohlfdkkhdaa.P.random_Choose.mono_l k).2 _ _ _ _ _) hq k (by omega)
  | succ m ih =>
    intro i hi hw h0 h1
    have tt := tot_take ws i (by omega)
    by_cases hneg : rd ws (i : Int) < 0
    · refine ⟨1, (0, 0, 0, 4, (i : Int)), .inl ⟨by show (4 : Int) ≠ 0; decide, rfl⟩, fun k hk => ?_⟩
      obtain ⟨k, rfl⟩ : ∃ j, k = j + 1 := ⟨k - 1, by omega⟩
      rw [random_Choose.l0, if_pos (by omega), if_pos (by omega), if_pos (by omega), if_pos hneg]
      rfl
    · by_cases hbig : rd ws (i : Int) > 1000000
      · refine ⟨1, (0, 0, 0, 4, (i : Int)), .inl ⟨by show (4 : Int) ≠ 0; decide, rfl⟩, fun k hk => ?_⟩
        obtain ⟨k, rfl⟩ : ∃ j, k = j + 1 := ⟨k - 1, by omega⟩
        rw [random_Choose.l0, if_pos (by omega), if_pos (by omega), if_pos (by omega), if_neg hneg, if_pos hbig]
        rfl
      · obtain ⟨K, o, ho, hK⟩ := ih (i + 1) (by omega) (fun j hj => by
          rcases Nat.lt_or_ge j i with g | g
          · exact hw j g
          · have : j = i := by omega
            subst this
            omega) (by omega) (by omega)
        refine ⟨K + 1, o, ho, fun k hk => ?_⟩
        obtain ⟨k, rfl⟩ : ∃ j, k = j + 1 := ⟨k - 1, by omega⟩
        rw [random_Choose.l0, if_pos (by omega), if_pos (by omega), if_pos (by omega), if_neg hneg, if_neg hbig, w64id (by omega) (by omega), wsucc i (by omega), ← tt]
        exact hK k (by omega)
theorem choose_ok (ws : List Int) (s t : Int) (ht : ¬ t % 2 = 0) (s0 : 0 ≤ s) (s1 : s < 18446744073709551616) : ∃ K o, Chosen ws o ∧ ∀ k, K ≤ k → random_Choose.f k s t ws = some o := by
  by_cases hl : (ws.length : Int) > 1000
  · refine ⟨0, (0, 0, 0, 2, -2), .inl ⟨by show (2 : Int) ≠ 0; decide, rfl⟩, fun k _ => ?_⟩
    unfold random_Choose.f random_open_ok.f
    rw [if_neg ht, if_neg ht]
    simp only [Option.bind_some]
    rw [if_pos hl]
    rfl
  · obtain ⟨K, o, ho, h⟩ := choose_l0 ws (by omega) s t ht s0 s1 ws.length 0 (by omega) (fun j hj => by omega) (by simp [tot]) (by simp [tot])
    refine ⟨K, o, ho, fun k hk => ?_⟩
    unfold random_Choose.f random_open_ok.f
    rw [if_neg ht, if_neg ht]
    simp only [Option.bind_some]
    rw [if_neg hl]
    exact h k hk
theorem ok_of {n : Bool} {l : List Int} (d : Dig B l) (h : integer_Valid.f n l = some true) : Ok n l := by
  obtain ⟨r, h1, h2⟩ := ivalid_eq n l
  rw [h1] at h
  obtain ⟨a, b, c⟩ := h2.mp (Option.some.inj h)
  exact ⟨d, b, a, c⟩
theorem valid_some (n : Bool) (l : List Int) : integer_Valid.f n l = some true ∨ integer_Valid.f n l = some false := by
  obtain ⟨r, h1, _⟩ := ivalid_eq n l
  cases r
  · exact .inr h1
  · exact .inl h1
/-- what Between answers -/
inductive Btw (nl : Bool) (low : List Int) (nh : Bool) (high : List Int) (s t : Int) : Bool × List Int × Int × Int × Int × Int → Prop
  | low : integer_Valid.f nl low = some false → Btw nl low nh high s t (false, [], 0, 0, 6, -2)
  | high : Ok nl low → integer_Valid.f nh high = some false → Btw nl low nh high s t (false, [], 0, 0, 6, -3)
  | less : Ok nl low → Ok nh high → iv nh high < iv nl low → Btw nl low nh high s t (false, [], 0, 0, 4, -3)
  | large : Ok nl low → Ok nh high → iv nl low ≤ iv nh high → B ^ 128 ≤ iv nh high - iv nl low + 1 → Btw nl low nh high s t (false, [], 0, 0, 14, -3)
  | drawn (N r y : List Int) (n : Bool) (s' : Int) (K : Nat) : Ok nl low → Ok nh high → iv nl low ≤ iv nh high → iv nh high - iv nl low + 1 < B ^ 128 → Ok false N → val B N = iv nh high - iv nl low + 1 → Ok false r → val B r < val B N →
      (∀ k, K ≤ k → random_source_below.f k s t false N = some (false, r, s', t)) → Ok n y → iv n y = iv nl low + val B r → Btw nl low nh high s t (n, y, s', t, 0, 0)
theorem iv_lt {n : Bool} {l : List Int} (h : Ok n l) : -(B ^ 128) < iv n l ∧ iv n l < B ^ 128 := by
  have a := val_lt (by decide) h.dig
  have b := pow_mono (b := B) (by decide) h.len
  have c := val_nonneg (by decide) h.dig
  have d := pow_pos B (by decide) 128
  cases n
  · rw [iv_neg_false]; constructor <;> omega
  · rw [iv_neg_true]; constructor <;> omega
theorem res_small {v : Int} {o : Option (Bool × List Int × Int × Int)} (h : Res v o) (h1 : -(B ^ 128) < v) (h2 : v < B ^ 128) : ∃ n l, o = some (n, l, 0, 0) ∧ Ok n l ∧ iv n l = v := by
  obtain ⟨l, d, nl, hv, hl, hr⟩ := h.out
  rcases hr with ⟨hlen, _⟩ | ⟨_, n, a, b, c⟩
  · exfalso
    have a := val_ge (by decide) d nl (by omega)
    have b := pow_mono (b := B) (by decide) (show 128 ≤ l.length - 1 by omega)
    omega
  · exact ⟨n, l, a, b, c⟩
theorem res_large {v : Int} {o : Option (Bool × List Int × Int × Int)} (h : Res v o) (h1 : B ^ 128 ≤ v) : o = some (false, [], 14, -1) := by
  obtain ⟨l, d, nl, hv, hl, hr⟩ := h.out
  rcases hr with ⟨hlen, ho⟩ | ⟨hlen, n, a, b, c⟩
  · exact ho
  · exfalso
    have := (iv_lt b).2
    omega
theorem between_ok {nl nh : Bool} {low high : List Int} (dl : Dig B low) (dh : Dig B high) (s t : Int) (ht : ¬ t % 2 = 0) (s0 : 0 ≤ s) (s1 : s < 18446744073709551616) :
    ∃ K o, Btw nl low nh high s t o ∧ ∀ k, K ≤ k → random_Between.f k s t nl low nh high = some o := by
  have start : ∀ k, random_Between.f k s t nl low nh high = (integer_Valid.f nl low).bind fun t480 => (if t480 = true then ((integer_Valid.f nh high).bind fun t481 => (if t481 = true then ((integer_Cmp.f k nh high nl low).bind fun bt486 => (if bt486.1 < 0 then some (false, [], 0, 0, 4, -3) else ((integer_Sub.f k nh high nl low).bind fun bt492 => (if bt492.2.2.1 = 0 then ((integer_Of.f k 1).bind fun bt499 => ((integer_Add.f k bt492.1 bt492.2.1 bt499.1 bt499.2).bind fun bt503 => (random_Between.j0 k nl low s t bt503.2.2.1 bt503.2.2.2 bt503.1 bt503.2.1))) else (random_Between.j0 k nl low s t bt492.2.2.1 bt492.2.2.2 bt492.1 bt492.2.1))))) else some (false, [], 0, 0, 6, -3))) else some (false, [], 0, 0, 6, -2)) := by
    intro k
    unfold random_Between.f random_open_ok.f
    rw [if_neg ht, if_neg ht]
    rfl
  rcases valid_some nl low with h1 | h1
  case inr =>
    refine ⟨0, _, .low h1, fun k _ => ?_⟩
    rw [start, h1]; rfl
  have ol := ok_of dl h1
  rcases valid_some nh high with h2 | h2
  case inr =>
    refine ⟨0, _, .high ol h2, fun k _ => ?_⟩
    rw [start, h1, h2]; rfl
  have oh := ok_of dh h2
  by_cases hlt : iv nh high < iv nl low
  · refine ⟨300, _, .less ol oh hlt, fun k hk => ?_⟩
    obtain ⟨c, g1, g2⟩ := icmp_ok oh ol k (by omega)
    unfold Sgn at g2
    rw [start, h1, h2]
    simp only [Option.bind_some, if_true]
    rw [g1]
    simp only [Option.bind_some]
    rw [if_pos (g2.1.mpr hlt)]
  have head : ∀ k, 2100 ≤ k → random_Between.f k s t nl low nh high = (integer_Sub.f k nh high nl low).bind fun bt492 => (if bt492.2.2.1 = 0 then ((integer_Of.f k 1).bind fun bt499 => ((integer_Add.f k bt492.1 bt492.2.1 bt499.1 bt499.2).bind fun bt503 => (random_Between.j0 k nl low s t bt503.2.2.1 bt503.2.2.2 bt503.1 bt503.2.1))) else (random_Between.j0 k nl low s t bt492.2.2.1 bt492.2.2.2 bt492.1 bt492.2.1)) := by
    intro k hk
    obtain ⟨c, g1, g2⟩ := icmp_ok oh ol k (by omega)
    unfold Sgn at g2
    rw [start, h1, h2]
    simp only [Option.bind_some, if_true]
    rw [g1]
    simp only [Option.bind_some]
    rw [if_neg (fun h => hlt (g2.1.mp h))]
  have hp := pow_pos B (by decide) 128
  have j0e : ∀ k, 1 ≤ k → random_Between.j0 k nl low s t 14 (-1) false [] = some (false, [], 0, 0, 14, -3) := by
    intro k hk
    obtain ⟨k, rfl⟩ : ∃ j, k = j + 1 := ⟨k - 1, by omega⟩
    rw [random_Between.j0, if_neg (by decide)]
    rfl
  by_cases hbig : B ^ 128 ≤ iv nh high - iv nl low + 1
  · refine ⟨2100, _, .large ol oh (by omega) hbig, fun k hk => ?_⟩
    rw [head k hk]
    by_cases hb2 : B ^ 128 ≤ iv nh high - iv nl low
    · rw [res_large (isub_ok oh ol k (by omega)) hb2]
      simp only [Option.bind_some]
      rw [if_neg (by decide)]
      exact j0e k (by omega)
    · obtain ⟨n, l, e1, e2, e3⟩ := res_small (isub_ok oh ol k (by omega)) (by omega) (by omega)
      rw [e1, of_one_at k (by omega)]
      simp only [Option.bind_some, if_true]
      have := iadd_ok e2 ok_one k (by omega)
      rw [e3, iv_one] at this
      rw [res_large this hbig]
      exact j0e k (by omega)
  obtain ⟨n, l, e1, e2, e3⟩ := res_small (isub_ok oh ol 2100 (by omega)) (by omega) (by omega)
  have ad := iadd_ok e2 ok_one 2100 (by omega)
  rw [e3, iv_one] at ad
  obtain ⟨nb, N, f1, f2, f3⟩ := res_small ad (by omega) (by omega)
  have hnb := f2.pos (by omega)
  subst hnb
  rw [iv_neg_false] at f3
  obtain ⟨r, s', q, j, K, a1, a2, a3, a4, a5⟩ := below_ex f2 (by rw [iv_neg_false]; omega) t ht s s0 s1
  rw [iv_neg_false] at a3
  have r0 := val_nonneg (by decide) a2.dig
  have hl := iv_lt ol
  have hh := iv_lt oh
  obtain ⟨ny, y, y1, y2, y3⟩ := res_small (iadd_ok ol a2 2100 (by omega)) (by rw [iv_neg_false]; omega) (by rw [iv_neg_false]; omega)
  rw [iv_neg_false] at y3
  refine ⟨K + 2200, _, .drawn N r y ny s' K ol oh (by omega) (by omega) f2 f3 a2 a3 a5 y2 y3, fun k hk => ?_⟩
  have m1 : integer_Sub.f k nh high nl low = some (n, l, 0, 0) := lift (fun k => integer_Sub.f k nh high nl low) (fun k => Go.Proofs.Ytkhiohlfdkkhdaa.P.integer_Sub.mono _ _ _ _ _) e1 k (by omega)
  have m2 : integer_Add.f k n l false [1] = some (false, N, 0, 0) := lift (fun k => integer_Add.f k n l false [1]) (fun k => Go.Proofs.Ytkhiohlfdkkhdaa.P.integer_Add.mono _ _ _ _ _) f1 k (by omega)
  rw [head k (by omega), m1, of_one_at k (by omega)]
  simp only [Option.bind_some, if_true]
  rw [m2]
  simp only [Option.bind_some]
  obtain ⟨k, rfl⟩ : ∃ j, k = j + 1 := ⟨k - 1, by omega⟩
  have m3 : integer_Add.f k nl low false r = some (ny, y, 0, 0) := lift (fun k => integer_Add.f k nl low false r) (fun k => Go.Proofs.Ytkhiohlfdkkhdaa.P.integer_Add.mono _ _ _ _ _) y1 k (by omega)
  rw [random_Between.j0, if_pos rfl, a5 k (by omega)]
  simp only [Option.bind_some]
  rw [m3]
  rfl
theorem faults_ok {n1 n2 n3 : Bool} {a b c : List Int} (h1 : Ok n1 a) (h2 : Ok n2 b) (h3 : Ok n3 c) (k : Nat) (hk : 5 ≤ k) : brindlewoodref3_Faults.f k [(⟨n1, a⟩ : S24), (⟨n2, b⟩ : S24), (⟨n3, c⟩ : S24)] = some (0, 0) := by
  obtain ⟨k, rfl⟩ : ∃ j, k = j + 4 := ⟨k - 4, by omega⟩
  unfold brindlewoodref3_Faults.f
  have r0 : rd_T24 [(⟨n1, a⟩ : S24), (⟨n2, b⟩ : S24), (⟨n3, c⟩ : S24)] 0 = ⟨n1, a⟩ := rfl
  have r1 : rd_T24 [(⟨n1, a⟩ : S24), (⟨n2, b⟩ : S24), (⟨n3, c⟩ : S24)] 1 = ⟨n2, b⟩ := rfl
  have r2 : rd_T24 [(⟨n1, a⟩ : S24), (⟨n2, b⟩ : S24), (⟨n3, c⟩ : S24)] 2 = ⟨n3, c⟩ := rfl
  have i1 : brindlewoodref3_IntOk.f n1 a = some true := h1.valid
  have i2 : brindlewoodref3_IntOk.f n2 b = some true := h2.valid
  have i3 : brindlewoodref3_IntOk.f n3 c = some true := h3.valid
  have w1 : wrap64 (0 + 1) = 1 := by unfold wrap64; omega
  have w2 : wrap64 (1 + 1) = 2 := by unfold wrap64; omega
  have w3 : wrap64 (2 + 1) = 3 := by unfold wrap64; omega
  rw [brindlewoodref3_Faults.l0, if_pos (by simp), if_pos (by decide), r0, i1]
  simp only [Option.bind_some, if_true]
  rw [w1, brindlewoodref3_Faults.l0, if_pos (by simp), if_pos (by decide), r1, i2]
  simp only [Option.bind_some, if_true]
  rw [w2, brindlewoodref3_Faults.l0, if_pos (by simp), if_pos (by decide), r2, i3]
  simp only [Option.bind_some, if_true]
  rw [w3, brindlewoodref3_Faults.l0, if_neg (by simp)]
end Go.Proofs.Ytkhiohlfdkkhdaa.Big

/- The plain law of RandomBounded: over numbers and lists, without Go and memory, the printed function of the law answers true. Conditions: the fields are numbers of their kinds, as the row shows of every input. -/
set_option linter.unusedVariables false
namespace Go.Proofs.Ytkhiohlfdkkhdaa.Big
open Go.RowKit Go.Proofs.YtkhiohlfdkkhdaaW.PrintWords
open Go.Proofs.Ytkhiohlfdkkhdaa.P (random_Choose.f random_Between.f random_source_below.f random_Below.f random_Below.j0 random_Skip.f random_open_ok.f integer_Valid.f brindlewoodref3_Faults.f brindlewoodref3_IntOk.f brindlewoodref3_IntOf.f brindlewoodref3_Int_Order.f brindlewoodref3_Int_Moved.f brindlewoodref3_Number.f brindlewoodref3_Limbs.f brindlewoodlaw4_RandomBounded.f brindlewoodlaw4_RandomBounded.j0 brindlewoodlaw4_draws.f S24 rd_T24)
theorem draws_true : brindlewoodlaw4_draws.f 200 = some true := by kernel_rfl
theorem chosen_end {ws : List Int} {o : Int × Int × Int × Int × Int} (h : Chosen ws o) : (if o.2.2.2.1 = 0 then (if o.1 ≥ 0 then (if o.1 < (ws.length : Int) then (if 0 ≤ o.1 then (some (decide ((rd ws o.1) > 0))) else (none)) else (none)) else (none)) else (if o.1 = 0 then (some true) else (none))) = some true := by
  rcases h with ⟨h1, h2⟩ | ⟨h1, h2, h3, h4⟩
  · rw [if_neg h1, if_pos h2]
  · rw [if_pos h1, if_pos h2, if_pos h3, if_pos h2, decide_eq_true h4]
theorem tail_ok {nl nh : Bool} {low high : List Int} (dl : Dig B low) (dh : Dig B high) (ws : List Int) (s t : Int) (ht : ¬ t % 2 = 0) (s0 : 0 ≤ s) (s1 : s < 18446744073709551616) :
    ∃ K, ∀ k, K ≤ k → brindlewoodlaw4_RandomBounded.j0 k ws s t nl low nh high = some true := by
  obtain ⟨K1, o, ho, h1⟩ := between_ok (nl := nl) (nh := nh) dl dh s t ht s0 s1
  obtain ⟨K2, c, hc, h2⟩ := choose_ok ws s t ht s0 s1
  refine ⟨K1 + K2 + 3000, fun k hk => ?_⟩
  obtain ⟨k, rfl⟩ : ∃ j, k = j + 1 := ⟨k - 1, by omega⟩
  have e := chosen_end hc
  rw [brindlewoodlaw4_RandomBounded.j0, h1 k (by omega)]
  simp only [Option.bind_some]
  have bad : ∀ x : Int, x ≠ 0 → ∀ A : Option Bool, (if x = 0 then A else ((random_Choose.f k s t ws).bind fun bt1201 => (if bt1201.2.2.2.1 = 0 then (if bt1201.1 ≥ 0 then (if bt1201.1 < (ws.length : Int) then (if 0 ≤ bt1201.1 then (some (decide ((rd ws bt1201.1) > 0))) else (none)) else (none)) else (none)) else (if bt1201.1 = 0 then (some true) else (none))))) = some true := by
    intro x hx A
    rw [if_neg hx, h2 k (by omega)]
    exact e
  cases ho with
  | low _ => exact bad 6 (by decide) _
  | high _ _ => exact bad 6 (by decide) _
  | less _ _ _ => exact bad 4 (by decide) _
  | large _ _ _ _ => exact bad 14 (by decide) _
  | drawn N r y n s' K ol oh hle hlt oN vN or_ rlt hb oy vy =>
    have r0 := val_nonneg (by decide) or_.dig
    obtain ⟨ry, y1, y2, y3⟩ := intof_ok oy k (by omega)
    obtain ⟨rl, l1, l2, l3⟩ := intof_ok ol k (by omega)
    obtain ⟨rh, g1, g2, g3⟩ := intof_ok oh k (by omega)
    obtain ⟨c1, p1, p2⟩ := order_ok y2 l2 (by omega) (by omega) k (by omega)
    obtain ⟨c2, q1, q2⟩ := order_ok y2 g2 (by omega) (by omega) k (by omega)
    unfold Sgn at p2 q2
    rw [if_pos rfl, faults_ok ol oh oy k (by omega)]
    simp only [Option.bind_some, if_true]
    rw [y1, l1]
    simp only [Option.bind_some]
    rw [p1]
    simp only [Option.bind_some]
    rw [if_neg (by omega), g1]
    simp only [Option.bind_some]
    rw [q1]
    simp only [Option.bind_some]
    rw [if_neg (by omega), h2 k (by omega)]
    exact e
theorem below_law {N : List Int} (hN : Ok false N) (b : Nat) (hb : val B N = 2 ^ b) (t s : Int) (ht : ¬ t % 2 = 0) (k : Nat) (hk : 2500 ≤ k) : ∃ r, random_Below.f k s t false N = some (false, r, Go.Proofs.Ytkhiohlfdkkhdaa.PL.it t ((b + 31) / 32) s, t, 0, 0) ∧ Ok false r ∧ val B r < 2 ^ b := by
  obtain ⟨k, rfl⟩ : ∃ j, k = j + 1 := ⟨k - 1, by omega⟩
  have hiv : iv false N = 2 ^ b := by rw [iv_neg_false]; exact hb
  obtain ⟨r, h1, h2, h3⟩ := below_two hN b hiv t s k (by omega)
  rw [hiv] at h3
  refine ⟨r, ?_, h2, h3⟩
  have hne : ((N.length : Int) == 0) = false := by
    rw [beq_eq_false_iff_ne]
    intro h
    have : N = [] := List.length_eq_zero_iff.mp (by omega)
    subst this
    have := pow_pos 2 (by decide) b
    have e : val B [] = 0 := rfl
    omega
  unfold random_Below.f random_open_ok.f
  rw [if_neg ht, if_neg ht]
  simp only [Option.bind_some]
  rw [hN.valid]
  simp only [Option.bind_some, if_true]
  rw [if_neg (by decide), hne, random_Below.j0, if_neg (by decide), h1]
  rfl
theorem rb_true {nl nh : Bool} {low high : List Int} (dl : Dig B low) (dh : Dig B high) (ws : List Int) (s t b : Int) (s0 : 0 ≤ s) (s1 : s < 18446744073709551616) (t0 : 0 ≤ t) :
    ∃ k, brindlewoodlaw4_RandomBounded.f k s t b nl low nh high ws = some true := by
  have hd : ∀ k, 200 ≤ k → brindlewoodlaw4_draws.f k = some true := lift (fun k => brindlewoodlaw4_draws.f k) (fun k => Go.Proofs.Ytkhiohlfdkkhdaa.P.brindlewoodlaw4_draws.mono k) draws_true
  by_cases ht0 : Int.tmod t 2 = 0
  · refine ⟨200, ?_⟩
    unfold brindlewoodlaw4_RandomBounded.f
    rw [hd 200 (by omega)]
    simp only [Option.bind_some, if_true]
    rw [if_pos ht0]
  have ht : ¬ t % 2 = 0 := by rw [Int.tmod_eq_emod_of_nonneg t0] at ht0; exact ht0
  obtain ⟨K, hK⟩ := tail_ok (nl := nl) (nh := nh) dl dh ws s t ht s0 s1
  refine ⟨K + 220000, ?_⟩
  have h1 := hK (K + 220000 + 1) (by omega)
  have h2 := hK (K + 220000) (by omega)
  generalize hk : K + 220000 = k at h1 h2
  unfold brindlewoodlaw4_RandomBounded.f
  rw [hd k (by omega)]
  simp only [Option.bind_some, if_true]
  rw [if_neg ht0]
  by_cases hb : b ≥ 0
  case neg =>
    rw [if_neg hb]
    rw [brindlewoodlaw4_RandomBounded.j0] at h1
    exact h1
  rw [if_pos hb]
  by_cases hb2 : b < 4000
  case neg =>
    rw [if_neg hb2]
    exact h2
  rw [if_pos hb2]
  obtain ⟨b, rfl⟩ := Int.eq_ofNat_of_zero_le hb
  have n1 : brindlewoodref3_Number.f k 1 = some (false, [1]) := lift (fun k => brindlewoodref3_Number.f k 1) (fun k => Go.Proofs.Ytkhiohlfdkkhdaa.P.brindlewoodref3_Number.mono _ _) number_one k (by omega)
  obtain ⟨m, m1, m2, m3⟩ := moved_one b (by omega) k (by omega)
  obtain ⟨N, l1, l2, l3, l4, l5⟩ := limbs_ok m2 (by omega) k (by omega)
  have hlen : N.length ≤ 128 := by
    rcases Nat.lt_or_ge 128 N.length with g | g
    · exfalso
      have a := val_ge (by decide) l2 l3 (by omega)
      rw [B_pow, l4] at a
      have c := pow_mono (b := 2) (by decide) (show b + 1 ≤ 32 * (N.length - 1) by omega)
      rw [pow_split] at c
      have := pow_pos 2 (by decide) b
      omega
    · exact g
  have oN : Ok false N := ⟨l2, l3, hlen, fun _ => rfl⟩
  obtain ⟨r, r1, r2, r3⟩ := below_law oN b l4 t s ht k (by omega)
  have w1 : IntKind.u64.wrap (wrap64 (Int.tdiv (wrap64 ((b : Int) + 31)) 32)) = (((b + 31) / 32 : Nat) : Int) := by
    rw [w64id (x := (b : Int) + 31) (by omega) (by omega), Int.tdiv_eq_ediv_of_nonneg (by omega), w64id (by omega) (by omega), u64id (by omega) (by omega)]
    omega
  obtain ⟨ri, i1, i2, i3⟩ := intof_ok r2 k (by omega)
  obtain ⟨c, p1, p2⟩ := order_ok i2 (⟨_, m2, rfl⟩ : RI false m (2 ^ b)) (by omega) (by omega) k (by omega)
  unfold Sgn at p2
  rw [iv_neg_false] at p2
  have hOk : brindlewoodref3_IntOk.f false r = some true := r2.valid
  rw [n1]
  simp only [Option.bind_some]
  rw [m1]
  simp only [Option.bind_some]
  rw [l1]
  simp only [Option.bind_some]
  rw [r1]
  simp only [Option.bind_some]
  rw [w1, skip_pl k ((b + 31) / 32) s t ht s0 s1 (by omega) (by omega)]
  simp only [Option.bind_some, if_true, beq_self_eq_true, Bool.not_true, Bool.or_self, Bool.false_eq_true, if_false]
  rw [hOk]
  simp only [Option.bind_some, if_true]
  rw [i1]
  simp only [Option.bind_some]
  rw [p1]
  simp only [Option.bind_some]
  rw [if_neg (by omega)]
  exact h2
end Go.Proofs.Ytkhiohlfdkkhdaa.Big
