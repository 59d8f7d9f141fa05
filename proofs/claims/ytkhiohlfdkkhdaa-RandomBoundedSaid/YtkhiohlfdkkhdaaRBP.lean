/- What the functions compute, written with fuel, over numbers and lists. Conditions: those of each lemma. -/
import Derived.RowKit
import Derived.Laws.Entries
import Derived.Lib.BitFns
import Derived.Laws.BitsLemmas
import Derived.Laws.Slices
import Derived.Deep.AppendLies
namespace Go.Proofs.YtkhiohlfdkkhdaaW.PrintWords
/-- what the first gives the second gives too -/
def LeO {α : Type} (a b : Option α) : Prop := ∀ r, a = some r → b = some r
theorem LeO.refl {α : Type} (a : Option α) : LeO a a := fun _ h => h
theorem LeO.none {α : Type} (a : Option α) : LeO Option.none a := fun _ h => by cases h
theorem LeO.ite {α : Type} {c : Prop} [Decidable c] {a b x y : Option α} (h : LeO a x) (k : LeO b y) : LeO (if c then a else b) (if c then x else y) := by
  by_cases hc : c
  · simp only [hc, if_true]; exact h
  · simp only [hc, if_false]; exact k
theorem LeO.bind {α β : Type} {a x : Option α} {f g : α → Option β} (h : LeO a x) (k : ∀ t, LeO (f t) (g t)) : LeO (a.bind f) (x.bind g) := by
  intro r hr
  obtain ⟨t, ht, hf⟩ := Option.bind_eq_some_iff.1 hr
  rw [h t ht]
  exact k t r hf
def rdOf {α : Type} (d : α) (xs : List α) (i : Int) : α := xs.getD i.toNat d
def rd (xs : List Int) (i : Int) : Int := xs.getD i.toNat 0
def mx (a b : Int) : Int := if a < b then b else a
def mn (a b : Int) : Int := if b < a then b else a
def shl (k : IntKind) (x y : Int) : Int := k.wrap (x * 2 ^ min y.toNat k.bits)
def shr (k : IntKind) (x y : Int) : Int := x / 2 ^ min y.toNat k.bits
end Go.Proofs.YtkhiohlfdkkhdaaW.PrintWords

set_option linter.unusedVariables false
set_option linter.unusedSimpArgs false
namespace Go.Proofs.Ytkhiohlfdkkhdaa.P
open Go.RowKit Go.Proofs.YtkhiohlfdkkhdaaW.PrintWords
structure S24 where
  f0 : Bool
  f1 : (List Int)
def z24 : S24 := ⟨false, ([] : List Int)⟩
def rd_T24 (xs : List S24) (i : Int) : S24 := xs.getD i.toNat z24
def integer_Valid.f (a0_0 : Bool) (l0_1 : List Int) : Option (Bool) := if (l0_1.length : Int) ≤ 128 then (if (l0_1.length : Int) = 0 then (if a0_0 = true then (if (l0_1.length : Int) > 0 then (if 0 ≤ (wrap64 ((l0_1.length : Int) - 1)) then (if (wrap64 ((l0_1.length : Int) - 1)) < (l0_1.length : Int) then (some ((rd l0_1 (wrap64 ((l0_1.length : Int) - 1))) != 0)) else (none)) else (none)) else (some false)) else (some true)) else (if (l0_1.length : Int) > 0 then (if 0 ≤ (wrap64 ((l0_1.length : Int) - 1)) then (if (wrap64 ((l0_1.length : Int) - 1)) < (l0_1.length : Int) then (some ((rd l0_1 (wrap64 ((l0_1.length : Int) - 1))) != 0)) else (none)) else (none)) else (some false))) else (some false)
def random_at.f (a0 : Int) (a1 : Int) : Option (Int × Int) := some (a0, a1)
def random_mix.f (a0 : Int) : Option (Int) := some (Go.bits .xor .u64 (IntKind.u64.wrap ((Go.bits .xor .u64 (IntKind.u64.wrap ((Go.bits .xor .u64 a0 (a0 / 1073741824)) * 13787848793156543929)) ((IntKind.u64.wrap ((Go.bits .xor .u64 a0 (a0 / 1073741824)) * 13787848793156543929)) / 134217728)) * 10723151780598845931)) ((IntKind.u64.wrap ((Go.bits .xor .u64 (IntKind.u64.wrap ((Go.bits .xor .u64 a0 (a0 / 1073741824)) * 13787848793156543929)) ((IntKind.u64.wrap ((Go.bits .xor .u64 a0 (a0 / 1073741824)) * 13787848793156543929)) / 134217728)) * 10723151780598845931)) / 2147483648))
mutual
def random_Seed.j0 : Nat → Int → Bool → List Int → Option (Int × Int × Int × Int)
 | 0, _, _, _ => none
 | k + 1, x4, x106000, x106001 => random_Seed.l0 k x4 x106001 (x106001.length : Int) 0
def random_Seed.l0 : Nat → Int → List Int → Int → Int → Option (Int × Int × Int × Int)
 | 0, _, _, _, _ => none
 | k + 1, x4, x21, x22, x23 => if x23 < x22 then (if 0 ≤ x23 then (if x23 < (x21.length : Int) then ((random_mix.f (IntKind.u64.wrap ((IntKind.u64.wrap ((IntKind.u64.wrap (x4 * 6364136223846793005)) + (IntKind.u64.wrap (rd x21 x23)))) + 1))).bind fun t112 => (random_Seed.l0 k t112 x21 x22 (wrap64 (x23 + 1)))) else (none)) else (none)) else (some (x4, 1442695040888963407, 0, 0))
end
def random_Seed.f (k : Nat) (a0_0 : Bool) (l0_1 : List Int) : Option (Int × Int × Int × Int) := (integer_Valid.f a0_0 l0_1).bind fun t108 => (if t108 = true then (if a0_0 = true then (random_Seed.j0 k (Go.bits .xor .u64 18446744073709551615 (IntKind.u64.wrap ((l0_1.length : Int)))) a0_0 l0_1) else (random_Seed.j0 k (IntKind.u64.wrap ((l0_1.length : Int))) a0_0 l0_1)) else ((random_at.f 6 (-1)).bind fun bt109 => (some (0, 0, bt109.1, bt109.2))))
theorem random_Seed.mono_l : ∀ k, (∀ y0 y1 y2, LeO (random_Seed.j0 k y0 y1 y2) (random_Seed.j0 (k + 1) y0 y1 y2)) ∧ (∀ y0 y1 y2 y3, LeO (random_Seed.l0 k y0 y1 y2 y3) (random_Seed.l0 (k + 1) y0 y1 y2 y3))
 | 0 => ⟨fun _ _ _ r h => by simp [random_Seed.j0] at h, fun _ _ _ _ r h => by simp [random_Seed.l0] at h⟩
 | k + 1 => by
  obtain ⟨ih0, ih1⟩ := random_Seed.mono_l k
  refine ⟨?_, ?_⟩
  ·intro y0 y1 y2
   unfold random_Seed.j0
   repeat' first
   | (with_reducible exact ih0 _ _ _)
   | (with_reducible exact ih1 _ _ _ _)
   | (with_reducible exact LeO.refl _)
   | (with_reducible exact LeO.none _)
   | (with_reducible refine LeO.ite ?_ ?_)
   | (with_reducible refine LeO.bind ?_ (fun _ => ?_))
   | exact ih0 _ _ _
   | exact ih1 _ _ _ _
   | exact LeO.none _
   | refine LeO.ite ?_ ?_
   | refine LeO.bind ?_ (fun _ => ?_)
  ·intro y0 y1 y2 y3
   unfold random_Seed.l0
   repeat' first
   | (with_reducible exact ih0 _ _ _)
   | (with_reducible exact ih1 _ _ _ _)
   | (with_reducible exact LeO.refl _)
   | (with_reducible exact LeO.none _)
   | (with_reducible refine LeO.ite ?_ ?_)
   | (with_reducible refine LeO.bind ?_ (fun _ => ?_))
   | exact ih0 _ _ _
   | exact ih1 _ _ _ _
   | exact LeO.none _
   | refine LeO.ite ?_ ?_
   | refine LeO.bind ?_ (fun _ => ?_)
theorem random_Seed.mono : ∀ a0 a1 k, LeO (random_Seed.f k a0 a1) (random_Seed.f (k + 1) a0 a1) := by
 intro a0 a1 k
 obtain ⟨ih0, ih1⟩ := random_Seed.mono_l k
 unfold random_Seed.f
 repeat' first
   | (with_reducible exact ih0 _ _ _)
   | (with_reducible exact ih1 _ _ _ _)
   | (with_reducible exact LeO.refl _)
   | (with_reducible exact LeO.none _)
   | (with_reducible refine LeO.ite ?_ ?_)
   | (with_reducible refine LeO.bind ?_ (fun _ => ?_))
   | exact ih0 _ _ _
   | exact ih1 _ _ _ _
   | exact LeO.none _
   | refine LeO.ite ?_ ?_
   | refine LeO.bind ?_ (fun _ => ?_)
def random_open_ok.f (a0_0 : Int) (a0_1 : Int) : Option (Int × Int) := if a0_1 % 2 = 0 then none else some (a0_0, a0_1)
def random_open_no.f (a0_0 : Int) (a0_1 : Int) : Option Unit := if a0_1 % 2 = 0 then some () else none
def random_source_next.f (s0_0 : Int) (s0_1 : Int) : Option (Int × Int × Int) := (random_mix.f (IntKind.u64.wrap ((IntKind.u64.wrap (s0_0 * 6364136223846793005)) + s0_1))).bind fun t => some (t, IntKind.u64.wrap ((IntKind.u64.wrap (s0_0 * 6364136223846793005)) + s0_1), s0_1)
def random_Next.f (a0_0 : Int) (a0_1 : Int) : Option (Int × Int × Int × Int × Int) := if a0_1 % 2 = 0 then ((random_open_no.f a0_0 a0_1).bind fun _ => (some (0, 0, 0, 6, (-1)))) else ((random_open_ok.f a0_0 a0_1).bind fun bt117 => ((random_source_next.f bt117.1 bt117.2).bind fun bt121 => (some (bt121.1, bt121.2.1, bt121.2.2, 0, 0))))
def random_Next.T5 : Bool × List (List Nat × List Nat) := (true, [([], []), ([], []), ([1], [1]), ([2], [2]), ([3], [3]), ([], []), ([0, 0], [0]), ([4, 6, 0, 1, 2, 3, 4, 6], [4]), ([5, 7, 0, 1, 2, 3, 4, 5, 6, 7], [5])])
def random_Next.B5 : List Nat := [0, 0, 2, 6, 14, 0, 1, 95, 255]
def random_Skip.l0 : Nat → Int → Int → Int → Int → Int → Int → Int → Option (Int × Int × Int × Int)
 | 0, _, _, _, _, _, _, _ => none
 | k + 1, x1, x8, x9, x10, x11, x125000, x125001 => if x1 > 0 then (if (Go.bits .and .u64 x1 1) = 1 then (random_Skip.l0 k (x1 / 2) (IntKind.u64.wrap (x8 * x10)) (IntKind.u64.wrap ((IntKind.u64.wrap (x9 * x10)) + x11)) (IntKind.u64.wrap (x10 * x10)) (IntKind.u64.wrap ((IntKind.u64.wrap (x11 * x10)) + x11)) x125000 x125001) else (random_Skip.l0 k (x1 / 2) x8 x9 (IntKind.u64.wrap (x10 * x10)) (IntKind.u64.wrap ((IntKind.u64.wrap (x11 * x10)) + x11)) x125000 x125001)) else (some (IntKind.u64.wrap ((IntKind.u64.wrap (x125000 * x8)) + x9), x125001, 0, 0))
def random_Skip.f (k : Nat) (a0_0 : Int) (a0_1 : Int) (a1 : Int) : Option (Int × Int × Int × Int) := if a0_1 % 2 = 0 then ((random_open_no.f a0_0 a0_1).bind fun _ => (some (0, 0, 6, (-1)))) else ((random_open_ok.f a0_0 a0_1).bind fun bt128 => (random_Skip.l0 k a1 1 0 6364136223846793005 a0_1 a0_0 a0_1))
theorem random_Skip.mono_l : ∀ k, (∀ y0 y1 y2 y3 y4 y5 y6, LeO (random_Skip.l0 k y0 y1 y2 y3 y4 y5 y6) (random_Skip.l0 (k + 1) y0 y1 y2 y3 y4 y5 y6))
 | 0 => fun _ _ _ _ _ _ _ r h => by simp [random_Skip.l0] at h
 | k + 1 => by
  have ih0 := random_Skip.mono_l k
  ·intro y0 y1 y2 y3 y4 y5 y6
   unfold random_Skip.l0
   repeat' first
   | (with_reducible exact ih0 _ _ _ _ _ _ _)
   | (with_reducible exact LeO.refl _)
   | (with_reducible exact LeO.none _)
   | (with_reducible refine LeO.ite ?_ ?_)
   | (with_reducible refine LeO.bind ?_ (fun _ => ?_))
   | exact ih0 _ _ _ _ _ _ _
   | exact LeO.none _
   | refine LeO.ite ?_ ?_
   | refine LeO.bind ?_ (fun _ => ?_)
theorem random_Skip.mono : ∀ a0 a1 a2 k, LeO (random_Skip.f k a0 a1 a2) (random_Skip.f (k + 1) a0 a1 a2) := by
 intro a0 a1 a2 k
 have ih0 := random_Skip.mono_l k
 unfold random_Skip.f
 repeat' first
   | (with_reducible exact ih0 _ _ _ _ _ _ _)
   | (with_reducible exact LeO.refl _)
   | (with_reducible exact LeO.none _)
   | (with_reducible refine LeO.ite ?_ ?_)
   | (with_reducible refine LeO.bind ?_ (fun _ => ?_))
   | exact ih0 _ _ _ _ _ _ _
   | exact LeO.none _
   | refine LeO.ite ?_ ?_
   | refine LeO.bind ?_ (fun _ => ?_)
def brindlewoodref4_Mixed.f (a0 : Int) : Option (Int) := some (Go.bits .xor .u64 (IntKind.u64.wrap ((Go.bits .xor .u64 (IntKind.u64.wrap ((Go.bits .xor .u64 a0 (IntKind.u64.wrap (Int.tdiv a0 1073741824))) * 13787848793156543929)) (IntKind.u64.wrap (Int.tdiv (IntKind.u64.wrap ((Go.bits .xor .u64 a0 (IntKind.u64.wrap (Int.tdiv a0 1073741824))) * 13787848793156543929)) 134217728))) * 10723151780598845931)) (IntKind.u64.wrap (Int.tdiv (IntKind.u64.wrap ((Go.bits .xor .u64 (IntKind.u64.wrap ((Go.bits .xor .u64 a0 (IntKind.u64.wrap (Int.tdiv a0 1073741824))) * 13787848793156543929)) (IntKind.u64.wrap (Int.tdiv (IntKind.u64.wrap ((Go.bits .xor .u64 a0 (IntKind.u64.wrap (Int.tdiv a0 1073741824))) * 13787848793156543929)) 134217728))) * 10723151780598845931)) 2147483648)))
mutual
def brindlewoodref4_Seeded.j0 : Nat → Int → Bool → List Int → Option (Int × Int)
 | 0, _, _, _ => none
 | k + 1, x3, x133000, x133001 => brindlewoodref4_Seeded.l0 k x3 0 x133000 x133001
def brindlewoodref4_Seeded.l0 : Nat → Int → Int → Bool → List Int → Option (Int × Int)
 | 0, _, _, _, _ => none
 | k + 1, x3, x4, x133000, x133001 => if x4 < (x133001.length : Int) then (if 0 ≤ x4 then ((brindlewoodref4_Mixed.f (IntKind.u64.wrap ((IntKind.u64.wrap ((IntKind.u64.wrap (x3 * 6364136223846793005)) + (IntKind.u64.wrap (rd x133001 x4)))) + 1))).bind fun t135 => (brindlewoodref4_Seeded.l0 k t135 (wrap64 (x4 + 1)) x133000 x133001)) else (none)) else (some (x3, 1442695040888963407))
end
def brindlewoodref4_Seeded.f (k : Nat) (a0_0 : Bool) (l0_1 : List Int) : Option (Int × Int) := if a0_0 = true then (brindlewoodref4_Seeded.j0 k (Go.bits .xor .u64 18446744073709551615 (IntKind.u64.wrap ((l0_1.length : Int)))) a0_0 l0_1) else (brindlewoodref4_Seeded.j0 k (IntKind.u64.wrap ((l0_1.length : Int))) a0_0 l0_1)
theorem brindlewoodref4_Seeded.mono_l : ∀ k, (∀ y0 y1 y2, LeO (brindlewoodref4_Seeded.j0 k y0 y1 y2) (brindlewoodref4_Seeded.j0 (k + 1) y0 y1 y2)) ∧ (∀ y0 y1 y2 y3, LeO (brindlewoodref4_Seeded.l0 k y0 y1 y2 y3) (brindlewoodref4_Seeded.l0 (k + 1) y0 y1 y2 y3))
 | 0 => ⟨fun _ _ _ r h => by simp [brindlewoodref4_Seeded.j0] at h, fun _ _ _ _ r h => by simp [brindlewoodref4_Seeded.l0] at h⟩
 | k + 1 => by
  obtain ⟨ih0, ih1⟩ := brindlewoodref4_Seeded.mono_l k
  refine ⟨?_, ?_⟩
  ·intro y0 y1 y2
   unfold brindlewoodref4_Seeded.j0
   repeat' first
   | (with_reducible exact ih0 _ _ _)
   | (with_reducible exact ih1 _ _ _ _)
   | (with_reducible exact LeO.refl _)
   | (with_reducible exact LeO.none _)
   | (with_reducible refine LeO.ite ?_ ?_)
   | (with_reducible refine LeO.bind ?_ (fun _ => ?_))
   | exact ih0 _ _ _
   | exact ih1 _ _ _ _
   | exact LeO.none _
   | refine LeO.ite ?_ ?_
   | refine LeO.bind ?_ (fun _ => ?_)
  ·intro y0 y1 y2 y3
   unfold brindlewoodref4_Seeded.l0
   repeat' first
   | (with_reducible exact ih0 _ _ _)
   | (with_reducible exact ih1 _ _ _ _)
   | (with_reducible exact LeO.refl _)
   | (with_reducible exact LeO.none _)
   | (with_reducible refine LeO.ite ?_ ?_)
   | (with_reducible refine LeO.bind ?_ (fun _ => ?_))
   | exact ih0 _ _ _
   | exact ih1 _ _ _ _
   | exact LeO.none _
   | refine LeO.ite ?_ ?_
   | refine LeO.bind ?_ (fun _ => ?_)
theorem brindlewoodref4_Seeded.mono : ∀ a0 a1 k, LeO (brindlewoodref4_Seeded.f k a0 a1) (brindlewoodref4_Seeded.f (k + 1) a0 a1) := by
 intro a0 a1 k
 obtain ⟨ih0, ih1⟩ := brindlewoodref4_Seeded.mono_l k
 unfold brindlewoodref4_Seeded.f
 repeat' first
   | (with_reducible exact ih0 _ _ _)
   | (with_reducible exact ih1 _ _ _ _)
   | (with_reducible exact LeO.refl _)
   | (with_reducible exact LeO.none _)
   | (with_reducible refine LeO.ite ?_ ?_)
   | (with_reducible refine LeO.bind ?_ (fun _ => ?_))
   | exact ih0 _ _ _
   | exact ih1 _ _ _ _
   | exact LeO.none _
   | refine LeO.ite ?_ ?_
   | refine LeO.bind ?_ (fun _ => ?_)
def brindlewoodref4_Random_Draw.f (s0_0 : Int) (s0_1 : Int) : Option (Int × Int × Int) := (brindlewoodref4_Mixed.f (IntKind.u64.wrap ((IntKind.u64.wrap (s0_0 * 6364136223846793005)) + s0_1))).bind fun t => some (t, IntKind.u64.wrap ((IntKind.u64.wrap (s0_0 * 6364136223846793005)) + s0_1), s0_1)
def integer_at.f (a0 : Int) (a1 : Int) : Option (Int × Int) := some (a0, a1)
def integer_check.l0 : Nat → List (S24) → Int → Int → Option (Int × Int)
 | 0, _, _, _ => none
 | k + 1, x5, x6, x7 => if x7 < x6 then (if 0 ≤ x7 then (if x7 < (x5.length : Int) then ((integer_Valid.f ((rd_T24 x5 x7).f0) ((rd_T24 x5 x7).f1)).bind fun t140 => (if t140 = true then (integer_check.l0 k x5 x6 (wrap64 (x7 + 1))) else ((integer_at.f 6 (wrap64 ((-1) - x7))).bind fun bt141 => (some (bt141.1, bt141.2))))) else (none)) else (none)) else (some (0, 0))
def integer_check.f (k : Nat) (l0 : List (S24)) : Option (Int × Int) := integer_check.l0 k l0 (l0.length : Int) 0
theorem integer_check.mono_l : ∀ k, (∀ y0 y1 y2, LeO (integer_check.l0 k y0 y1 y2) (integer_check.l0 (k + 1) y0 y1 y2))
 | 0 => fun _ _ _ r h => by simp [integer_check.l0] at h
 | k + 1 => by
  have ih0 := integer_check.mono_l k
  ·intro y0 y1 y2
   unfold integer_check.l0
   repeat' first
   | (with_reducible exact ih0 _ _ _)
   | (with_reducible exact LeO.refl _)
   | (with_reducible exact LeO.none _)
   | (with_reducible refine LeO.ite ?_ ?_)
   | (with_reducible refine LeO.bind ?_ (fun _ => ?_))
   | exact ih0 _ _ _
   | exact LeO.none _
   | refine LeO.ite ?_ ?_
   | refine LeO.bind ?_ (fun _ => ?_)
theorem integer_check.mono : ∀ a0 k, LeO (integer_check.f k a0) (integer_check.f (k + 1) a0) := by
 intro a0 k
 have ih0 := integer_check.mono_l k
 unfold integer_check.f
 repeat' first
   | (with_reducible exact ih0 _ _ _)
   | (with_reducible exact LeO.refl _)
   | (with_reducible exact LeO.none _)
   | (with_reducible refine LeO.ite ?_ ?_)
   | (with_reducible refine LeO.bind ?_ (fun _ => ?_))
   | exact ih0 _ _ _
   | exact LeO.none _
   | refine LeO.ite ?_ ?_
   | refine LeO.bind ?_ (fun _ => ?_)
def natural_Valid.f (l0 : List Int) : Option (Bool) := if (l0.length : Int) ≤ 600 then (if (l0.length : Int) = 0 then (some true) else (if 0 ≤ (wrap64 ((l0.length : Int) - 1)) then (if (wrap64 ((l0.length : Int) - 1)) < (l0.length : Int) then (some ((rd l0 (wrap64 ((l0.length : Int) - 1))) != 0)) else (none)) else (none))) else (some false)
def natural_at.f (a0 : Int) (a1 : Int) : Option (Int × Int) := some (a0, a1)
def natural_check.f (l0 : List Int) (l1 : List Int) : Option (Int × Int) := (natural_Valid.f l0).bind fun t146 => (if t146 = true then ((natural_Valid.f l1).bind fun t147 => (if t147 = true then (some (0, 0)) else ((natural_at.f 6 (-2)).bind fun bt148 => (some (bt148.1, bt148.2))))) else ((natural_at.f 6 (-1)).bind fun bt150 => (some (bt150.1, bt150.2))))
def natural_compare.l0 : Nat → List Int → List Int → Int → Option (Int)
 | 0, _, _, _ => none
 | k + 1, x0, x1, x5 => if x5 ≥ 0 then (if 0 ≤ x5 then (if x5 < (x0.length : Int) then (if x5 < (x1.length : Int) then (if (rd x0 x5) = (rd x1 x5) then (natural_compare.l0 k x0 x1 (wrap64 (x5 - 1))) else (if (rd x0 x5) < (rd x1 x5) then (some (-1)) else (some 1))) else (none)) else (none)) else (none)) else (some 0)
def natural_compare.f (k : Nat) (l0 : List Int) (l1 : List Int) : Option (Int) := if (l0.length : Int) = (l1.length : Int) then (natural_compare.l0 k l0 l1 (wrap64 ((l0.length : Int) - 1))) else (some (wrap64 ((l0.length : Int) - (l1.length : Int))))
theorem natural_compare.mono_l : ∀ k, (∀ y0 y1 y2, LeO (natural_compare.l0 k y0 y1 y2) (natural_compare.l0 (k + 1) y0 y1 y2))
 | 0 => fun _ _ _ r h => by simp [natural_compare.l0] at h
 | k + 1 => by
  have ih0 := natural_compare.mono_l k
  ·intro y0 y1 y2
   unfold natural_compare.l0
   repeat' first
   | (with_reducible exact ih0 _ _ _)
   | (with_reducible exact LeO.refl _)
   | (with_reducible exact LeO.none _)
   | (with_reducible refine LeO.ite ?_ ?_)
   | (with_reducible refine LeO.bind ?_ (fun _ => ?_))
   | exact ih0 _ _ _
   | exact LeO.none _
   | refine LeO.ite ?_ ?_
   | refine LeO.bind ?_ (fun _ => ?_)
theorem natural_compare.mono : ∀ a0 a1 k, LeO (natural_compare.f k a0 a1) (natural_compare.f (k + 1) a0 a1) := by
 intro a0 a1 k
 have ih0 := natural_compare.mono_l k
 unfold natural_compare.f
 repeat' first
   | (with_reducible exact ih0 _ _ _)
   | (with_reducible exact LeO.refl _)
   | (with_reducible exact LeO.none _)
   | (with_reducible refine LeO.ite ?_ ?_)
   | (with_reducible refine LeO.bind ?_ (fun _ => ?_))
   | exact ih0 _ _ _
   | exact LeO.none _
   | refine LeO.ite ?_ ?_
   | refine LeO.bind ?_ (fun _ => ?_)
def natural_Cmp.f (k : Nat) (l0 : List Int) (l1 : List Int) : Option (Int × Int × Int) := (natural_check.f l0 l1).bind fun bt157 => (if bt157.1 = 0 then ((natural_compare.f k l0 l1).bind fun t160 => (some (mn (mx t160 (-1)) 1, 0, 0))) else (some (0, bt157.1, bt157.2)))
theorem natural_Cmp.mono : ∀ a0 a1 k, LeO (natural_Cmp.f k a0 a1) (natural_Cmp.f (k + 1) a0 a1) := by
 intro a0 a1 k
 unfold natural_Cmp.f
 repeat' first
   | (with_reducible exact natural_compare.mono _ _ _)
   | (with_reducible exact LeO.refl _)
   | (with_reducible exact LeO.none _)
   | (with_reducible refine LeO.ite ?_ ?_)
   | (with_reducible refine LeO.bind ?_ (fun _ => ?_))
   | exact natural_compare.mono _ _ _
   | exact LeO.none _
   | refine LeO.ite ?_ ?_
   | refine LeO.bind ?_ (fun _ => ?_)
def integer_Cmp.f (k : Nat) (a0_0 : Bool) (l0_1 : List Int) (a1_0 : Bool) (l1_1 : List Int) : Option (Int × Int × Int) :=
  (integer_check.f k [(⟨a0_0, l0_1⟩ : S24), (⟨a1_0, l1_1⟩ : S24)]).bind fun f => if f.1 = 0 then ((natural_Cmp.f k l0_1 l1_1).bind fun x => some (if a0_0 = true then (if a1_0 = true then wrap64 (-x.1) else -1) else (if a1_0 = true then 1 else x.1), 0, 0)) else some (0, f.1, f.2)
theorem integer_Cmp.mono : ∀ a0 a1 a2 a3 k, LeO (integer_Cmp.f k a0 a1 a2 a3) (integer_Cmp.f (k + 1) a0 a1 a2 a3) := by
  intro a0 a1 a2 a3 k
  unfold integer_Cmp.f
  exact LeO.bind (integer_check.mono _ _) (fun _ => LeO.ite (LeO.bind (natural_Cmp.mono _ _ _) (fun _ => LeO.refl _)) (LeO.refl _))
def natural_trim.l0 : Nat → List Int → Option (List Int)
 | 0, _ => none
 | k + 1, x0 => if (x0.length : Int) > 0 then (if 0 ≤ (wrap64 ((x0.length : Int) - 1)) then (if (wrap64 ((x0.length : Int) - 1)) < (x0.length : Int) then (if (rd x0 (wrap64 ((x0.length : Int) - 1))) = 0 then (if (wrap64 ((x0.length : Int) - 1)) ≤ (x0.length : Int) then (natural_trim.l0 k (x0.take ((wrap64 ((x0.length : Int) - 1)) : Int).toNat)) else (none)) else (some x0)) else (none)) else (none)) else (some x0)
def natural_trim.f (k : Nat) (l0 : List Int) : Option (List Int) := natural_trim.l0 k l0
theorem natural_trim.mono_l : ∀ k, (∀ y0, LeO (natural_trim.l0 k y0) (natural_trim.l0 (k + 1) y0))
 | 0 => fun _ r h => by simp [natural_trim.l0] at h
 | k + 1 => by
  have ih0 := natural_trim.mono_l k
  ·intro y0
   unfold natural_trim.l0
   repeat' first
   | (with_reducible exact ih0 _)
   | (with_reducible exact LeO.refl _)
   | (with_reducible exact LeO.none _)
   | (with_reducible refine LeO.ite ?_ ?_)
   | (with_reducible refine LeO.bind ?_ (fun _ => ?_))
   | exact ih0 _
   | exact LeO.none _
   | refine LeO.ite ?_ ?_
   | refine LeO.bind ?_ (fun _ => ?_)
theorem natural_trim.mono : ∀ a0 k, LeO (natural_trim.f k a0) (natural_trim.f (k + 1) a0) := by
 intro a0 k
 have ih0 := natural_trim.mono_l k
 unfold natural_trim.f
 repeat' first
   | (with_reducible exact ih0 _)
   | (with_reducible exact LeO.refl _)
   | (with_reducible exact LeO.none _)
   | (with_reducible refine LeO.ite ?_ ?_)
   | (with_reducible refine LeO.bind ?_ (fun _ => ?_))
   | exact ih0 _
   | exact LeO.none _
   | refine LeO.ite ?_ ?_
   | refine LeO.bind ?_ (fun _ => ?_)
def natural_fit.f (k : Nat) (l0 : List Int) : Option (List Int × Int × Int) := (natural_trim.f k l0).bind fun t168 => (if (t168.length : Int) > 600 then ((natural_at.f 14 (-1)).bind fun bt171 => (some (([] : List Int), bt171.1, bt171.2))) else (some (t168, 0, 0)))
theorem natural_fit.mono : ∀ a0 k, LeO (natural_fit.f k a0) (natural_fit.f (k + 1) a0) := by
 intro a0 k
 unfold natural_fit.f
 repeat' first
   | (with_reducible exact natural_trim.mono _ _)
   | (with_reducible exact LeO.refl _)
   | (with_reducible exact LeO.none _)
   | (with_reducible refine LeO.ite ?_ ?_)
   | (with_reducible refine LeO.bind ?_ (fun _ => ?_))
   | exact natural_trim.mono _ _
   | exact LeO.none _
   | refine LeO.ite ?_ ?_
   | refine LeO.bind ?_ (fun _ => ?_)
mutual
def natural_add.l0 : Nat → List Int → List Int → Int → List Int → Int → Int → Option (List Int)
 | 0, _, _, _, _, _, _ => none
 | k + 1, x1, x5, x6, x20, x21, x22 => if x22 < x21 then (if 0 ≤ x22 then (if x22 < (x20.length : Int) then (if x22 < (x1.length : Int) then (if x5.length < 35184372088832 then (natural_add.l0 k x1 (x5 ++ [(IntKind.u64.wrap ((IntKind.u64.wrap (x6 + (IntKind.u64.wrap (rd x20 x22)))) + (IntKind.u64.wrap (rd x1 x22)))) % 4294967296]) ((IntKind.u64.wrap ((IntKind.u64.wrap (x6 + (IntKind.u64.wrap (rd x20 x22)))) + (IntKind.u64.wrap (rd x1 x22)))) / 4294967296) x20 x21 (wrap64 (x22 + 1))) else (none)) else (if x5.length < 35184372088832 then (natural_add.l0 k x1 (x5 ++ [(IntKind.u64.wrap (x6 + (IntKind.u64.wrap (rd x20 x22)))) % 4294967296]) ((IntKind.u64.wrap (x6 + (IntKind.u64.wrap (rd x20 x22)))) / 4294967296) x20 x21 (wrap64 (x22 + 1))) else (none))) else (none)) else (none)) else (if x5.length < 35184372088832 then ((natural_trim.f k (x5 ++ [(x6) % 4294967296])).bind fun t187 => (some t187)) else (none))
def natural_add.l50 : Nat → List Int → List Int → Int → List Int → Int → Int → Option (List Int)
 | 0, _, _, _, _, _, _ => none
 | k + 1, x1, x5, x6, x20, x21, x22 => if x22 < x21 then (if 0 ≤ x22 then (if x22 < (x20.length : Int) then (if x22 < (x1.length : Int) then (if x5.length < 35184372088832 then (natural_add.l50 k x1 (x5 ++ [(IntKind.u64.wrap ((IntKind.u64.wrap (x6 + (IntKind.u64.wrap (rd x20 x22)))) + (IntKind.u64.wrap (rd x1 x22)))) % 4294967296]) ((IntKind.u64.wrap ((IntKind.u64.wrap (x6 + (IntKind.u64.wrap (rd x20 x22)))) + (IntKind.u64.wrap (rd x1 x22)))) / 4294967296) x20 x21 (wrap64 (x22 + 1))) else (none)) else (if x5.length < 35184372088832 then (natural_add.l50 k x1 (x5 ++ [(IntKind.u64.wrap (x6 + (IntKind.u64.wrap (rd x20 x22)))) % 4294967296]) ((IntKind.u64.wrap (x6 + (IntKind.u64.wrap (rd x20 x22)))) / 4294967296) x20 x21 (wrap64 (x22 + 1))) else (none))) else (none)) else (none)) else (if x5.length < 35184372088832 then ((natural_trim.f k (x5 ++ [(x6) % 4294967296])).bind fun t204 => (some t204)) else (none))
end
def natural_add.f (k : Nat) (l0 : List Int) (l1 : List Int) : Option (List Int) := if (l0.length : Int) < (l1.length : Int) then (if 0 ≤ (wrap64 ((l1.length : Int) + 1)) then (if (wrap64 ((l1.length : Int) + 1) : Int).toNat ≤ 70368744177664 then (natural_add.l0 k l0 (([] : List Int)) 0 l1 (l1.length : Int) 0) else (none)) else (none)) else (if 0 ≤ (wrap64 ((l0.length : Int) + 1)) then (if (wrap64 ((l0.length : Int) + 1) : Int).toNat ≤ 70368744177664 then (natural_add.l50 k l1 (([] : List Int)) 0 l0 (l0.length : Int) 0) else (none)) else (none))
theorem natural_add.mono_l : ∀ k, (∀ y0 y1 y2 y3 y4 y5, LeO (natural_add.l0 k y0 y1 y2 y3 y4 y5) (natural_add.l0 (k + 1) y0 y1 y2 y3 y4 y5)) ∧ (∀ y0 y1 y2 y3 y4 y5, LeO (natural_add.l50 k y0 y1 y2 y3 y4 y5) (natural_add.l50 (k + 1) y0 y1 y2 y3 y4 y5))
 | 0 => ⟨fun _ _ _ _ _ _ r h => by simp [natural_add.l0] at h, fun _ _ _ _ _ _ r h => by simp [natural_add.l50] at h⟩
 | k + 1 => by
  obtain ⟨ih0, ih1⟩ := natural_add.mono_l k
  refine ⟨?_, ?_⟩
  ·intro y0 y1 y2 y3 y4 y5
   unfold natural_add.l0
   repeat' first
   | (with_reducible exact ih0 _ _ _ _ _ _)
   | (with_reducible exact ih1 _ _ _ _ _ _)
   | (with_reducible exact natural_trim.mono _ _)
   | (with_reducible exact LeO.refl _)
   | (with_reducible exact LeO.none _)
   | (with_reducible refine LeO.ite ?_ ?_)
   | (with_reducible refine LeO.bind ?_ (fun _ => ?_))
   | exact ih0 _ _ _ _ _ _
   | exact ih1 _ _ _ _ _ _
   | exact natural_trim.mono _ _
   | exact LeO.none _
   | refine LeO.ite ?_ ?_
   | refine LeO.bind ?_ (fun _ => ?_)
  ·intro y0 y1 y2 y3 y4 y5
   unfold natural_add.l50
   repeat' first
   | (with_reducible exact ih0 _ _ _ _ _ _)
   | (with_reducible exact ih1 _ _ _ _ _ _)
   | (with_reducible exact natural_trim.mono _ _)
   | (with_reducible exact LeO.refl _)
   | (with_reducible exact LeO.none _)
   | (with_reducible refine LeO.ite ?_ ?_)
   | (with_reducible refine LeO.bind ?_ (fun _ => ?_))
   | exact ih0 _ _ _ _ _ _
   | exact ih1 _ _ _ _ _ _
   | exact natural_trim.mono _ _
   | exact LeO.none _
   | refine LeO.ite ?_ ?_
   | refine LeO.bind ?_ (fun _ => ?_)
theorem natural_add.mono : ∀ a0 a1 k, LeO (natural_add.f k a0 a1) (natural_add.f (k + 1) a0 a1) := by
 intro a0 a1 k
 obtain ⟨ih0, ih1⟩ := natural_add.mono_l k
 unfold natural_add.f
 repeat' first
   | (with_reducible exact ih0 _ _ _ _ _ _)
   | (with_reducible exact ih1 _ _ _ _ _ _)
   | (with_reducible exact natural_trim.mono _ _)
   | (with_reducible exact LeO.refl _)
   | (with_reducible exact LeO.none _)
   | (with_reducible refine LeO.ite ?_ ?_)
   | (with_reducible refine LeO.bind ?_ (fun _ => ?_))
   | exact ih0 _ _ _ _ _ _
   | exact ih1 _ _ _ _ _ _
   | exact natural_trim.mono _ _
   | exact LeO.none _
   | refine LeO.ite ?_ ?_
   | refine LeO.bind ?_ (fun _ => ?_)
def natural_Add.f (k : Nat) (l0 : List Int) (l1 : List Int) : Option (List Int × Int × Int) := (natural_check.f l0 l1).bind fun bt208 => (if bt208.1 = 0 then ((natural_add.f k l0 l1).bind fun t211 => ((natural_fit.f k t211).bind fun bt214 => (some (bt214.1, bt214.2.1, bt214.2.2)))) else (some (([] : List Int), bt208.1, bt208.2)))
theorem natural_Add.mono : ∀ a0 a1 k, LeO (natural_Add.f k a0 a1) (natural_Add.f (k + 1) a0 a1) := by
 intro a0 a1 k
 unfold natural_Add.f
 repeat' first
   | (with_reducible exact natural_add.mono _ _ _)
   | (with_reducible exact natural_fit.mono _ _)
   | (with_reducible exact LeO.refl _)
   | (with_reducible exact LeO.none _)
   | (with_reducible refine LeO.ite ?_ ?_)
   | (with_reducible refine LeO.bind ?_ (fun _ => ?_))
   | exact natural_add.mono _ _ _
   | exact natural_fit.mono _ _
   | exact LeO.none _
   | refine LeO.ite ?_ ?_
   | refine LeO.bind ?_ (fun _ => ?_)
def integer_signed.f (a0 : Bool) (l1 : List Int) : Option (Bool × List Int × Int × Int) := if (l1.length : Int) > 128 then ((integer_at.f 14 (-1)).bind fun bt221 => (some (false, ([] : List Int), bt221.1, bt221.2))) else (if a0 = true then (some (decide (0 < l1.length), l1, 0, 0)) else (some (false, l1, 0, 0)))
def slices_Clone_uint32_uint32.f (l0 : List Int) : Option (List Int) := if l0.length < 35184372088832 then some l0 else none
def bits_Sub32.f (a0 : Int) (a1 : Int) (a2 : Int) : Option (Int × Int) := some (((a0 - a1) - a2) % 4294967296, (Go.bits .or .u32 (Go.bits .and .u32 (Go.bits .xor .u32 4294967295 a0) a1) (Go.bits .and .u32 (Go.bits .xor .u32 4294967295 (Go.bits .xor .u32 a0 a1)) (((a0 - a1) - a2) % 4294967296))) / 2147483648)
def natural_sub.l0 : Nat → List Int → List Int → Int → Int → Int → Option (List Int)
 | 0, _, _, _, _, _ => none
 | k + 1, x1, x5, x6, x12, x13 => if x13 < x12 then (if x13 < (x1.length : Int) then (if 0 ≤ x13 then (if x13 < (x5.length : Int) then ((bits_Sub32.f (rd x5 x13) (rd x1 x13) x6).bind fun bt228 => (natural_sub.l0 k x1 (x5.set (x13 : Int).toNat bt228.1) bt228.2 x12 (wrap64 (x13 + 1)))) else (none)) else (none)) else (if 0 ≤ x13 then (if x13 < (x5.length : Int) then ((bits_Sub32.f (rd x5 x13) 0 x6).bind fun bt232 => (natural_sub.l0 k x1 (x5.set (x13 : Int).toNat bt232.1) bt232.2 x12 (wrap64 (x13 + 1)))) else (none)) else (none))) else ((natural_trim.f k x5).bind fun t235 => (some t235))
def natural_sub.f (k : Nat) (l0 : List Int) (l1 : List Int) : Option (List Int) := (slices_Clone_uint32_uint32.f l0).bind fun t223 => (natural_sub.l0 k l1 t223 0 (t223.length : Int) 0)
theorem natural_sub.mono_l : ∀ k, (∀ y0 y1 y2 y3 y4, LeO (natural_sub.l0 k y0 y1 y2 y3 y4) (natural_sub.l0 (k + 1) y0 y1 y2 y3 y4))
 | 0 => fun _ _ _ _ _ r h => by simp [natural_sub.l0] at h
 | k + 1 => by
  have ih0 := natural_sub.mono_l k
  ·intro y0 y1 y2 y3 y4
   unfold natural_sub.l0
   repeat' first
   | (with_reducible exact ih0 _ _ _ _ _)
   | (with_reducible exact natural_trim.mono _ _)
   | (with_reducible exact LeO.refl _)
   | (with_reducible exact LeO.none _)
   | (with_reducible refine LeO.ite ?_ ?_)
   | (with_reducible refine LeO.bind ?_ (fun _ => ?_))
   | exact ih0 _ _ _ _ _
   | exact natural_trim.mono _ _
   | exact LeO.none _
   | refine LeO.ite ?_ ?_
   | refine LeO.bind ?_ (fun _ => ?_)
theorem natural_sub.mono : ∀ a0 a1 k, LeO (natural_sub.f k a0 a1) (natural_sub.f (k + 1) a0 a1) := by
 intro a0 a1 k
 have ih0 := natural_sub.mono_l k
 unfold natural_sub.f
 repeat' first
   | (with_reducible exact ih0 _ _ _ _ _)
   | (with_reducible exact natural_trim.mono _ _)
   | (with_reducible exact LeO.refl _)
   | (with_reducible exact LeO.none _)
   | (with_reducible refine LeO.ite ?_ ?_)
   | (with_reducible refine LeO.bind ?_ (fun _ => ?_))
   | exact ih0 _ _ _ _ _
   | exact natural_trim.mono _ _
   | exact LeO.none _
   | refine LeO.ite ?_ ?_
   | refine LeO.bind ?_ (fun _ => ?_)
def natural_Sub.f (k : Nat) (l0 : List Int) (l1 : List Int) : Option (List Int × Int × Int) := (natural_check.f l0 l1).bind fun bt239 => (if bt239.1 = 0 then ((natural_compare.f k l0 l1).bind fun t242 => (if t242 < 0 then ((natural_at.f 4 (-2)).bind fun bt243 => (some (([] : List Int), bt243.1, bt243.2))) else ((natural_sub.f k l0 l1).bind fun t245 => (some (t245, 0, 0))))) else (some (([] : List Int), bt239.1, bt239.2)))
theorem natural_Sub.mono : ∀ a0 a1 k, LeO (natural_Sub.f k a0 a1) (natural_Sub.f (k + 1) a0 a1) := by
 intro a0 a1 k
 unfold natural_Sub.f
 repeat' first
   | (with_reducible exact natural_compare.mono _ _ _)
   | (with_reducible exact natural_sub.mono _ _ _)
   | (with_reducible exact LeO.refl _)
   | (with_reducible exact LeO.none _)
   | (with_reducible refine LeO.ite ?_ ?_)
   | (with_reducible refine LeO.bind ?_ (fun _ => ?_))
   | exact natural_compare.mono _ _ _
   | exact natural_sub.mono _ _ _
   | exact LeO.none _
   | refine LeO.ite ?_ ?_
   | refine LeO.bind ?_ (fun _ => ?_)
def integer_plus.f (k : Nat) (a0_0 : Bool) (l0_1 : List Int) (a1_0 : Bool) (l1_1 : List Int) : Option (Bool × List Int × Int × Int) :=
  if a0_0 = a1_0 then (natural_Add.f k l0_1 l1_1).bind fun s => integer_signed.f a0_0 s.1 else (natural_Cmp.f k l0_1 l1_1).bind fun c => if c.1 < 0 then (natural_Sub.f k l1_1 l0_1).bind fun s => integer_signed.f a1_0 s.1 else (natural_Sub.f k l0_1 l1_1).bind fun s => integer_signed.f a0_0 s.1
theorem integer_plus.mono : ∀ a0 a1 a2 a3 k, LeO (integer_plus.f k a0 a1 a2 a3) (integer_plus.f (k + 1) a0 a1 a2 a3) := by
  intro a0 a1 a2 a3 k
  unfold integer_plus.f
  exact LeO.ite (LeO.bind (natural_Add.mono _ _ _) (fun _ => LeO.refl _)) (LeO.bind (natural_Cmp.mono _ _ _) (fun _ => LeO.ite (LeO.bind (natural_Sub.mono _ _ _) (fun _ => LeO.refl _)) (LeO.bind (natural_Sub.mono _ _ _) (fun _ => LeO.refl _))))
def integer_Sub.f (k : Nat) (a0_0 : Bool) (l0_1 : List Int) (a1_0 : Bool) (l1_1 : List Int) : Option (Bool × List Int × Int × Int) :=
  (integer_check.f k [(⟨a0_0, l0_1⟩ : S24), (⟨a1_0, l1_1⟩ : S24)]).bind fun f => if f.1 = 0 then integer_plus.f k a0_0 l0_1 (!a1_0) l1_1 else some (false, [], f.1, f.2)
theorem integer_Sub.mono : ∀ a0 a1 a2 a3 k, LeO (integer_Sub.f k a0 a1 a2 a3) (integer_Sub.f (k + 1) a0 a1 a2 a3) := by
  intro a0 a1 a2 a3 k
  unfold integer_Sub.f
  exact LeO.bind (integer_check.mono _ _) (fun _ => LeO.ite (integer_plus.mono _ _ _ _ _) (LeO.refl _))
mutual
def integer_Of.j0 : Nat → Int → Int → Option (Bool × List Int)
 | 0, _, _ => none
 | k + 1, x0, x3 => integer_Of.l0 k x0 (([(x3) % 4294967296, (x3 / 4294967296) % 4294967296] : List Int))
def integer_Of.l0 : Nat → Int → List Int → Option (Bool × List Int)
 | 0, _, _ => none
 | k + 1, x0, x4 => if (x4.length : Int) > 0 then (if 0 ≤ (wrap64 ((x4.length : Int) - 1)) then (if (wrap64 ((x4.length : Int) - 1)) < (x4.length : Int) then (if (rd x4 (wrap64 ((x4.length : Int) - 1))) = 0 then (if (wrap64 ((x4.length : Int) - 1)) ≤ (x4.length : Int) then (integer_Of.l0 k x0 (x4.take ((wrap64 ((x4.length : Int) - 1)) : Int).toNat)) else (none)) else (some (decide (x0 < 0), x4))) else (none)) else (none)) else (some (decide (x0 < 0), x4))
end
def integer_Of.f (k : Nat) (a0 : Int) : Option (Bool × List Int) := if a0 < 0 then (integer_Of.j0 k a0 (IntKind.u64.wrap (-(IntKind.u64.wrap (a0))))) else (integer_Of.j0 k a0 (IntKind.u64.wrap (a0)))
theorem integer_Of.mono_l : ∀ k, (∀ y0 y1, LeO (integer_Of.j0 k y0 y1) (integer_Of.j0 (k + 1) y0 y1)) ∧ (∀ y0 y1, LeO (integer_Of.l0 k y0 y1) (integer_Of.l0 (k + 1) y0 y1))
 | 0 => ⟨fun _ _ r h => by simp [integer_Of.j0] at h, fun _ _ r h => by simp [integer_Of.l0] at h⟩
 | k + 1 => by
  obtain ⟨ih0, ih1⟩ := integer_Of.mono_l k
  refine ⟨?_, ?_⟩
  ·intro y0 y1
   unfold integer_Of.j0
   repeat' first
   | (with_reducible exact ih0 _ _)
   | (with_reducible exact ih1 _ _)
   | (with_reducible exact LeO.refl _)
   | (with_reducible exact LeO.none _)
   | (with_reducible refine LeO.ite ?_ ?_)
   | (with_reducible refine LeO.bind ?_ (fun _ => ?_))
   | exact ih0 _ _
   | exact ih1 _ _
   | exact LeO.none _
   | refine LeO.ite ?_ ?_
   | refine LeO.bind ?_ (fun _ => ?_)
  ·intro y0 y1
   unfold integer_Of.l0
   repeat' first
   | (with_reducible exact ih0 _ _)
   | (with_reducible exact ih1 _ _)
   | (with_reducible exact LeO.refl _)
   | (with_reducible exact LeO.none _)
   | (with_reducible refine LeO.ite ?_ ?_)
   | (with_reducible refine LeO.bind ?_ (fun _ => ?_))
   | exact ih0 _ _
   | exact ih1 _ _
   | exact LeO.none _
   | refine LeO.ite ?_ ?_
   | refine LeO.bind ?_ (fun _ => ?_)
theorem integer_Of.mono : ∀ a0 k, LeO (integer_Of.f k a0) (integer_Of.f (k + 1) a0) := by
 intro a0 k
 obtain ⟨ih0, ih1⟩ := integer_Of.mono_l k
 unfold integer_Of.f
 repeat' first
   | (with_reducible exact ih0 _ _)
   | (with_reducible exact ih1 _ _)
   | (with_reducible exact LeO.refl _)
   | (with_reducible exact LeO.none _)
   | (with_reducible refine LeO.ite ?_ ?_)
   | (with_reducible refine LeO.bind ?_ (fun _ => ?_))
   | exact ih0 _ _
   | exact ih1 _ _
   | exact LeO.none _
   | refine LeO.ite ?_ ?_
   | refine LeO.bind ?_ (fun _ => ?_)
def bits_Len32.f (a0 : Int) : Option Int := if 0 ≤ a0 ∧ a0 ≤ 4294967295 then some (Lib.bitLen a0.toNat : Int) else none
def natural_Bits.f (l0 : List Int) : Option (Int × Int × Int) := (natural_Valid.f l0).bind fun t257 => (if t257 = true then (if (l0.length : Int) = 0 then (some (0, 0, 0)) else (if 0 ≤ (wrap64 ((l0.length : Int) - 1)) then (if (wrap64 ((l0.length : Int) - 1)) < (l0.length : Int) then ((bits_Len32.f (rd l0 (wrap64 ((l0.length : Int) - 1)))).bind fun t259 => (some (wrap64 ((wrap64 (32 * (wrap64 ((l0.length : Int) - 1)))) + t259), 0, 0))) else (none)) else (none))) else ((natural_at.f 6 (-1)).bind fun bt260 => (some (0, bt260.1, bt260.2))))
def integer_Bits.f (k : Nat) (a0_0 : Bool) (l0_1 : List Int) : Option (Int × Int × Int) :=
  (integer_check.f k [(⟨a0_0, l0_1⟩ : S24)]).bind fun f => if f.1 = 0 then natural_Bits.f l0_1 else some (0, f.1, f.2)
theorem integer_Bits.mono : ∀ a0 a1 k, LeO (integer_Bits.f k a0 a1) (integer_Bits.f (k + 1) a0 a1) := by
  intro a0 a1 k
  unfold integer_Bits.f
  exact LeO.bind (integer_check.mono _ _) (fun _ => LeO.refl _)
mutual
def random_source_bits.l0 : Nat → Int → List Int → Int → Int → Option (Bool × List Int × Int × Int)
 | 0, _, _, _, _ => none
 | k + 1, x1, x5, x1000, x1001 => if x1 > 0 then ((random_source_next.f x1000 x1001).bind fun bt263 => (if x1 < 32 then (if 0 ≤ (wrap64 (32 - x1)) then (if x5.length < 35184372088832 then (random_source_bits.l0 k (wrap64 (x1 - 32)) (x5 ++ [shr .u32 ((bt263.1 / 4294967296) % 4294967296) (wrap64 (32 - x1))]) bt263.2.1 bt263.2.2) else (none)) else (none)) else (if x5.length < 35184372088832 then (random_source_bits.l0 k (wrap64 (x1 - 32)) (x5 ++ [(bt263.1 / 4294967296) % 4294967296]) bt263.2.1 bt263.2.2) else (none)))) else (random_source_bits.l1 k x5 x1000 x1001)
def random_source_bits.l1 : Nat → List Int → Int → Int → Option (Bool × List Int × Int × Int)
 | 0, _, _, _ => none
 | k + 1, x5, x1000, x1001 => if (x5.length : Int) > 0 then (if 0 ≤ (wrap64 ((x5.length : Int) - 1)) then (if (wrap64 ((x5.length : Int) - 1)) < (x5.length : Int) then (if (rd x5 (wrap64 ((x5.length : Int) - 1))) = 0 then (if (wrap64 ((x5.length : Int) - 1)) ≤ (x5.length : Int) then (random_source_bits.l1 k (x5.take ((wrap64 ((x5.length : Int) - 1)) : Int).toNat) x1000 x1001) else (none)) else (some (false, x5, x1000, x1001))) else (none)) else (none)) else (some (false, x5, x1000, x1001))
end
def random_source_bits.f (k : Nat) (s0_0 : Int) (s0_1 : Int) (a1 : Int) : Option (Bool × List Int × Int × Int) := random_source_bits.l0 k a1 ([] : List Int) s0_0 s0_1
theorem random_source_bits.mono_l : ∀ k, (∀ y0 y1 y2 y3, LeO (random_source_bits.l0 k y0 y1 y2 y3) (random_source_bits.l0 (k + 1) y0 y1 y2 y3)) ∧ (∀ y0 y1 y2, LeO (random_source_bits.l1 k y0 y1 y2) (random_source_bits.l1 (k + 1) y0 y1 y2))
 | 0 => ⟨fun _ _ _ _ r h => by simp [random_source_bits.l0] at h, fun _ _ _ r h => by simp [random_source_bits.l1] at h⟩
 | k + 1 => by
  obtain ⟨ih0, ih1⟩ := random_source_bits.mono_l k
  refine ⟨?_, ?_⟩
  ·intro y0 y1 y2 y3
   unfold random_source_bits.l0
   repeat' first
   | (with_reducible exact ih0 _ _ _ _)
   | (with_reducible exact ih1 _ _ _)
   | (with_reducible exact LeO.refl _)
   | (with_reducible exact LeO.none _)
   | (with_reducible refine LeO.ite ?_ ?_)
   | (with_reducible refine LeO.bind ?_ (fun _ => ?_))
   | exact ih0 _ _ _ _
   | exact ih1 _ _ _
   | exact LeO.none _
   | refine LeO.ite ?_ ?_
   | refine LeO.bind ?_ (fun _ => ?_)
  ·intro y0 y1 y2
   unfold random_source_bits.l1
   repeat' first
   | (with_reducible exact ih0 _ _ _ _)
   | (with_reducible exact ih1 _ _ _)
   | (with_reducible exact LeO.refl _)
   | (with_reducible exact LeO.none _)
   | (with_reducible refine LeO.ite ?_ ?_)
   | (with_reducible refine LeO.bind ?_ (fun _ => ?_))
   | exact ih0 _ _ _ _
   | exact ih1 _ _ _
   | exact LeO.none _
   | refine LeO.ite ?_ ?_
   | refine LeO.bind ?_ (fun _ => ?_)
theorem random_source_bits.mono : ∀ a0 a1 a2 k, LeO (random_source_bits.f k a0 a1 a2) (random_source_bits.f (k + 1) a0 a1 a2) := by
 intro a0 a1 a2 k
 obtain ⟨ih0, ih1⟩ := random_source_bits.mono_l k
 unfold random_source_bits.f
 repeat' first
   | (with_reducible exact ih0 _ _ _ _)
   | (with_reducible exact ih1 _ _ _)
   | (with_reducible exact LeO.refl _)
   | (with_reducible exact LeO.none _)
   | (with_reducible refine LeO.ite ?_ ?_)
   | (with_reducible refine LeO.bind ?_ (fun _ => ?_))
   | exact ih0 _ _ _ _
   | exact ih1 _ _ _
   | exact LeO.none _
   | refine LeO.ite ?_ ?_
   | refine LeO.bind ?_ (fun _ => ?_)
def random_source_below.l0 : Nat → Int → Int → Int → Bool → List Int → Option (Bool × List Int × Int × Int)
 | 0, _, _, _, _, _ => none
 | k + 1, x7, x1000, x1001, x277000, x277001 => (random_source_bits.f k x1000 x1001 x7).bind fun bt294 => ((integer_Cmp.f k bt294.1 bt294.2.1 x277000 x277001).bind fun bt301 => (if bt301.1 < 0 then (some (bt294.1, bt294.2.1, bt294.2.2.1, bt294.2.2.2)) else (random_source_below.l0 k x7 bt294.2.2.1 bt294.2.2.2 x277000 x277001)))
def random_source_below.f (k : Nat) (s0_0 : Int) (s0_1 : Int) (a1_0 : Bool) (l1_1 : List Int) : Option (Bool × List Int × Int × Int) := (integer_Of.f k 1).bind fun bt278 => ((integer_Sub.f k a1_0 l1_1 bt278.1 bt278.2).bind fun bt282 => ((integer_Bits.f k bt282.1 bt282.2.1).bind fun bt290 => (random_source_below.l0 k bt290.1 s0_0 s0_1 a1_0 l1_1)))
theorem random_source_below.mono_l : ∀ k, (∀ y0 y1 y2 y3 y4, LeO (random_source_below.l0 k y0 y1 y2 y3 y4) (random_source_below.l0 (k + 1) y0 y1 y2 y3 y4))
 | 0 => fun _ _ _ _ _ r h => by simp [random_source_below.l0] at h
 | k + 1 => by
  have ih0 := random_source_below.mono_l k
  ·intro y0 y1 y2 y3 y4
   unfold random_source_below.l0
   repeat' first
   | (with_reducible exact ih0 _ _ _ _ _)
   | (with_reducible exact integer_Bits.mono _ _ _)
   | (with_reducible exact integer_Cmp.mono _ _ _ _ _)
   | (with_reducible exact integer_Of.mono _ _)
   | (with_reducible exact integer_Sub.mono _ _ _ _ _)
   | (with_reducible exact random_source_bits.mono _ _ _ _)
   | (with_reducible exact LeO.refl _)
   | (with_reducible exact LeO.none _)
   | (with_reducible refine LeO.ite ?_ ?_)
   | (with_reducible refine LeO.bind ?_ (fun _ => ?_))
   | exact ih0 _ _ _ _ _
   | exact integer_Bits.mono _ _ _
   | exact integer_Cmp.mono _ _ _ _ _
   | exact integer_Of.mono _ _
   | exact integer_Sub.mono _ _ _ _ _
   | exact random_source_bits.mono _ _ _ _
   | exact LeO.none _
   | refine LeO.ite ?_ ?_
   | refine LeO.bind ?_ (fun _ => ?_)
theorem random_source_below.mono : ∀ a0 a1 a2 a3 k, LeO (random_source_below.f k a0 a1 a2 a3) (random_source_below.f (k + 1) a0 a1 a2 a3) := by
 intro a0 a1 a2 a3 k
 have ih0 := random_source_below.mono_l k
 unfold random_source_below.f
 repeat' first
   | (with_reducible exact ih0 _ _ _ _ _)
   | (with_reducible exact integer_Bits.mono _ _ _)
   | (with_reducible exact integer_Cmp.mono _ _ _ _ _)
   | (with_reducible exact integer_Of.mono _ _)
   | (with_reducible exact integer_Sub.mono _ _ _ _ _)
   | (with_reducible exact random_source_bits.mono _ _ _ _)
   | (with_reducible exact LeO.refl _)
   | (with_reducible exact LeO.none _)
   | (with_reducible refine LeO.ite ?_ ?_)
   | (with_reducible refine LeO.bind ?_ (fun _ => ?_))
   | exact ih0 _ _ _ _ _
   | exact integer_Bits.mono _ _ _
   | exact integer_Cmp.mono _ _ _ _ _
   | exact integer_Of.mono _ _
   | exact integer_Sub.mono _ _ _ _ _
   | exact random_source_bits.mono _ _ _ _
   | exact LeO.none _
   | refine LeO.ite ?_ ?_
   | refine LeO.bind ?_ (fun _ => ?_)
def random_source_below.T1 : Bool × List (List Nat × List Nat) := (true, [([], []), ([], []), ([0, 1, 1], [0, 1]), ([2], [2]), ([3], [3]), ([3], [3]), ([], []), ([], []), ([6, 4, 2, 0, 1, 2, 3, 4, 6, 7], [4, 6]), ([7, 5, 8, 0, 1, 2, 3, 4, 5, 6, 7, 8], [5, 7])])
def random_source_below.B1 : List Nat := [0, 0, 3, 7, 15, 15, 0, 0, 223, 511]
def random_Below.j0 : Nat → Bool → Bool → List Int → Int → Int → Option (Bool × List Int × Int × Int × Int × Int)
 | 0, _, _, _, _, _ => none
 | k + 1, x29, x307000, x307001, x314000, x314001 => if x29 = true then ((random_at.f 4 (-2)).bind fun bt316 => (some (false, ([] : List Int), 0, 0, bt316.1, bt316.2))) else ((random_source_below.f k x314000 x314001 x307000 x307001).bind fun bt318 => (some (bt318.1, bt318.2.1, bt318.2.2.1, bt318.2.2.2, 0, 0)))
def random_Below.f (k : Nat) (a0_0 : Int) (a0_1 : Int) (a1_0 : Bool) (l1_1 : List Int) : Option (Bool × List Int × Int × Int × Int × Int) := if a0_1 % 2 = 0 then ((random_open_no.f a0_0 a0_1).bind fun _ => (some (false, ([] : List Int), 0, 0, 6, (-1)))) else ((random_open_ok.f a0_0 a0_1).bind fun bt311 => ((integer_Valid.f a1_0 l1_1).bind fun t315 => (if t315 = true then (if a1_0 = true then (random_Below.j0 k true a1_0 l1_1 bt311.1 bt311.2) else (random_Below.j0 k ((l1_1.length : Int) == 0) a1_0 l1_1 bt311.1 bt311.2)) else ((random_at.f 6 (-2)).bind fun bt325 => (some (false, ([] : List Int), 0, 0, bt325.1, bt325.2))))))
theorem random_Below.mono_l : ∀ k, (∀ y0 y1 y2 y3 y4, LeO (random_Below.j0 k y0 y1 y2 y3 y4) (random_Below.j0 (k + 1) y0 y1 y2 y3 y4))
 | 0 => fun _ _ _ _ _ r h => by simp [random_Below.j0] at h
 | k + 1 => by
  have ih0 := random_Below.mono_l k
  ·intro y0 y1 y2 y3 y4
   unfold random_Below.j0
   repeat' first
   | (with_reducible exact ih0 _ _ _ _ _)
   | (with_reducible exact random_source_below.mono _ _ _ _ _)
   | (with_reducible exact LeO.refl _)
   | (with_reducible exact LeO.none _)
   | (with_reducible refine LeO.ite ?_ ?_)
   | (with_reducible refine LeO.bind ?_ (fun _ => ?_))
   | exact ih0 _ _ _ _ _
   | exact random_source_below.mono _ _ _ _ _
   | exact LeO.none _
   | refine LeO.ite ?_ ?_
   | refine LeO.bind ?_ (fun _ => ?_)
theorem random_Below.mono : ∀ a0 a1 a2 a3 k, LeO (random_Below.f k a0 a1 a2 a3) (random_Below.f (k + 1) a0 a1 a2 a3) := by
 intro a0 a1 a2 a3 k
 have ih0 := random_Below.mono_l k
 unfold random_Below.f
 repeat' first
   | (with_reducible exact ih0 _ _ _ _ _)
   | (with_reducible exact random_source_below.mono _ _ _ _ _)
   | (with_reducible exact LeO.refl _)
   | (with_reducible exact LeO.none _)
   | (with_reducible refine LeO.ite ?_ ?_)
   | (with_reducible refine LeO.bind ?_ (fun _ => ?_))
   | exact ih0 _ _ _ _ _
   | exact random_source_below.mono _ _ _ _ _
   | exact LeO.none _
   | refine LeO.ite ?_ ?_
   | refine LeO.bind ?_ (fun _ => ?_)
def random_Below.T9 : Bool × List (List Nat × List Nat) := (true, [([], []), ([], []), ([1], [1]), ([2], [2]), ([3], [3]), ([], []), ([0, 0], [0]), ([4, 6, 0, 1, 2, 3, 4, 6], [4]), ([5, 7, 0, 1, 2, 3, 4, 5, 6, 7], [5])])
def random_Below.B9 : List Nat := [0, 0, 2, 6, 14, 0, 1, 95, 255]
def brindlewoodref3_NoInt.f (a0_0 : Bool) (l0_1 : List Int) : Option (Bool) := if a0_0 = true then (some false) else (some ((l0_1.length : Int) == 0))
def brindlewoodlaw4_whole.f (k : Nat) (a0 : Int) : Option (Int × Bool × List Int × Bool × List Int × ByteArray × Int) := (integer_Of.f k a0).bind fun bt329 => (some (2, bt329.1, bt329.2, false, ([] : List Int), (⟨#[]⟩ : ByteArray), 0))
theorem brindlewoodlaw4_whole.mono : ∀ a0 k, LeO (brindlewoodlaw4_whole.f k a0) (brindlewoodlaw4_whole.f (k + 1) a0) := by
 intro a0 k
 unfold brindlewoodlaw4_whole.f
 repeat' first
   | (with_reducible exact integer_Of.mono _ _)
   | (with_reducible exact LeO.refl _)
   | (with_reducible exact LeO.none _)
   | (with_reducible refine LeO.ite ?_ ?_)
   | (with_reducible refine LeO.bind ?_ (fun _ => ?_))
   | exact integer_Of.mono _ _
   | exact LeO.none _
   | refine LeO.ite ?_ ?_
   | refine LeO.bind ?_ (fun _ => ?_)
def brindlewoodlaw4_draws.f (k : Nat)  : Option (Bool) := (brindlewoodlaw4_whole.f k 0).bind fun bt333 => ((random_Seed.f k bt333.2.1 bt333.2.2.1).bind fun bt344 => ((random_Next.f bt344.1 bt344.2.1).bind fun bt350 => ((brindlewoodlaw4_whole.f k 1).bind fun bt357 => ((random_Below.f k bt344.1 bt344.2.1 bt357.2.1 bt357.2.2.1).bind fun bt368 => ((brindlewoodlaw4_whole.f k 0).bind fun bt379 => ((brindlewoodref4_Seeded.f k bt379.2.1 bt379.2.2.1).bind fun bt390 => ((brindlewoodref4_Random_Draw.f bt390.1 bt390.2).bind fun bt393 => (if bt344.2.2.1 = 0 then (if bt350.2.2.2.1 = 0 then (if bt368.2.2.2.2.1 = 0 then (if bt344.1 = 0 then (if bt350.1 = bt393.1 then (if (bt350.2.1 == bt393.2.1 && (bt350.2.2.1 == bt393.2.2)) = true then ((brindlewoodref3_NoInt.f bt368.1 bt368.2.1).bind fun t396 => (if t396 = true then (some (bt368.2.2.1 == bt344.1 && (bt368.2.2.2.1 == bt344.2.1))) else (none))) else (none)) else (none)) else (none)) else (none)) else (none)) else (none)))))))))
theorem brindlewoodlaw4_draws.mono : ∀ k, LeO (brindlewoodlaw4_draws.f k ) (brindlewoodlaw4_draws.f (k + 1) ) := by
 intro  k
 unfold brindlewoodlaw4_draws.f
 repeat' first
   | (with_reducible exact brindlewoodlaw4_whole.mono _ _)
   | (with_reducible exact brindlewoodref4_Seeded.mono _ _ _)
   | (with_reducible exact random_Below.mono _ _ _ _ _)
   | (with_reducible exact random_Seed.mono _ _ _)
   | (with_reducible exact LeO.refl _)
   | (with_reducible exact LeO.none _)
   | (with_reducible refine LeO.ite ?_ ?_)
   | (with_reducible refine LeO.bind ?_ (fun _ => ?_))
   | exact brindlewoodlaw4_whole.mono _ _
   | exact brindlewoodref4_Seeded.mono _ _ _
   | exact random_Below.mono _ _ _ _ _
   | exact random_Seed.mono _ _ _
   | exact LeO.none _
   | refine LeO.ite ?_ ?_
   | refine LeO.bind ?_ (fun _ => ?_)
def brindlewoodlaw4_draws.T3 : Bool × List (List Nat × List Nat) := (true, [([], []), ([], []), ([1], [1]), ([0, 2, 1], [0, 2]), ([3], [3]), ([4], [4]), ([4], [4]), ([4], [4]), ([], []), ([], []), ([], []), ([8, 5, 3, 0, 1, 2, 3, 4, 5, 8, 9, 10], [5, 8]), ([9, 6, 11, 0, 1, 2, 3, 4, 5, 6, 8, 9, 10, 11], [6, 9]), ([10, 7, 12, 0, 1, 2, 3, 4, 5, 6, 7, 8, 9, 10, 11, 12], [7, 10])])
def brindlewoodlaw4_draws.B3 : List Nat := [0, 0, 2, 7, 15, 31, 31, 31, 0, 0, 0, 1855, 3967, 8191]
def brindlewoodref3_IntOk.f (a0_0 : Bool) (l0_1 : List Int) : Option (Bool) := if (l0_1.length : Int) ≤ 128 then (if (l0_1.length : Int) = 0 then (if a0_0 = true then (if (l0_1.length : Int) > 0 then (if 0 ≤ (wrap64 ((l0_1.length : Int) - 1)) then (if (wrap64 ((l0_1.length : Int) - 1)) < (l0_1.length : Int) then (some ((rd l0_1 (wrap64 ((l0_1.length : Int) - 1))) != 0)) else (none)) else (none)) else (some false)) else (some true)) else (if (l0_1.length : Int) > 0 then (if 0 ≤ (wrap64 ((l0_1.length : Int) - 1)) then (if (wrap64 ((l0_1.length : Int) - 1)) < (l0_1.length : Int) then (some ((rd l0_1 (wrap64 ((l0_1.length : Int) - 1))) != 0)) else (none)) else (none)) else (some false))) else (some false)
def brindlewoodref4_At.f (a0 : Int) (a1 : Int) : Option (Int × Int) := some (a0, a1)
def integer_Add.f (k : Nat) (a0_0 : Bool) (l0_1 : List Int) (a1_0 : Bool) (l1_1 : List Int) : Option (Bool × List Int × Int × Int) :=
  (integer_check.f k [(⟨a0_0, l0_1⟩ : S24), (⟨a1_0, l1_1⟩ : S24)]).bind fun f => if f.1 = 0 then integer_plus.f k a0_0 l0_1 a1_0 l1_1 else some (false, [], f.1, f.2)
theorem integer_Add.mono : ∀ a0 a1 a2 a3 k, LeO (integer_Add.f k a0 a1 a2 a3) (integer_Add.f (k + 1) a0 a1 a2 a3) := by
  intro a0 a1 a2 a3 k
  unfold integer_Add.f
  exact LeO.bind (integer_check.mono _ _) (fun _ => LeO.ite (integer_plus.mono _ _ _ _ _) (LeO.refl _))
def random_Between.j0 : Nat → Bool → List Int → Int → Int → Int → Int → Bool → List Int → Option (Bool × List Int × Int × Int × Int × Int)
 | 0, _, _, _, _, _, _, _, _ => none
 | k + 1, x471000, x471001, x479000, x479001, x480000, x480001, x499000, x499001 => if x480000 = 0 then ((random_source_below.f k x479000 x479001 x499000 x499001).bind fun bt509 => ((integer_Add.f k x471000 x471001 bt509.1 bt509.2.1).bind fun bt515 => (some (bt515.1, bt515.2.1, bt509.2.2.1, bt509.2.2.2, 0, 0)))) else ((random_at.f 14 (-3)).bind fun bt523 => (some (false, ([] : List Int), 0, 0, bt523.1, bt523.2)))
def random_Between.f (k : Nat) (a0_0 : Int) (a0_1 : Int) (a1_0 : Bool) (l1_1 : List Int) (a2_0 : Bool) (l2_1 : List Int) : Option (Bool × List Int × Int × Int × Int × Int) := if a0_1 % 2 = 0 then ((random_open_no.f a0_0 a0_1).bind fun _ => (some (false, ([] : List Int), 0, 0, 6, (-1)))) else ((random_open_ok.f a0_0 a0_1).bind fun bt476 => ((integer_Valid.f a1_0 l1_1).bind fun t480 => (if t480 = true then ((integer_Valid.f a2_0 l2_1).bind fun t481 => (if t481 = true then ((integer_Cmp.f k a2_0 l2_1 a1_0 l1_1).bind fun bt486 => (if bt486.1 < 0 then ((random_at.f 4 (-3)).bind fun bt490 => (some (false, ([] : List Int), 0, 0, bt490.1, bt490.2))) else ((integer_Sub.f k a2_0 l2_1 a1_0 l1_1).bind fun bt492 => (if bt492.2.2.1 = 0 then ((integer_Of.f k 1).bind fun bt499 => ((integer_Add.f k bt492.1 bt492.2.1 bt499.1 bt499.2).bind fun bt503 => (random_Between.j0 k a1_0 l1_1 bt476.1 bt476.2 bt503.2.2.1 bt503.2.2.2 bt503.1 bt503.2.1))) else (random_Between.j0 k a1_0 l1_1 bt476.1 bt476.2 bt492.2.2.1 bt492.2.2.2 bt492.1 bt492.2.1))))) else ((random_at.f 6 (-3)).bind fun bt482 => (some (false, ([] : List Int), 0, 0, bt482.1, bt482.2))))) else ((random_at.f 6 (-2)).bind fun bt484 => (some (false, ([] : List Int), 0, 0, bt484.1, bt484.2))))))
theorem random_Between.mono_l : ∀ k, (∀ y0 y1 y2 y3 y4 y5 y6 y7, LeO (random_Between.j0 k y0 y1 y2 y3 y4 y5 y6 y7) (random_Between.j0 (k + 1) y0 y1 y2 y3 y4 y5 y6 y7))
 | 0 => fun _ _ _ _ _ _ _ _ r h => by simp [random_Between.j0] at h
 | k + 1 => by
  have ih0 := random_Between.mono_l k
  ·intro y0 y1 y2 y3 y4 y5 y6 y7
   unfold random_Between.j0
   repeat' first
   | (with_reducible exact ih0 _ _ _ _ _ _ _ _)
   | (with_reducible exact integer_Add.mono _ _ _ _ _)
   | (with_reducible exact integer_Cmp.mono _ _ _ _ _)
   | (with_reducible exact integer_Of.mono _ _)
   | (with_reducible exact integer_Sub.mono _ _ _ _ _)
   | (with_reducible exact random_source_below.mono _ _ _ _ _)
   | (with_reducible exact LeO.refl _)
   | (with_reducible exact LeO.none _)
   | (with_reducible refine LeO.ite ?_ ?_)
   | (with_reducible refine LeO.bind ?_ (fun _ => ?_))
   | exact ih0 _ _ _ _ _ _ _ _
   | exact integer_Add.mono _ _ _ _ _
   | exact integer_Cmp.mono _ _ _ _ _
   | exact integer_Of.mono _ _
   | exact integer_Sub.mono _ _ _ _ _
   | exact random_source_below.mono _ _ _ _ _
   | exact LeO.none _
   | refine LeO.ite ?_ ?_
   | refine LeO.bind ?_ (fun _ => ?_)
theorem random_Between.mono : ∀ a0 a1 a2 a3 a4 a5 k, LeO (random_Between.f k a0 a1 a2 a3 a4 a5) (random_Between.f (k + 1) a0 a1 a2 a3 a4 a5) := by
 intro a0 a1 a2 a3 a4 a5 k
 have ih0 := random_Between.mono_l k
 unfold random_Between.f
 repeat' first
   | (with_reducible exact ih0 _ _ _ _ _ _ _ _)
   | (with_reducible exact integer_Add.mono _ _ _ _ _)
   | (with_reducible exact integer_Cmp.mono _ _ _ _ _)
   | (with_reducible exact integer_Of.mono _ _)
   | (with_reducible exact integer_Sub.mono _ _ _ _ _)
   | (with_reducible exact random_source_below.mono _ _ _ _ _)
   | (with_reducible exact LeO.refl _)
   | (with_reducible exact LeO.none _)
   | (with_reducible refine LeO.ite ?_ ?_)
   | (with_reducible refine LeO.bind ?_ (fun _ => ?_))
   | exact ih0 _ _ _ _ _ _ _ _
   | exact integer_Add.mono _ _ _ _ _
   | exact integer_Cmp.mono _ _ _ _ _
   | exact integer_Of.mono _ _
   | exact integer_Sub.mono _ _ _ _ _
   | exact random_source_below.mono _ _ _ _ _
   | exact LeO.none _
   | refine LeO.ite ?_ ?_
   | refine LeO.bind ?_ (fun _ => ?_)
def random_Between.T13 : Bool × List (List Nat × List Nat) := (true, [([], []), ([], []), ([0, 1, 1], [0, 1]), ([2], [2]), ([3], [3]), ([3], [3]), ([4, 2, 0, 1, 2, 3, 4], [4]), ([5, 6, 0, 1, 2, 3, 4, 5, 6], [5])])
def random_Between.B13 : List Nat := [0, 0, 3, 7, 15, 15, 31, 127]
def random_Between.T16 : Bool × List (List Nat × List Nat) := (true, [([], []), ([], []), ([], []), ([1, 2], [1, 2]), ([0, 3, 3], [0, 3]), ([4], [4]), ([5], [5]), ([5], [5]), ([], []), ([], []), ([8, 6, 4, 0, 1, 2, 3, 4, 5, 6, 8, 9], [6, 8]), ([9, 7, 10, 0, 1, 2, 3, 4, 5, 6, 7, 8, 9, 10], [7, 9])])
def random_Between.B16 : List Nat := [0, 0, 0, 6, 15, 31, 63, 63, 0, 0, 895, 2047]
def random_Between.T17 : Bool × List (List Nat × List Nat) := (true, [([], []), ([], []), ([1], [1]), ([2], [2]), ([3], [3]), ([], []), ([0, 0], [0]), ([4, 6, 0, 1, 2, 3, 4, 6], [4]), ([5, 7, 0, 1, 2, 3, 4, 5, 6, 7], [5])])
def random_Between.B17 : List Nat := [0, 0, 2, 6, 14, 0, 1, 95, 255]
def brindlewoodref3_Compare.l0 : Nat → List Int → List Int → Int → Option (Int)
 | 0, _, _, _ => none
 | k + 1, x0, x1, x5 => if x5 ≥ 0 then (if 0 ≤ x5 then (if x5 < (x0.length : Int) then (if x5 < (x1.length : Int) then (if (rd x0 x5) < (rd x1 x5) then (some (-1)) else (if (rd x0 x5) > (rd x1 x5) then (some 1) else (brindlewoodref3_Compare.l0 k x0 x1 (wrap64 (x5 - 1))))) else (none)) else (none)) else (none)) else (some 0)
def brindlewoodref3_Compare.f (k : Nat) (l0 : List Int) (l1 : List Int) : Option (Int) := if (l0.length : Int) = (l1.length : Int) then (brindlewoodref3_Compare.l0 k l0 l1 (wrap64 ((l0.length : Int) - 1))) else (if (l0.length : Int) < (l1.length : Int) then (some (-1)) else (some 1))
theorem brindlewoodref3_Compare.mono_l : ∀ k, (∀ y0 y1 y2, LeO (brindlewoodref3_Compare.l0 k y0 y1 y2) (brindlewoodref3_Compare.l0 (k + 1) y0 y1 y2))
 | 0 => fun _ _ _ r h => by simp [brindlewoodref3_Compare.l0] at h
 | k + 1 => by
  have ih0 := brindlewoodref3_Compare.mono_l k
  ·intro y0 y1 y2
   unfold brindlewoodref3_Compare.l0
   repeat' first
   | (with_reducible exact ih0 _ _ _)
   | (with_reducible exact LeO.refl _)
   | (with_reducible exact LeO.none _)
   | (with_reducible refine LeO.ite ?_ ?_)
   | (with_reducible refine LeO.bind ?_ (fun _ => ?_))
   | exact ih0 _ _ _
   | exact LeO.none _
   | refine LeO.ite ?_ ?_
   | refine LeO.bind ?_ (fun _ => ?_)
theorem brindlewoodref3_Compare.mono : ∀ a0 a1 k, LeO (brindlewoodref3_Compare.f k a0 a1) (brindlewoodref3_Compare.f (k + 1) a0 a1) := by
 intro a0 a1 k
 have ih0 := brindlewoodref3_Compare.mono_l k
 unfold brindlewoodref3_Compare.f
 repeat' first
   | (with_reducible exact ih0 _ _ _)
   | (with_reducible exact LeO.refl _)
   | (with_reducible exact LeO.none _)
   | (with_reducible refine LeO.ite ?_ ?_)
   | (with_reducible refine LeO.bind ?_ (fun _ => ?_))
   | exact ih0 _ _ _
   | exact LeO.none _
   | refine LeO.ite ?_ ?_
   | refine LeO.bind ?_ (fun _ => ?_)
mutual
def brindlewoodref3_Int_Order.j0 : Nat → Bool → Bool → Bool → List Int → Bool → List Int → Option (Int)
 | 0, _, _, _, _, _, _ => none
 | k + 1, x5, x6, x530000, x530001, x531000, x531001 => if x5 = true then (brindlewoodref3_Int_Order.j1 k x5 x6 x6 x530000 x530001 x531000 x531001) else (brindlewoodref3_Int_Order.j1 k x5 x6 false x530000 x530001 x531000 x531001)
def brindlewoodref3_Int_Order.j1 : Nat → Bool → Bool → Bool → Bool → List Int → Bool → List Int → Option (Int)
 | 0, _, _, _, _, _, _, _ => none
 | k + 1, x5, x6, x23, x530000, x530001, x531000, x531001 => if x23 = true then ((brindlewoodref3_Compare.f k x531001 x530001).bind fun t531 => (some t531)) else (if x5 = true then (some (-1)) else (if x6 = true then (some 1) else ((brindlewoodref3_Compare.f k x530001 x531001).bind fun t532 => (some t532))))
end
def brindlewoodref3_Int_Order.f (k : Nat) (a0_0 : Bool) (l0_1 : List Int) (a1_0 : Bool) (l1_1 : List Int) : Option (Int) := if a0_0 = true then (if a1_0 = true then (brindlewoodref3_Int_Order.j0 k (decide (0 < l0_1.length)) (decide (0 < l1_1.length)) a0_0 l0_1 a1_0 l1_1) else (brindlewoodref3_Int_Order.j0 k (decide (0 < l0_1.length)) false a0_0 l0_1 a1_0 l1_1)) else (if a1_0 = true then (brindlewoodref3_Int_Order.j0 k false (decide (0 < l1_1.length)) a0_0 l0_1 a1_0 l1_1) else (brindlewoodref3_Int_Order.j0 k false false a0_0 l0_1 a1_0 l1_1))
theorem brindlewoodref3_Int_Order.mono_l : ∀ k, (∀ y0 y1 y2 y3 y4 y5, LeO (brindlewoodref3_Int_Order.j0 k y0 y1 y2 y3 y4 y5) (brindlewoodref3_Int_Order.j0 (k + 1) y0 y1 y2 y3 y4 y5)) ∧ (∀ y0 y1 y2 y3 y4 y5 y6, LeO (brindlewoodref3_Int_Order.j1 k y0 y1 y2 y3 y4 y5 y6) (brindlewoodref3_Int_Order.j1 (k + 1) y0 y1 y2 y3 y4 y5 y6))
 | 0 => ⟨fun _ _ _ _ _ _ r h => by simp [brindlewoodref3_Int_Order.j0] at h, fun _ _ _ _ _ _ _ r h => by simp [brindlewoodref3_Int_Order.j1] at h⟩
 | k + 1 => by
  obtain ⟨ih0, ih1⟩ := brindlewoodref3_Int_Order.mono_l k
  refine ⟨?_, ?_⟩
  ·intro y0 y1 y2 y3 y4 y5
   unfold brindlewoodref3_Int_Order.j0
   repeat' first
   | (with_reducible exact ih0 _ _ _ _ _ _)
   | (with_reducible exact ih1 _ _ _ _ _ _ _)
   | (with_reducible exact brindlewoodref3_Compare.mono _ _ _)
   | (with_reducible exact LeO.refl _)
   | (with_reducible exact LeO.none _)
   | (with_reducible refine LeO.ite ?_ ?_)
   | (with_reducible refine LeO.bind ?_ (fun _ => ?_))
   | exact ih0 _ _ _ _ _ _
   | exact ih1 _ _ _ _ _ _ _
   | exact brindlewoodref3_Compare.mono _ _ _
   | exact LeO.none _
   | refine LeO.ite ?_ ?_
   | refine LeO.bind ?_ (fun _ => ?_)
  ·intro y0 y1 y2 y3 y4 y5 y6
   unfold brindlewoodref3_Int_Order.j1
   repeat' first
   | (with_reducible exact ih0 _ _ _ _ _ _)
   | (with_reducible exact ih1 _ _ _ _ _ _ _)
   | (with_reducible exact brindlewoodref3_Compare.mono _ _ _)
   | (with_reducible exact LeO.refl _)
   | (with_reducible exact LeO.none _)
   | (with_reducible refine LeO.ite ?_ ?_)
   | (with_reducible refine LeO.bind ?_ (fun _ => ?_))
   | exact ih0 _ _ _ _ _ _
   | exact ih1 _ _ _ _ _ _ _
   | exact brindlewoodref3_Compare.mono _ _ _
   | exact LeO.none _
   | refine LeO.ite ?_ ?_
   | refine LeO.bind ?_ (fun _ => ?_)
theorem brindlewoodref3_Int_Order.mono : ∀ a0 a1 a2 a3 k, LeO (brindlewoodref3_Int_Order.f k a0 a1 a2 a3) (brindlewoodref3_Int_Order.f (k + 1) a0 a1 a2 a3) := by
 intro a0 a1 a2 a3 k
 obtain ⟨ih0, ih1⟩ := brindlewoodref3_Int_Order.mono_l k
 unfold brindlewoodref3_Int_Order.f
 repeat' first
   | (with_reducible exact ih0 _ _ _ _ _ _)
   | (with_reducible exact ih1 _ _ _ _ _ _ _)
   | (with_reducible exact brindlewoodref3_Compare.mono _ _ _)
   | (with_reducible exact LeO.refl _)
   | (with_reducible exact LeO.none _)
   | (with_reducible refine LeO.ite ?_ ?_)
   | (with_reducible refine LeO.bind ?_ (fun _ => ?_))
   | exact ih0 _ _ _ _ _ _
   | exact ih1 _ _ _ _ _ _ _
   | exact brindlewoodref3_Compare.mono _ _ _
   | exact LeO.none _
   | refine LeO.ite ?_ ?_
   | refine LeO.bind ?_ (fun _ => ?_)
def brindlewoodref3_trim.l0 : Nat → List Int → Option (List Int)
 | 0, _ => none
 | k + 1, x0 => if (x0.length : Int) > 0 then (if 0 ≤ (wrap64 ((x0.length : Int) - 1)) then (if (wrap64 ((x0.length : Int) - 1)) < (x0.length : Int) then (if (rd x0 (wrap64 ((x0.length : Int) - 1))) = 0 then (if (wrap64 ((x0.length : Int) - 1)) ≤ (x0.length : Int) then (brindlewoodref3_trim.l0 k (x0.take ((wrap64 ((x0.length : Int) - 1)) : Int).toNat)) else (none)) else (some x0)) else (none)) else (none)) else (some x0)
def brindlewoodref3_trim.f (k : Nat) (l0 : List Int) : Option (List Int) := brindlewoodref3_trim.l0 k l0
theorem brindlewoodref3_trim.mono_l : ∀ k, (∀ y0, LeO (brindlewoodref3_trim.l0 k y0) (brindlewoodref3_trim.l0 (k + 1) y0))
 | 0 => fun _ r h => by simp [brindlewoodref3_trim.l0] at h
 | k + 1 => by
  have ih0 := brindlewoodref3_trim.mono_l k
  ·intro y0
   unfold brindlewoodref3_trim.l0
   repeat' first
   | (with_reducible exact ih0 _)
   | (with_reducible exact LeO.refl _)
   | (with_reducible exact LeO.none _)
   | (with_reducible refine LeO.ite ?_ ?_)
   | (with_reducible refine LeO.bind ?_ (fun _ => ?_))
   | exact ih0 _
   | exact LeO.none _
   | refine LeO.ite ?_ ?_
   | refine LeO.bind ?_ (fun _ => ?_)
theorem brindlewoodref3_trim.mono : ∀ a0 k, LeO (brindlewoodref3_trim.f k a0) (brindlewoodref3_trim.f (k + 1) a0) := by
 intro a0 k
 have ih0 := brindlewoodref3_trim.mono_l k
 unfold brindlewoodref3_trim.f
 repeat' first
   | (with_reducible exact ih0 _)
   | (with_reducible exact LeO.refl _)
   | (with_reducible exact LeO.none _)
   | (with_reducible refine LeO.ite ?_ ?_)
   | (with_reducible refine LeO.bind ?_ (fun _ => ?_))
   | exact ih0 _
   | exact LeO.none _
   | refine LeO.ite ?_ ?_
   | refine LeO.bind ?_ (fun _ => ?_)
mutual
def brindlewoodref3_Plus.l0 : Nat → List Int → List Int → List Int → Int → Int → Option (List Int)
 | 0, _, _, _, _, _ => none
 | k + 1, x0, x1, x5, x6, x7 => if x7 < (x0.length : Int) then (brindlewoodref3_Plus.j1 k x0 x1 x5 x6 x7 true) else (if x7 < (x1.length : Int) then (brindlewoodref3_Plus.j1 k x0 x1 x5 x6 x7 true) else (brindlewoodref3_Plus.j1 k x0 x1 x5 x6 x7 (decide (x6 > 0))))
def brindlewoodref3_Plus.j1 : Nat → List Int → List Int → List Int → Int → Int → Bool → Option (List Int)
 | 0, _, _, _, _, _, _ => none
 | k + 1, x0, x1, x5, x6, x7, x21 => if x21 = true then (if x7 < (x0.length : Int) then (if 0 ≤ x7 then (if x7 < (x1.length : Int) then (if x5.length < 17592186044416 then (brindlewoodref3_Plus.l0 k x0 x1 (x5 ++ [Int.tmod (wrap64 ((wrap64 (x6 + (rd x0 x7))) + (rd x1 x7))) 65536]) (wrap64 (Int.tdiv (wrap64 ((wrap64 (x6 + (rd x0 x7))) + (rd x1 x7))) 65536)) (wrap64 (x7 + 1))) else (none)) else (if x5.length < 17592186044416 then (brindlewoodref3_Plus.l0 k x0 x1 (x5 ++ [Int.tmod (wrap64 (x6 + (rd x0 x7))) 65536]) (wrap64 (Int.tdiv (wrap64 (x6 + (rd x0 x7))) 65536)) (wrap64 (x7 + 1))) else (none))) else (none)) else (if x7 < (x1.length : Int) then (if 0 ≤ x7 then (if x5.length < 17592186044416 then (brindlewoodref3_Plus.l0 k x0 x1 (x5 ++ [Int.tmod (wrap64 (x6 + (rd x1 x7))) 65536]) (wrap64 (Int.tdiv (wrap64 (x6 + (rd x1 x7))) 65536)) (wrap64 (x7 + 1))) else (none)) else (none)) else (if x5.length < 17592186044416 then (brindlewoodref3_Plus.l0 k x0 x1 (x5 ++ [Int.tmod x6 65536]) (wrap64 (Int.tdiv x6 65536)) (wrap64 (x7 + 1))) else (none)))) else ((brindlewoodref3_trim.f k x5).bind fun t539 => (some t539))
end
def brindlewoodref3_Plus.f (k : Nat) (l0 : List Int) (l1 : List Int) : Option (List Int) := brindlewoodref3_Plus.l0 k l0 l1 ([] : List Int) 0 0
theorem brindlewoodref3_Plus.mono_l : ∀ k, (∀ y0 y1 y2 y3 y4, LeO (brindlewoodref3_Plus.l0 k y0 y1 y2 y3 y4) (brindlewoodref3_Plus.l0 (k + 1) y0 y1 y2 y3 y4)) ∧ (∀ y0 y1 y2 y3 y4 y5, LeO (brindlewoodref3_Plus.j1 k y0 y1 y2 y3 y4 y5) (brindlewoodref3_Plus.j1 (k + 1) y0 y1 y2 y3 y4 y5))
 | 0 => ⟨fun _ _ _ _ _ r h => by simp [brindlewoodref3_Plus.l0] at h, fun _ _ _ _ _ _ r h => by simp [brindlewoodref3_Plus.j1] at h⟩
 | k + 1 => by
  obtain ⟨ih0, ih1⟩ := brindlewoodref3_Plus.mono_l k
  refine ⟨?_, ?_⟩
  ·intro y0 y1 y2 y3 y4
   unfold brindlewoodref3_Plus.l0
   repeat' first
   | (with_reducible exact ih0 _ _ _ _ _)
   | (with_reducible exact ih1 _ _ _ _ _ _)
   | (with_reducible exact brindlewoodref3_trim.mono _ _)
   | (with_reducible exact LeO.refl _)
   | (with_reducible exact LeO.none _)
   | (with_reducible refine LeO.ite ?_ ?_)
   | (with_reducible refine LeO.bind ?_ (fun _ => ?_))
   | exact ih0 _ _ _ _ _
   | exact ih1 _ _ _ _ _ _
   | exact brindlewoodref3_trim.mono _ _
   | exact LeO.none _
   | refine LeO.ite ?_ ?_
   | refine LeO.bind ?_ (fun _ => ?_)
  ·intro y0 y1 y2 y3 y4 y5
   unfold brindlewoodref3_Plus.j1
   repeat' first
   | (with_reducible exact ih0 _ _ _ _ _)
   | (with_reducible exact ih1 _ _ _ _ _ _)
   | (with_reducible exact brindlewoodref3_trim.mono _ _)
   | (with_reducible exact LeO.refl _)
   | (with_reducible exact LeO.none _)
   | (with_reducible refine LeO.ite ?_ ?_)
   | (with_reducible refine LeO.bind ?_ (fun _ => ?_))
   | exact ih0 _ _ _ _ _
   | exact ih1 _ _ _ _ _ _
   | exact brindlewoodref3_trim.mono _ _
   | exact LeO.none _
   | refine LeO.ite ?_ ?_
   | refine LeO.bind ?_ (fun _ => ?_)
theorem brindlewoodref3_Plus.mono : ∀ a0 a1 k, LeO (brindlewoodref3_Plus.f k a0 a1) (brindlewoodref3_Plus.f (k + 1) a0 a1) := by
 intro a0 a1 k
 obtain ⟨ih0, ih1⟩ := brindlewoodref3_Plus.mono_l k
 unfold brindlewoodref3_Plus.f
 repeat' first
   | (with_reducible exact ih0 _ _ _ _ _)
   | (with_reducible exact ih1 _ _ _ _ _ _)
   | (with_reducible exact brindlewoodref3_trim.mono _ _)
   | (with_reducible exact LeO.refl _)
   | (with_reducible exact LeO.none _)
   | (with_reducible refine LeO.ite ?_ ?_)
   | (with_reducible refine LeO.bind ?_ (fun _ => ?_))
   | exact ih0 _ _ _ _ _
   | exact ih1 _ _ _ _ _ _
   | exact brindlewoodref3_trim.mono _ _
   | exact LeO.none _
   | refine LeO.ite ?_ ?_
   | refine LeO.bind ?_ (fun _ => ?_)
def brindlewoodref3_Minus.l0 : Nat → List Int → List Int → List Int → Int → Int → Option (List Int)
 | 0, _, _, _, _, _ => none
 | k + 1, x0, x1, x5, x6, x7 => if x7 < (x0.length : Int) then (if 0 ≤ x7 then (if x7 < (x1.length : Int) then (if (wrap64 ((wrap64 ((rd x0 x7) - x6)) - (rd x1 x7))) < 0 then (if x5.length < 17592186044416 then (brindlewoodref3_Minus.l0 k x0 x1 (x5 ++ [wrap64 ((wrap64 ((wrap64 ((rd x0 x7) - x6)) - (rd x1 x7))) + 65536)]) 1 (wrap64 (x7 + 1))) else (none)) else (if x5.length < 17592186044416 then (brindlewoodref3_Minus.l0 k x0 x1 (x5 ++ [wrap64 ((wrap64 ((rd x0 x7) - x6)) - (rd x1 x7))]) 0 (wrap64 (x7 + 1))) else (none))) else (if (wrap64 ((rd x0 x7) - x6)) < 0 then (if x5.length < 17592186044416 then (brindlewoodref3_Minus.l0 k x0 x1 (x5 ++ [wrap64 ((wrap64 ((rd x0 x7) - x6)) + 65536)]) 1 (wrap64 (x7 + 1))) else (none)) else (if x5.length < 17592186044416 then (brindlewoodref3_Minus.l0 k x0 x1 (x5 ++ [wrap64 ((rd x0 x7) - x6)]) 0 (wrap64 (x7 + 1))) else (none)))) else (none)) else ((brindlewoodref3_trim.f k x5).bind fun t557 => (some t557))
def brindlewoodref3_Minus.f (k : Nat) (l0 : List Int) (l1 : List Int) : Option (List Int) := brindlewoodref3_Minus.l0 k l0 l1 ([] : List Int) 0 0
theorem brindlewoodref3_Minus.mono_l : ∀ k, (∀ y0 y1 y2 y3 y4, LeO (brindlewoodref3_Minus.l0 k y0 y1 y2 y3 y4) (brindlewoodref3_Minus.l0 (k + 1) y0 y1 y2 y3 y4))
 | 0 => fun _ _ _ _ _ r h => by simp [brindlewoodref3_Minus.l0] at h
 | k + 1 => by
  have ih0 := brindlewoodref3_Minus.mono_l k
  ·intro y0 y1 y2 y3 y4
   unfold brindlewoodref3_Minus.l0
   repeat' first
   | (with_reducible exact ih0 _ _ _ _ _)
   | (with_reducible exact brindlewoodref3_trim.mono _ _)
   | (with_reducible exact LeO.refl _)
   | (with_reducible exact LeO.none _)
   | (with_reducible refine LeO.ite ?_ ?_)
   | (with_reducible refine LeO.bind ?_ (fun _ => ?_))
   | exact ih0 _ _ _ _ _
   | exact brindlewoodref3_trim.mono _ _
   | exact LeO.none _
   | refine LeO.ite ?_ ?_
   | refine LeO.bind ?_ (fun _ => ?_)
theorem brindlewoodref3_Minus.mono : ∀ a0 a1 k, LeO (brindlewoodref3_Minus.f k a0 a1) (brindlewoodref3_Minus.f (k + 1) a0 a1) := by
 intro a0 a1 k
 have ih0 := brindlewoodref3_Minus.mono_l k
 unfold brindlewoodref3_Minus.f
 repeat' first
   | (with_reducible exact ih0 _ _ _ _ _)
   | (with_reducible exact brindlewoodref3_trim.mono _ _)
   | (with_reducible exact LeO.refl _)
   | (with_reducible exact LeO.none _)
   | (with_reducible refine LeO.ite ?_ ?_)
   | (with_reducible refine LeO.bind ?_ (fun _ => ?_))
   | exact ih0 _ _ _ _ _
   | exact brindlewoodref3_trim.mono _ _
   | exact LeO.none _
   | refine LeO.ite ?_ ?_
   | refine LeO.bind ?_ (fun _ => ?_)
def brindlewoodref3_Int_Plus.f (k : Nat) (a0_0 : Bool) (l0_1 : List Int) (a1_0 : Bool) (l1_1 : List Int) : Option (Bool × List Int) := if (a0_0 == a1_0) = true then ((brindlewoodref3_Plus.f k l0_1 l1_1).bind fun t577 => (some (a0_0, t577))) else ((brindlewoodref3_Compare.f k l0_1 l1_1).bind fun t580 => (if t580 ≥ 0 then ((brindlewoodref3_Minus.f k l0_1 l1_1).bind fun t581 => (some (a0_0, t581))) else ((brindlewoodref3_Minus.f k l1_1 l0_1).bind fun t584 => (some (a1_0, t584)))))
theorem brindlewoodref3_Int_Plus.mono : ∀ a0 a1 a2 a3 k, LeO (brindlewoodref3_Int_Plus.f k a0 a1 a2 a3) (brindlewoodref3_Int_Plus.f (k + 1) a0 a1 a2 a3) := by
 intro a0 a1 a2 a3 k
 unfold brindlewoodref3_Int_Plus.f
 repeat' first
   | (with_reducible exact brindlewoodref3_Compare.mono _ _ _)
   | (with_reducible exact brindlewoodref3_Minus.mono _ _ _)
   | (with_reducible exact brindlewoodref3_Plus.mono _ _ _)
   | (with_reducible exact LeO.refl _)
   | (with_reducible exact LeO.none _)
   | (with_reducible refine LeO.ite ?_ ?_)
   | (with_reducible refine LeO.bind ?_ (fun _ => ?_))
   | exact brindlewoodref3_Compare.mono _ _ _
   | exact brindlewoodref3_Minus.mono _ _ _
   | exact brindlewoodref3_Plus.mono _ _ _
   | exact LeO.none _
   | refine LeO.ite ?_ ?_
   | refine LeO.bind ?_ (fun _ => ?_)
def brindlewoodref3_Int_Plus.T2 : Bool × List (List Nat × List Nat) := (true, [([], []), ([0], [0]), ([], []), ([2], [2]), ([], []), ([4], [4]), ([3, 5], [3, 5]), ([1, 6], [1, 6]), ([7, 6, 0, 1, 2, 3, 4, 5, 6, 7], [7])])
def brindlewoodref3_Int_Plus.B2 : List Nat := [0, 1, 0, 4, 0, 16, 60, 127, 255]
def brindlewoodref3_Int_Plus.T4 : Bool × List (List Nat × List Nat) := (true, [([], []), ([0], [0]), ([], []), ([2], [2]), ([], []), ([4], [4]), ([3, 5], [3, 5]), ([1, 6], [1, 6]), ([7, 6, 0, 1, 2, 3, 4, 5, 6, 7], [7])])
def brindlewoodref3_Int_Plus.B4 : List Nat := [0, 1, 0, 4, 0, 16, 60, 127, 255]
def brindlewoodref3_Int_Plus.T5 : Bool × List (List Nat × List Nat) := (true, [([], []), ([0], [0]), ([], []), ([2], [2]), ([], []), ([4], [4]), ([3, 5], [3, 5]), ([1, 6], [1, 6]), ([7, 6, 0, 1, 2, 3, 4, 5, 6, 7], [7])])
def brindlewoodref3_Int_Plus.B5 : List Nat := [0, 1, 0, 4, 0, 16, 60, 127, 255]
mutual
def brindlewoodref3_Binary.l0 : Nat → List Bool → List Int → Int → Option (List Int)
 | 0, _, _, _ => none
 | k + 1, x0, x3, x4 => if x4 < (x0.length : Int) then (brindlewoodref3_Binary.l1 k x0 x3 x4 0 15) else ((brindlewoodref3_trim.f k x3).bind fun t587 => (some t587))
def brindlewoodref3_Binary.l1 : Nat → List Bool → List Int → Int → Int → Int → Option (List Int)
 | 0, _, _, _, _, _ => none
 | k + 1, x0, x3, x4, x5, x6 => if x6 ≥ 0 then (if (wrap64 (x4 + x6)) < (x0.length : Int) then (if 0 ≤ (wrap64 (x4 + x6)) then (if rdOf false x0 (wrap64 (x4 + x6)) = true then (brindlewoodref3_Binary.l1 k x0 x3 x4 (wrap64 ((wrap64 (x5 * 2)) + 1)) (wrap64 (x6 - 1))) else (brindlewoodref3_Binary.l1 k x0 x3 x4 (wrap64 (x5 * 2)) (wrap64 (x6 - 1)))) else (none)) else (brindlewoodref3_Binary.l1 k x0 x3 x4 (wrap64 (x5 * 2)) (wrap64 (x6 - 1)))) else (if x3.length < 17592186044416 then (brindlewoodref3_Binary.l0 k x0 (x3 ++ [x5]) (wrap64 (x4 + 16))) else (none))
end
def brindlewoodref3_Binary.f (k : Nat) (l0 : List Bool) : Option (List Int) := brindlewoodref3_Binary.l0 k l0 ([] : List Int) 0
theorem brindlewoodref3_Binary.mono_l : ∀ k, (∀ y0 y1 y2, LeO (brindlewoodref3_Binary.l0 k y0 y1 y2) (brindlewoodref3_Binary.l0 (k + 1) y0 y1 y2)) ∧ (∀ y0 y1 y2 y3 y4, LeO (brindlewoodref3_Binary.l1 k y0 y1 y2 y3 y4) (brindlewoodref3_Binary.l1 (k + 1) y0 y1 y2 y3 y4))
 | 0 => ⟨fun _ _ _ r h => by simp [brindlewoodref3_Binary.l0] at h, fun _ _ _ _ _ r h => by simp [brindlewoodref3_Binary.l1] at h⟩
 | k + 1 => by
  obtain ⟨ih0, ih1⟩ := brindlewoodref3_Binary.mono_l k
  refine ⟨?_, ?_⟩
  ·intro y0 y1 y2
   unfold brindlewoodref3_Binary.l0
   repeat' first
   | (with_reducible exact ih0 _ _ _)
   | (with_reducible exact ih1 _ _ _ _ _)
   | (with_reducible exact brindlewoodref3_trim.mono _ _)
   | (with_reducible exact LeO.refl _)
   | (with_reducible exact LeO.none _)
   | (with_reducible refine LeO.ite ?_ ?_)
   | (with_reducible refine LeO.bind ?_ (fun _ => ?_))
   | exact ih0 _ _ _
   | exact ih1 _ _ _ _ _
   | exact brindlewoodref3_trim.mono _ _
   | exact LeO.none _
   | refine LeO.ite ?_ ?_
   | refine LeO.bind ?_ (fun _ => ?_)
  ·intro y0 y1 y2 y3 y4
   unfold brindlewoodref3_Binary.l1
   repeat' first
   | (with_reducible exact ih0 _ _ _)
   | (with_reducible exact ih1 _ _ _ _ _)
   | (with_reducible exact brindlewoodref3_trim.mono _ _)
   | (with_reducible exact LeO.refl _)
   | (with_reducible exact LeO.none _)
   | (with_reducible refine LeO.ite ?_ ?_)
   | (with_reducible refine LeO.bind ?_ (fun _ => ?_))
   | exact ih0 _ _ _
   | exact ih1 _ _ _ _ _
   | exact brindlewoodref3_trim.mono _ _
   | exact LeO.none _
   | refine LeO.ite ?_ ?_
   | refine LeO.bind ?_ (fun _ => ?_)
theorem brindlewoodref3_Binary.mono : ∀ a0 k, LeO (brindlewoodref3_Binary.f k a0) (brindlewoodref3_Binary.f (k + 1) a0) := by
 intro a0 k
 obtain ⟨ih0, ih1⟩ := brindlewoodref3_Binary.mono_l k
 unfold brindlewoodref3_Binary.f
 repeat' first
   | (with_reducible exact ih0 _ _ _)
   | (with_reducible exact ih1 _ _ _ _ _)
   | (with_reducible exact brindlewoodref3_trim.mono _ _)
   | (with_reducible exact LeO.refl _)
   | (with_reducible exact LeO.none _)
   | (with_reducible refine LeO.ite ?_ ?_)
   | (with_reducible refine LeO.bind ?_ (fun _ => ?_))
   | exact ih0 _ _ _
   | exact ih1 _ _ _ _ _
   | exact brindlewoodref3_trim.mono _ _
   | exact LeO.none _
   | refine LeO.ite ?_ ?_
   | refine LeO.bind ?_ (fun _ => ?_)
def brindlewoodref3_Number.l0 : Nat → Int → List Bool → Bool → Option (Bool × List Int)
 | 0, _, _, _ => none
 | k + 1, x0, x3, x4 => if x0 = 0 then ((brindlewoodref3_Binary.f k x3).bind fun t595 => (some (x4, t595))) else (if x3.length < 140737488355328 then (brindlewoodref3_Number.l0 k (wrap64 (Int.tdiv x0 2)) (x3 ++ [((Int.tmod x0 2) != 0)]) x4) else (none))
def brindlewoodref3_Number.f (k : Nat) (a0 : Int) : Option (Bool × List Int) := brindlewoodref3_Number.l0 k a0 ([] : List Bool) (decide (a0 < 0))
theorem brindlewoodref3_Number.mono_l : ∀ k, (∀ y0 y1 y2, LeO (brindlewoodref3_Number.l0 k y0 y1 y2) (brindlewoodref3_Number.l0 (k + 1) y0 y1 y2))
 | 0 => fun _ _ _ r h => by simp [brindlewoodref3_Number.l0] at h
 | k + 1 => by
  have ih0 := brindlewoodref3_Number.mono_l k
  ·intro y0 y1 y2
   unfold brindlewoodref3_Number.l0
   repeat' first
   | (with_reducible exact ih0 _ _ _)
   | (with_reducible exact brindlewoodref3_Binary.mono _ _)
   | (with_reducible exact LeO.refl _)
   | (with_reducible exact LeO.none _)
   | (with_reducible refine LeO.ite ?_ ?_)
   | (with_reducible refine LeO.bind ?_ (fun _ => ?_))
   | exact ih0 _ _ _
   | exact brindlewoodref3_Binary.mono _ _
   | exact LeO.none _
   | refine LeO.ite ?_ ?_
   | refine LeO.bind ?_ (fun _ => ?_)
theorem brindlewoodref3_Number.mono : ∀ a0 k, LeO (brindlewoodref3_Number.f k a0) (brindlewoodref3_Number.f (k + 1) a0) := by
 intro a0 k
 have ih0 := brindlewoodref3_Number.mono_l k
 unfold brindlewoodref3_Number.f
 repeat' first
   | (with_reducible exact ih0 _ _ _)
   | (with_reducible exact brindlewoodref3_Binary.mono _ _)
   | (with_reducible exact LeO.refl _)
   | (with_reducible exact LeO.none _)
   | (with_reducible refine LeO.ite ?_ ?_)
   | (with_reducible refine LeO.bind ?_ (fun _ => ?_))
   | exact ih0 _ _ _
   | exact brindlewoodref3_Binary.mono _ _
   | exact LeO.none _
   | refine LeO.ite ?_ ?_
   | refine LeO.bind ?_ (fun _ => ?_)
mutual
def brindlewoodref3_Ones.l0 : Nat → List Int → List Bool → Int → Option (List Bool)
 | 0, _, _, _ => none
 | k + 1, x0, x3, x4 => if x4 < (x0.length : Int) then (if 0 ≤ x4 then (brindlewoodref3_Ones.l1 k x0 x3 x4 (rd x0 x4) 0) else (none)) else (brindlewoodref3_Ones.l2 k x3)
def brindlewoodref3_Ones.l1 : Nat → List Int → List Bool → Int → Int → Int → Option (List Bool)
 | 0, _, _, _, _, _ => none
 | k + 1, x0, x3, x4, x5, x6 => if x6 < 16 then (if x3.length < 140737488355328 then (brindlewoodref3_Ones.l1 k x0 (x3 ++ [((Int.tmod x5 2) == 1)]) x4 (wrap64 (Int.tdiv x5 2)) (wrap64 (x6 + 1))) else (none)) else (brindlewoodref3_Ones.l0 k x0 x3 (wrap64 (x4 + 1)))
def brindlewoodref3_Ones.l2 : Nat → List Bool → Option (List Bool)
 | 0, _ => none
 | k + 1, x3 => if (x3.length : Int) > 0 then (if 0 ≤ (wrap64 ((x3.length : Int) - 1)) then (if (wrap64 ((x3.length : Int) - 1)) < (x3.length : Int) then (if (rdOf false x3 (wrap64 ((x3.length : Int) - 1)) = true) then (some x3) else (if (wrap64 ((x3.length : Int) - 1)) ≤ (x3.length : Int) then (brindlewoodref3_Ones.l2 k (x3.take ((wrap64 ((x3.length : Int) - 1)) : Int).toNat)) else (none))) else (none)) else (none)) else (some x3)
end
def brindlewoodref3_Ones.f (k : Nat) (l0 : List Int) : Option (List Bool) := brindlewoodref3_Ones.l0 k l0 ([] : List Bool) 0
theorem brindlewoodref3_Ones.mono_l : ∀ k, (∀ y0 y1 y2, LeO (brindlewoodref3_Ones.l0 k y0 y1 y2) (brindlewoodref3_Ones.l0 (k + 1) y0 y1 y2)) ∧ (∀ y0 y1 y2 y3 y4, LeO (brindlewoodref3_Ones.l1 k y0 y1 y2 y3 y4) (brindlewoodref3_Ones.l1 (k + 1) y0 y1 y2 y3 y4)) ∧ (∀ y0, LeO (brindlewoodref3_Ones.l2 k y0) (brindlewoodref3_Ones.l2 (k + 1) y0))
 | 0 => ⟨fun _ _ _ r h => by simp [brindlewoodref3_Ones.l0] at h, fun _ _ _ _ _ r h => by simp [brindlewoodref3_Ones.l1] at h, fun _ r h => by simp [brindlewoodref3_Ones.l2] at h⟩
 | k + 1 => by
  obtain ⟨ih0, ih1, ih2⟩ := brindlewoodref3_Ones.mono_l k
  refine ⟨?_, ?_, ?_⟩
  ·intro y0 y1 y2
   unfold brindlewoodref3_Ones.l0
   repeat' first
   | (with_reducible exact ih0 _ _ _)
   | (with_reducible exact ih1 _ _ _ _ _)
   | (with_reducible exact ih2 _)
   | (with_reducible exact LeO.refl _)
   | (with_reducible exact LeO.none _)
   | (with_reducible refine LeO.ite ?_ ?_)
   | (with_reducible refine LeO.bind ?_ (fun _ => ?_))
   | exact ih0 _ _ _
   | exact ih1 _ _ _ _ _
   | exact ih2 _
   | exact LeO.none _
   | refine LeO.ite ?_ ?_
   | refine LeO.bind ?_ (fun _ => ?_)
  ·intro y0 y1 y2 y3 y4
   unfold brindlewoodref3_Ones.l1
   repeat' first
   | (with_reducible exact ih0 _ _ _)
   | (with_reducible exact ih1 _ _ _ _ _)
   | (with_reducible exact ih2 _)
   | (with_reducible exact LeO.refl _)
   | (with_reducible exact LeO.none _)
   | (with_reducible refine LeO.ite ?_ ?_)
   | (with_reducible refine LeO.bind ?_ (fun _ => ?_))
   | exact ih0 _ _ _
   | exact ih1 _ _ _ _ _
   | exact ih2 _
   | exact LeO.none _
   | refine LeO.ite ?_ ?_
   | refine LeO.bind ?_ (fun _ => ?_)
  ·intro y0
   unfold brindlewoodref3_Ones.l2
   repeat' first
   | (with_reducible exact ih0 _ _ _)
   | (with_reducible exact ih1 _ _ _ _ _)
   | (with_reducible exact ih2 _)
   | (with_reducible exact LeO.refl _)
   | (with_reducible exact LeO.none _)
   | (with_reducible refine LeO.ite ?_ ?_)
   | (with_reducible refine LeO.bind ?_ (fun _ => ?_))
   | exact ih0 _ _ _
   | exact ih1 _ _ _ _ _
   | exact ih2 _
   | exact LeO.none _
   | refine LeO.ite ?_ ?_
   | refine LeO.bind ?_ (fun _ => ?_)
theorem brindlewoodref3_Ones.mono : ∀ a0 k, LeO (brindlewoodref3_Ones.f k a0) (brindlewoodref3_Ones.f (k + 1) a0) := by
 intro a0 k
 obtain ⟨ih0, ih1, ih2⟩ := brindlewoodref3_Ones.mono_l k
 unfold brindlewoodref3_Ones.f
 repeat' first
   | (with_reducible exact ih0 _ _ _)
   | (with_reducible exact ih1 _ _ _ _ _)
   | (with_reducible exact ih2 _)
   | (with_reducible exact LeO.refl _)
   | (with_reducible exact LeO.none _)
   | (with_reducible refine LeO.ite ?_ ?_)
   | (with_reducible refine LeO.bind ?_ (fun _ => ?_))
   | exact ih0 _ _ _
   | exact ih1 _ _ _ _ _
   | exact ih2 _
   | exact LeO.none _
   | refine LeO.ite ?_ ?_
   | refine LeO.bind ?_ (fun _ => ?_)
mutual
def brindlewoodref4_Random_Below.l0 : Nat → Int → Int → Int → Int → Bool → List Int → Option (Bool × List Int × Bool × Int × Int)
 | 0, _, _, _, _, _, _ => none
 | k + 1, x6, x7, x1000, x1001, x610000, x610001 => if x7 < 1000 then (brindlewoodref4_Random_Below.l1 k x6 x7 ([] : List Bool) x6 x1000 x1001 x610000 x610001) else (some (false, ([] : List Int), false, x1000, x1001))
def brindlewoodref4_Random_Below.l1 : Nat → Int → Int → List Bool → Int → Int → Int → Bool → List Int → Option (Bool × List Int × Bool × Int × Int)
 | 0, _, _, _, _, _, _, _, _ => none
 | k + 1, x6, x7, x8, x9, x1000, x1001, x610000, x610001 => if x9 > 0 then ((brindlewoodref4_Random_Draw.f x1000 x1001).bind fun bt622 => (if x9 > 32 then (brindlewoodref4_Random_Below.j2 k x6 x7 x8 x9 bt622.1 32 bt622.2.1 bt622.2.2 x610000 x610001) else (brindlewoodref4_Random_Below.j2 k x6 x7 x8 x9 bt622.1 x9 bt622.2.1 bt622.2.2 x610000 x610001))) else ((brindlewoodref3_Binary.f k x8).bind fun t628 => ((brindlewoodref3_Int_Order.f k false t628 x610000 x610001).bind fun t632 => (if t632 < 0 then (some (false, t628, true, x1000, x1001)) else (brindlewoodref4_Random_Below.l0 k x6 (wrap64 (x7 + 1)) x1000 x1001 x610000 x610001))))
def brindlewoodref4_Random_Below.j2 : Nat → Int → Int → List Bool → Int → Int → Int → Int → Int → Bool → List Int → Option (Bool × List Int × Bool × Int × Int)
 | 0, _, _, _, _, _, _, _, _, _, _ => none
 | k + 1, x6, x7, x8, x9, x10, x11, x1000, x1001, x610000, x610001 => if 0 ≤ (IntKind.u64.wrap (wrap64 (64 - x11))) then (brindlewoodref4_Random_Below.l2 k x6 x7 x8 x9 (shr .u64 x10 (IntKind.u64.wrap (wrap64 (64 - x11)))) x11 x1000 x1001 x610000 x610001) else (none)
def brindlewoodref4_Random_Below.l2 : Nat → Int → Int → List Bool → Int → Int → Int → Int → Int → Bool → List Int → Option (Bool × List Int × Bool × Int × Int)
 | 0, _, _, _, _, _, _, _, _, _, _ => none
 | k + 1, x6, x7, x8, x9, x10, x11, x1000, x1001, x610000, x610001 => if x11 > 0 then (if x8.length < 140737488355328 then (brindlewoodref4_Random_Below.l2 k x6 x7 (x8 ++ [((Int.tmod x10 2) == 1)]) x9 (IntKind.u64.wrap (Int.tdiv x10 2)) (wrap64 (x11 - 1)) x1000 x1001 x610000 x610001) else (none)) else (brindlewoodref4_Random_Below.l1 k x6 x7 x8 (wrap64 (x9 - 32)) x1000 x1001 x610000 x610001)
end
def brindlewoodref4_Random_Below.f (k : Nat) (s0_0 : Int) (s0_1 : Int) (a1_0 : Bool) (l1_1 : List Int) : Option (Bool × List Int × Bool × Int × Int) := (brindlewoodref3_Number.f k (-1)).bind fun bt611 => ((brindlewoodref3_Int_Plus.f k a1_0 l1_1 bt611.1 bt611.2).bind fun bt615 => ((brindlewoodref3_Ones.f k bt615.2).bind fun t619 => (brindlewoodref4_Random_Below.l0 k (t619.length : Int) 0 s0_0 s0_1 a1_0 l1_1)))
theorem brindlewoodref4_Random_Below.mono_l : ∀ k, (∀ y0 y1 y2 y3 y4 y5, LeO (brindlewoodref4_Random_Below.l0 k y0 y1 y2 y3 y4 y5) (brindlewoodref4_Random_Below.l0 (k + 1) y0 y1 y2 y3 y4 y5)) ∧ (∀ y0 y1 y2 y3 y4 y5 y6 y7, LeO (brindlewoodref4_Random_Below.l1 k y0 y1 y2 y3 y4 y5 y6 y7) (brindlewoodref4_Random_Below.l1 (k + 1) y0 y1 y2 y3 y4 y5 y6 y7)) ∧ (∀ y0 y1 y2 y3 y4 y5 y6 y7 y8 y9, LeO (brindlewoodref4_Random_Below.j2 k y0 y1 y2 y3 y4 y5 y6 y7 y8 y9) (brindlewoodref4_Random_Below.j2 (k + 1) y0 y1 y2 y3 y4 y5 y6 y7 y8 y9)) ∧ (∀ y0 y1 y2 y3 y4 y5 y6 y7 y8 y9, LeO (brindlewoodref4_Random_Below.l2 k y0 y1 y2 y3 y4 y5 y6 y7 y8 y9) (brindlewoodref4_Random_Below.l2 (k + 1) y0 y1 y2 y3 y4 y5 y6 y7 y8 y9))
 | 0 => ⟨fun _ _ _ _ _ _ r h => by simp [brindlewoodref4_Random_Below.l0] at h, fun _ _ _ _ _ _ _ _ r h => by simp [brindlewoodref4_Random_Below.l1] at h, fun _ _ _ _ _ _ _ _ _ _ r h => by simp [brindlewoodref4_Random_Below.j2] at h, fun _ _ _ _ _ _ _ _ _ _ r h => by simp [brindlewoodref4_Random_Below.l2] at h⟩
 | k + 1 => by
  obtain ⟨ih0, ih1, ih2, ih3⟩ := brindlewoodref4_Random_Below.mono_l k
  refine ⟨?_, ?_, ?_, ?_⟩
  ·intro y0 y1 y2 y3 y4 y5
   unfold brindlewoodref4_Random_Below.l0
   repeat' first
   | (with_reducible exact ih0 _ _ _ _ _ _)
   | (with_reducible exact ih1 _ _ _ _ _ _ _ _)
   | (with_reducible exact ih2 _ _ _ _ _ _ _ _ _ _)
   | (with_reducible exact ih3 _ _ _ _ _ _ _ _ _ _)
   | (with_reducible exact brindlewoodref3_Binary.mono _ _)
   | (with_reducible exact brindlewoodref3_Int_Order.mono _ _ _ _ _)
   | (with_reducible exact brindlewoodref3_Int_Plus.mono _ _ _ _ _)
   | (with_reducible exact brindlewoodref3_Number.mono _ _)
   | (with_reducible exact brindlewoodref3_Ones.mono _ _)
   | (with_reducible exact LeO.refl _)
   | (with_reducible exact LeO.none _)
   | (with_reducible refine LeO.ite ?_ ?_)
   | (with_reducible refine LeO.bind ?_ (fun _ => ?_))
   | exact ih0 _ _ _ _ _ _
   | exact ih1 _ _ _ _ _ _ _ _
   | exact ih2 _ _ _ _ _ _ _ _ _ _
   | exact ih3 _ _ _ _ _ _ _ _ _ _
   | exact brindlewoodref3_Binary.mono _ _
   | exact brindlewoodref3_Int_Order.mono _ _ _ _ _
   | exact brindlewoodref3_Int_Plus.mono _ _ _ _ _
   | exact brindlewoodref3_Number.mono _ _
   | exact brindlewoodref3_Ones.mono _ _
   | exact LeO.none _
   | refine LeO.ite ?_ ?_
   | refine LeO.bind ?_ (fun _ => ?_)
  ·intro y0 y1 y2 y3 y4 y5 y6 y7
   unfold brindlewoodref4_Random_Below.l1
   repeat' first
   | (with_reducible exact ih0 _ _ _ _ _ _)
   | (with_reducible exact ih1 _ _ _ _ _ _ _ _)
   | (with_reducible exact ih2 _ _ _ _ _ _ _ _ _ _)
   | (with_reducible exact ih3 _ _ _ _ _ _ _ _ _ _)
   | (with_reducible exact brindlewoodref3_Binary.mono _ _)
   | (with_reducible exact brindlewoodref3_Int_Order.mono _ _ _ _ _)
   | (with_reducible exact brindlewoodref3_Int_Plus.mono _ _ _ _ _)
   | (with_reducible exact brindlewoodref3_Number.mono _ _)
   | (with_reducible exact brindlewoodref3_Ones.mono _ _)
   | (with_reducible exact LeO.refl _)
   | (with_reducible exact LeO.none _)
   | (with_reducible refine LeO.ite ?_ ?_)
   | (with_reducible refine LeO.bind ?_ (fun _ => ?_))
   | exact ih0 _ _ _ _ _ _
   | exact ih1 _ _ _ _ _ _ _ _
   | exact ih2 _ _ _ _ _ _ _ _ _ _
   | exact ih3 _ _ _ _ _ _ _ _ _ _
   | exact brindlewoodref3_Binary.mono _ _
   | exact brindlewoodref3_Int_Order.mono _ _ _ _ _
   | exact brindlewoodref3_Int_Plus.mono _ _ _ _ _
   | exact brindlewoodref3_Number.mono _ _
   | exact brindlewoodref3_Ones.mono _ _
   | exact LeO.none _
   | refine LeO.ite ?_ ?_
   | refine LeO.bind ?_ (fun _ => ?_)
  ·intro y0 y1 y2 y3 y4 y5 y6 y7 y8 y9
   unfold brindlewoodref4_Random_Below.j2
   repeat' first
   | (with_reducible exact ih0 _ _ _ _ _ _)
   | (with_reducible exact ih1 _ _ _ _ _ _ _ _)
   | (with_reducible exact ih2 _ _ _ _ _ _ _ _ _ _)
   | (with_reducible exact ih3 _ _ _ _ _ _ _ _ _ _)
   | (with_reducible exact brindlewoodref3_Binary.mono _ _)
   | (with_reducible exact brindlewoodref3_Int_Order.mono _ _ _ _ _)
   | (with_reducible exact brindlewoodref3_Int_Plus.mono _ _ _ _ _)
   | (with_reducible exact brindlewoodref3_Number.mono _ _)
   | (with_reducible exact brindlewoodref3_Ones.mono _ _)
   | (with_reducible exact LeO.refl _)
   | (with_reducible exact LeO.none _)
   | (with_reducible refine LeO.ite ?_ ?_)
   | (with_reducible refine LeO.bind ?_ (fun _ => ?_))
   | exact ih0 _ _ _ _ _ _
   | exact ih1 _ _ _ _ _ _ _ _
   | exact ih2 _ _ _ _ _ _ _ _ _ _
   | exact ih3 _ _ _ _ _ _ _ _ _ _
   | exact brindlewoodref3_Binary.mono _ _
   | exact brindlewoodref3_Int_Order.mono _ _ _ _ _
   | exact brindlewoodref3_Int_Plus.mono _ _ _ _ _
   | exact brindlewoodref3_Number.mono _ _
   | exact brindlewoodref3_Ones.mono _ _
   | exact LeO.none _
   | refine LeO.ite ?_ ?_
   | refine LeO.bind ?_ (fun _ => ?_)
  ·intro y0 y1 y2 y3 y4 y5 y6 y7 y8 y9
   unfold brindlewoodref4_Random_Below.l2
   repeat' first
   | (with_reducible exact ih0 _ _ _ _ _ _)
   | (with_reducible exact ih1 _ _ _ _ _ _ _ _)
   | (with_reducible exact ih2 _ _ _ _ _ _ _ _ _ _)
   | (with_reducible exact ih3 _ _ _ _ _ _ _ _ _ _)
   | (with_reducible exact brindlewoodref3_Binary.mono _ _)
   | (with_reducible exact brindlewoodref3_Int_Order.mono _ _ _ _ _)
   | (with_reducible exact brindlewoodref3_Int_Plus.mono _ _ _ _ _)
   | (with_reducible exact brindlewoodref3_Number.mono _ _)
   | (with_reducible exact brindlewoodref3_Ones.mono _ _)
   | (with_reducible exact LeO.refl _)
   | (with_reducible exact LeO.none _)
   | (with_reducible refine LeO.ite ?_ ?_)
   | (with_reducible refine LeO.bind ?_ (fun _ => ?_))
   | exact ih0 _ _ _ _ _ _
   | exact ih1 _ _ _ _ _ _ _ _
   | exact ih2 _ _ _ _ _ _ _ _ _ _
   | exact ih3 _ _ _ _ _ _ _ _ _ _
   | exact brindlewoodref3_Binary.mono _ _
   | exact brindlewoodref3_Int_Order.mono _ _ _ _ _
   | exact brindlewoodref3_Int_Plus.mono _ _ _ _ _
   | exact brindlewoodref3_Number.mono _ _
   | exact brindlewoodref3_Ones.mono _ _
   | exact LeO.none _
   | refine LeO.ite ?_ ?_
   | refine LeO.bind ?_ (fun _ => ?_)
theorem brindlewoodref4_Random_Below.mono : ∀ a0 a1 a2 a3 k, LeO (brindlewoodref4_Random_Below.f k a0 a1 a2 a3) (brindlewoodref4_Random_Below.f (k + 1) a0 a1 a2 a3) := by
 intro a0 a1 a2 a3 k
 obtain ⟨ih0, ih1, ih2, ih3⟩ := brindlewoodref4_Random_Below.mono_l k
 unfold brindlewoodref4_Random_Below.f
 repeat' first
   | (with_reducible exact ih0 _ _ _ _ _ _)
   | (with_reducible exact ih1 _ _ _ _ _ _ _ _)
   | (with_reducible exact ih2 _ _ _ _ _ _ _ _ _ _)
   | (with_reducible exact ih3 _ _ _ _ _ _ _ _ _ _)
   | (with_reducible exact brindlewoodref3_Binary.mono _ _)
   | (with_reducible exact brindlewoodref3_Int_Order.mono _ _ _ _ _)
   | (with_reducible exact brindlewoodref3_Int_Plus.mono _ _ _ _ _)
   | (with_reducible exact brindlewoodref3_Number.mono _ _)
   | (with_reducible exact brindlewoodref3_Ones.mono _ _)
   | (with_reducible exact LeO.refl _)
   | (with_reducible exact LeO.none _)
   | (with_reducible refine LeO.ite ?_ ?_)
   | (with_reducible refine LeO.bind ?_ (fun _ => ?_))
   | exact ih0 _ _ _ _ _ _
   | exact ih1 _ _ _ _ _ _ _ _
   | exact ih2 _ _ _ _ _ _ _ _ _ _
   | exact ih3 _ _ _ _ _ _ _ _ _ _
   | exact brindlewoodref3_Binary.mono _ _
   | exact brindlewoodref3_Int_Order.mono _ _ _ _ _
   | exact brindlewoodref3_Int_Plus.mono _ _ _ _ _
   | exact brindlewoodref3_Number.mono _ _
   | exact brindlewoodref3_Ones.mono _ _
   | exact LeO.none _
   | refine LeO.ite ?_ ?_
   | refine LeO.bind ?_ (fun _ => ?_)
def brindlewoodref3_Of.l0 : Nat → List Int → List Int → Int → Option (List Int)
 | 0, _, _, _ => none
 | k + 1, x0, x3, x4 => if x4 < (x0.length : Int) then (if 0 ≤ x4 then ((some (([wrap64 (Int.tmod (rd x0 x4) 65536), (Int.tdiv (rd x0 x4) 65536) % 4294967296] : List Int) : List Int)).bind fun y635 => (if x3.length + y635.length < 17592186044416 then (brindlewoodref3_Of.l0 k x0 (x3 ++ y635) (wrap64 (x4 + 1))) else (none))) else (none)) else ((brindlewoodref3_trim.f k x3).bind fun t641 => (some t641))
def brindlewoodref3_Of.f (k : Nat) (l0 : List Int) : Option (List Int) := brindlewoodref3_Of.l0 k l0 ([] : List Int) 0
theorem brindlewoodref3_Of.mono_l : ∀ k, (∀ y0 y1 y2, LeO (brindlewoodref3_Of.l0 k y0 y1 y2) (brindlewoodref3_Of.l0 (k + 1) y0 y1 y2))
 | 0 => fun _ _ _ r h => by simp [brindlewoodref3_Of.l0] at h
 | k + 1 => by
  have ih0 := brindlewoodref3_Of.mono_l k
  ·intro y0 y1 y2
   unfold brindlewoodref3_Of.l0
   repeat' first
   | (with_reducible exact ih0 _ _ _)
   | (with_reducible exact brindlewoodref3_trim.mono _ _)
   | (with_reducible exact LeO.refl _)
   | (with_reducible exact LeO.none _)
   | (with_reducible refine LeO.ite ?_ ?_)
   | (with_reducible refine LeO.bind ?_ (fun _ => ?_))
   | exact ih0 _ _ _
   | exact brindlewoodref3_trim.mono _ _
   | exact LeO.none _
   | refine LeO.ite ?_ ?_
   | refine LeO.bind ?_ (fun _ => ?_)
theorem brindlewoodref3_Of.mono : ∀ a0 k, LeO (brindlewoodref3_Of.f k a0) (brindlewoodref3_Of.f (k + 1) a0) := by
 intro a0 k
 have ih0 := brindlewoodref3_Of.mono_l k
 unfold brindlewoodref3_Of.f
 repeat' first
   | (with_reducible exact ih0 _ _ _)
   | (with_reducible exact brindlewoodref3_trim.mono _ _)
   | (with_reducible exact LeO.refl _)
   | (with_reducible exact LeO.none _)
   | (with_reducible refine LeO.ite ?_ ?_)
   | (with_reducible refine LeO.bind ?_ (fun _ => ?_))
   | exact ih0 _ _ _
   | exact brindlewoodref3_trim.mono _ _
   | exact LeO.none _
   | refine LeO.ite ?_ ?_
   | refine LeO.bind ?_ (fun _ => ?_)
def brindlewoodref3_Of.T5 : Bool × List (List Nat × List Nat) := (true, [([], []), ([], []), ([], []), ([1, 2], [1, 2]), ([3], [3]), ([4], [4]), ([5], [5]), ([], []), ([], []), ([7, 8], [7, 8]), ([9], [9]), ([10], [10]), ([11], [11]), ([6, 12], [6, 12]), ([0, 13], [0, 13]), ([14, 14, 0, 1, 2, 3, 4, 5, 6, 7, 8, 9, 10, 11, 12, 13, 14], [0, 14])])
def brindlewoodref3_Of.B5 : List Nat := [0, 0, 0, 6, 14, 30, 62, 0, 0, 384, 896, 1920, 3968, 8190, 16383, 32767]
def brindlewoodref3_IntOf.f (k : Nat) (a0_0 : Bool) (l0_1 : List Int) : Option (Bool × List Int) := (brindlewoodref3_Of.f k l0_1).bind fun t646 => (some (a0_0, t646))
theorem brindlewoodref3_IntOf.mono : ∀ a0 a1 k, LeO (brindlewoodref3_IntOf.f k a0 a1) (brindlewoodref3_IntOf.f (k + 1) a0 a1) := by
 intro a0 a1 k
 unfold brindlewoodref3_IntOf.f
 repeat' first
   | (with_reducible exact brindlewoodref3_Of.mono _ _)
   | (with_reducible exact LeO.refl _)
   | (with_reducible exact LeO.none _)
   | (with_reducible refine LeO.ite ?_ ?_)
   | (with_reducible refine LeO.bind ?_ (fun _ => ?_))
   | exact brindlewoodref3_Of.mono _ _
   | exact LeO.none _
   | refine LeO.ite ?_ ?_
   | refine LeO.bind ?_ (fun _ => ?_)
def brindlewoodref3_Limbs.l0 : Nat → List Int → List Int → Int → Option (List Int)
 | 0, _, _, _ => none
 | k + 1, x0, x3, x4 => if x4 < (x0.length : Int) then (if 0 ≤ x4 then (if (wrap64 (x4 + 1)) < (x0.length : Int) then (if 0 ≤ (wrap64 (x4 + 1)) then (if x3.length < 35184372088832 then (brindlewoodref3_Limbs.l0 k x0 (x3 ++ [((rd x0 x4) + (((rd x0 (wrap64 (x4 + 1))) % 4294967296) * 65536)) % 4294967296]) (wrap64 (x4 + 2))) else (none)) else (none)) else (if x3.length < 35184372088832 then (brindlewoodref3_Limbs.l0 k x0 (x3 ++ [(rd x0 x4) % 4294967296]) (wrap64 (x4 + 2))) else (none))) else (none)) else (some x3)
def brindlewoodref3_Limbs.f (k : Nat) (l0 : List Int) : Option (List Int) := brindlewoodref3_Limbs.l0 k l0 ([] : List Int) 0
theorem brindlewoodref3_Limbs.mono_l : ∀ k, (∀ y0 y1 y2, LeO (brindlewoodref3_Limbs.l0 k y0 y1 y2) (brindlewoodref3_Limbs.l0 (k + 1) y0 y1 y2))
 | 0 => fun _ _ _ r h => by simp [brindlewoodref3_Limbs.l0] at h
 | k + 1 => by
  have ih0 := brindlewoodref3_Limbs.mono_l k
  ·intro y0 y1 y2
   unfold brindlewoodref3_Limbs.l0
   repeat' first
   | (with_reducible exact ih0 _ _ _)
   | (with_reducible exact LeO.refl _)
   | (with_reducible exact LeO.none _)
   | (with_reducible refine LeO.ite ?_ ?_)
   | (with_reducible refine LeO.bind ?_ (fun _ => ?_))
   | exact ih0 _ _ _
   | exact LeO.none _
   | refine LeO.ite ?_ ?_
   | refine LeO.bind ?_ (fun _ => ?_)
theorem brindlewoodref3_Limbs.mono : ∀ a0 k, LeO (brindlewoodref3_Limbs.f k a0) (brindlewoodref3_Limbs.f (k + 1) a0) := by
 intro a0 k
 have ih0 := brindlewoodref3_Limbs.mono_l k
 unfold brindlewoodref3_Limbs.f
 repeat' first
   | (with_reducible exact ih0 _ _ _)
   | (with_reducible exact LeO.refl _)
   | (with_reducible exact LeO.none _)
   | (with_reducible refine LeO.ite ?_ ?_)
   | (with_reducible refine LeO.bind ?_ (fun _ => ?_))
   | exact ih0 _ _ _
   | exact LeO.none _
   | refine LeO.ite ?_ ?_
   | refine LeO.bind ?_ (fun _ => ?_)
def brindlewoodref3_SameLimbs.l0 : Nat → List Int → List Int → Int → Option (Bool)
 | 0, _, _, _ => none
 | k + 1, x0, x1, x5 => if x5 < (x0.length : Int) then (if 0 ≤ x5 then (if x5 < (x1.length : Int) then (if (rd x0 x5) = (rd x1 x5) then (brindlewoodref3_SameLimbs.l0 k x0 x1 (wrap64 (x5 + 1))) else (some false)) else (none)) else (none)) else (some true)
def brindlewoodref3_SameLimbs.f (k : Nat) (l0 : List Int) (l1 : List Int) : Option (Bool) := if (l0.length : Int) = (l1.length : Int) then (brindlewoodref3_SameLimbs.l0 k l0 l1 0) else (some false)
theorem brindlewoodref3_SameLimbs.mono_l : ∀ k, (∀ y0 y1 y2, LeO (brindlewoodref3_SameLimbs.l0 k y0 y1 y2) (brindlewoodref3_SameLimbs.l0 (k + 1) y0 y1 y2))
 | 0 => fun _ _ _ r h => by simp [brindlewoodref3_SameLimbs.l0] at h
 | k + 1 => by
  have ih0 := brindlewoodref3_SameLimbs.mono_l k
  ·intro y0 y1 y2
   unfold brindlewoodref3_SameLimbs.l0
   repeat' first
   | (with_reducible exact ih0 _ _ _)
   | (with_reducible exact LeO.refl _)
   | (with_reducible exact LeO.none _)
   | (with_reducible refine LeO.ite ?_ ?_)
   | (with_reducible refine LeO.bind ?_ (fun _ => ?_))
   | exact ih0 _ _ _
   | exact LeO.none _
   | refine LeO.ite ?_ ?_
   | refine LeO.bind ?_ (fun _ => ?_)
theorem brindlewoodref3_SameLimbs.mono : ∀ a0 a1 k, LeO (brindlewoodref3_SameLimbs.f k a0 a1) (brindlewoodref3_SameLimbs.f (k + 1) a0 a1) := by
 intro a0 a1 k
 have ih0 := brindlewoodref3_SameLimbs.mono_l k
 unfold brindlewoodref3_SameLimbs.f
 repeat' first
   | (with_reducible exact ih0 _ _ _)
   | (with_reducible exact LeO.refl _)
   | (with_reducible exact LeO.none _)
   | (with_reducible refine LeO.ite ?_ ?_)
   | (with_reducible refine LeO.bind ?_ (fun _ => ?_))
   | exact ih0 _ _ _
   | exact LeO.none _
   | refine LeO.ite ?_ ?_
   | refine LeO.bind ?_ (fun _ => ?_)
def brindlewoodref3_SameInt.f (k : Nat) (a0_0 : Bool) (l0_1 : List Int) (a1_0 : Bool) (l1_1 : List Int) : Option (Bool) := if a1_0 = true then (if (a0_0 == (decide (0 < l1_1.length))) = true then ((brindlewoodref3_Limbs.f k l1_1).bind fun t661 => ((brindlewoodref3_SameLimbs.f k l0_1 t661).bind fun t664 => (some t664))) else (some false)) else (if (a0_0 == false) = true then ((brindlewoodref3_Limbs.f k l1_1).bind fun t665 => ((brindlewoodref3_SameLimbs.f k l0_1 t665).bind fun t668 => (some t668))) else (some false))
theorem brindlewoodref3_SameInt.mono : ∀ a0 a1 a2 a3 k, LeO (brindlewoodref3_SameInt.f k a0 a1 a2 a3) (brindlewoodref3_SameInt.f (k + 1) a0 a1 a2 a3) := by
 intro a0 a1 a2 a3 k
 unfold brindlewoodref3_SameInt.f
 repeat' first
   | (with_reducible exact brindlewoodref3_Limbs.mono _ _)
   | (with_reducible exact brindlewoodref3_SameLimbs.mono _ _ _)
   | (with_reducible exact LeO.refl _)
   | (with_reducible exact LeO.none _)
   | (with_reducible refine LeO.ite ?_ ?_)
   | (with_reducible refine LeO.bind ?_ (fun _ => ?_))
   | exact brindlewoodref3_Limbs.mono _ _
   | exact brindlewoodref3_SameLimbs.mono _ _ _
   | exact LeO.none _
   | refine LeO.ite ?_ ?_
   | refine LeO.bind ?_ (fun _ => ?_)
def brindlewoodref3_SameInt.T1 : Bool × List (List Nat × List Nat) := (true, [([], []), ([0], [0]), ([], []), ([2], [2]), ([3], [3]), ([4], [4]), ([5, 4], [4, 5]), ([6, 4], [4, 6]), ([7, 4], [4, 7]), ([4, 8], [4, 8]), ([1, 9], [1, 9]), ([10, 4], [10]), ([11], [11]), ([12, 11], [11, 12]), ([11], [11]), ([14, 11], [11, 14]), ([15, 11, 11], [11, 15]), ([13, 16, 16, 11], [11, 13, 16]), ([11, 17], [11, 17]), ([18, 17, 0, 1, 2, 3, 4, 5, 6, 7, 8, 9, 10, 11, 12, 13, 14, 15, 16, 17, 18], [18])])
def brindlewoodref3_SameInt.B1 : List Nat := [0, 1, 0, 4, 12, 28, 60, 124, 252, 508, 1023, 2047, 4095, 8191, 4095, 20479, 53247, 131071, 262143, 524287]
def brindlewoodref3_Int_Minus.f (a0_0 : Bool) (l0_1 : List Int) : Option (Bool × List Int) := if a0_0 = true then (some (false, l0_1)) else (some (decide (0 < l0_1.length), l0_1))
def brindlewoodref3_Int_Fits.f (a0_0 : Bool) (l0_1 : List Int) (a1 : Int) : Option (Bool) := some (decide ((l0_1.length : Int) ≤ (wrap64 (2 * a1))))
mutual
def brindlewoodlaw4_RandomIntegers.j0 : Nat → Int → Int → Bool → List Int → Bool → List Int → Bool → List Int → Bool → List Int → Int → Int → Int → Int → Bool → List Int → Int → Int → Int → Int → Int → Int → Option (Bool)
 | 0, _, _, _, _, _, _, _, _, _, _, _, _, _, _, _, _, _, _, _, _, _, _ => none
 | k + 1, x673000, x673001, x674000, x674001, x675000, x675001, x676000, x676001, x685000, x685001, x686000, x686001, x687000, x687001, x696000, x696001, x697000, x697001, x698000, x698001, x700000, x700001 => if x700000 = 0 then ((brindlewoodref3_IntOk.f x674000 x674001).bind fun t703 => (if t703 = true then (if x674000 = true then ((brindlewoodref4_At.f 4 (-2)).bind fun bt704 => (brindlewoodlaw4_RandomIntegers.j1 k x673000 x673001 x674000 x674001 x675000 x675001 x676000 x676001 x685000 x685001 x686000 x686001 x687000 x687001 x696000 x696001 x697000 x697001 x698000 x698001 bt704.1 bt704.2 x700000 x700001)) else ((brindlewoodref3_NoInt.f x674000 x674001).bind fun t706 => (if t706 = true then ((brindlewoodref4_At.f 4 (-2)).bind fun bt707 => (brindlewoodlaw4_RandomIntegers.j1 k x673000 x673001 x674000 x674001 x675000 x675001 x676000 x676001 x685000 x685001 x686000 x686001 x687000 x687001 x696000 x696001 x697000 x697001 x698000 x698001 bt707.1 bt707.2 x700000 x700001)) else (brindlewoodlaw4_RandomIntegers.j1 k x673000 x673001 x674000 x674001 x675000 x675001 x676000 x676001 x685000 x685001 x686000 x686001 x687000 x687001 x696000 x696001 x697000 x697001 x698000 x698001 x700000 x700001 x700000 x700001)))) else ((brindlewoodref4_At.f 6 (-2)).bind fun bt709 => (brindlewoodlaw4_RandomIntegers.j1 k x673000 x673001 x674000 x674001 x675000 x675001 x676000 x676001 x685000 x685001 x686000 x686001 x687000 x687001 x696000 x696001 x697000 x697001 x698000 x698001 bt709.1 bt709.2 x700000 x700001)))) else (brindlewoodlaw4_RandomIntegers.j1 k x673000 x673001 x674000 x674001 x675000 x675001 x676000 x676001 x685000 x685001 x686000 x686001 x687000 x687001 x696000 x696001 x697000 x697001 x698000 x698001 x700000 x700001 x700000 x700001)
def brindlewoodlaw4_RandomIntegers.j1 : Nat → Int → Int → Bool → List Int → Bool → List Int → Bool → List Int → Bool → List Int → Int → Int → Int → Int → Bool → List Int → Int → Int → Int → Int → Int → Int → Int → Int → Option (Bool)
 | 0, _, _, _, _, _, _, _, _, _, _, _, _, _, _, _, _, _, _, _, _, _, _, _, _ => none
 | k + 1, x673000, x673001, x674000, x674001, x675000, x675001, x676000, x676001, x685000, x685001, x686000, x686001, x687000, x687001, x696000, x696001, x697000, x697001, x698000, x698001, x700000, x700001, x703000, x703001 => if x700000 = 0 then ((brindlewoodref3_IntOf.f k x674000 x674001).bind fun bt712 => ((brindlewoodref4_Random_Below.f k x673000 x673001 bt712.1 bt712.2).bind fun bt716 => (if bt716.2.2.1 = true then (if x687000 = 0 then ((brindlewoodref3_SameInt.f k x685000 x685001 bt716.1 bt716.2.1).bind fun t724 => (if t724 = true then (if (!(x686000 == bt716.2.2.2.1) || (!(x686001 == bt716.2.2.2.2))) = true then (none) else (brindlewoodlaw4_RandomIntegers.j2 k x673000 x673001 x675000 x675001 x676000 x676001 x696000 x696001 x697000 x697001 x698000 x698001 x703000 x703001)) else (none))) else (none)) else (brindlewoodlaw4_RandomIntegers.j2 k x673000 x673001 x675000 x675001 x676000 x676001 x696000 x696001 x697000 x697001 x698000 x698001 x703000 x703001)))) else (if (!(x687000 == x700000) || (!(x687001 == x700001))) = true then (none) else ((brindlewoodref3_NoInt.f x685000 x685001).bind fun t725 => (if t725 = true then (if (!(x686000 == 0) || (!(x686001 == 0))) = true then (none) else (brindlewoodlaw4_RandomIntegers.j2 k x673000 x673001 x675000 x675001 x676000 x676001 x696000 x696001 x697000 x697001 x698000 x698001 x703000 x703001)) else (none))))
def brindlewoodlaw4_RandomIntegers.j2 : Nat → Int → Int → Bool → List Int → Bool → List Int → Bool → List Int → Int → Int → Int → Int → Int → Int → Option (Bool)
 | 0, _, _, _, _, _, _, _, _, _, _, _, _, _, _ => none
 | k + 1, x673000, x673001, x675000, x675001, x676000, x676001, x696000, x696001, x697000, x697001, x698000, x698001, x703000, x703001 => if x703000 = 0 then ((brindlewoodref3_IntOk.f x675000 x675001).bind fun t726 => (if t726 = true then ((brindlewoodref3_IntOk.f x676000 x676001).bind fun t727 => (if t727 = true then ((brindlewoodref3_IntOf.f k x676000 x676001).bind fun bt728 => ((brindlewoodref3_IntOf.f k x675000 x675001).bind fun bt732 => ((brindlewoodref3_Int_Order.f k bt728.1 bt728.2 bt732.1 bt732.2).bind fun t736 => (if t736 < 0 then ((brindlewoodref4_At.f 4 (-3)).bind fun bt737 => (brindlewoodlaw4_RandomIntegers.j3 k x673000 x673001 x675000 x675001 x676000 x676001 x696000 x696001 x697000 x697001 x698000 x698001 bt737.1 bt737.2)) else (brindlewoodlaw4_RandomIntegers.j3 k x673000 x673001 x675000 x675001 x676000 x676001 x696000 x696001 x697000 x697001 x698000 x698001 x703000 x703001))))) else ((brindlewoodref4_At.f 6 (-3)).bind fun bt739 => (brindlewoodlaw4_RandomIntegers.j3 k x673000 x673001 x675000 x675001 x676000 x676001 x696000 x696001 x697000 x697001 x698000 x698001 bt739.1 bt739.2)))) else ((brindlewoodref4_At.f 6 (-2)).bind fun bt741 => (brindlewoodlaw4_RandomIntegers.j3 k x673000 x673001 x675000 x675001 x676000 x676001 x696000 x696001 x697000 x697001 x698000 x698001 bt741.1 bt741.2)))) else (brindlewoodlaw4_RandomIntegers.j3 k x673000 x673001 x675000 x675001 x676000 x676001 x696000 x696001 x697000 x697001 x698000 x698001 x703000 x703001)
def brindlewoodlaw4_RandomIntegers.j3 : Nat → Int → Int → Bool → List Int → Bool → List Int → Bool → List Int → Int → Int → Int → Int → Int → Int → Option (Bool)
 | 0, _, _, _, _, _, _, _, _, _, _, _, _, _, _ => none
 | k + 1, x673000, x673001, x675000, x675001, x676000, x676001, x696000, x696001, x697000, x697001, x698000, x698001, x703000, x703001 => if x703000 = 0 then ((brindlewoodref3_IntOf.f k x676000 x676001).bind fun bt744 => ((brindlewoodref3_IntOf.f k x675000 x675001).bind fun bt748 => ((brindlewoodref3_Int_Minus.f bt748.1 bt748.2).bind fun bt752 => ((brindlewoodref3_Int_Plus.f k bt744.1 bt744.2 bt752.1 bt752.2).bind fun bt756 => ((brindlewoodref3_Number.f k 1).bind fun bt760 => ((brindlewoodref3_Int_Plus.f k bt756.1 bt756.2 bt760.1 bt760.2).bind fun bt764 => ((brindlewoodref3_Int_Fits.f bt764.1 bt764.2 128).bind fun t768 => (if t768 = true then (brindlewoodlaw4_RandomIntegers.j4 k x673000 x673001 x675000 x675001 x696000 x696001 x697000 x697001 x698000 x698001 x703000 x703001 bt764.1 bt764.2) else ((brindlewoodref4_At.f 14 (-3)).bind fun bt769 => (brindlewoodlaw4_RandomIntegers.j4 k x673000 x673001 x675000 x675001 x696000 x696001 x697000 x697001 x698000 x698001 bt769.1 bt769.2 bt764.1 bt764.2)))))))))) else (brindlewoodlaw4_RandomIntegers.j4 k x673000 x673001 x675000 x675001 x696000 x696001 x697000 x697001 x698000 x698001 x703000 x703001 false ([] : List Int))
def brindlewoodlaw4_RandomIntegers.j4 : Nat → Int → Int → Bool → List Int → Bool → List Int → Int → Int → Int → Int → Int → Int → Bool → List Int → Option (Bool)
 | 0, _, _, _, _, _, _, _, _, _, _, _, _, _, _ => none
 | k + 1, x673000, x673001, x675000, x675001, x696000, x696001, x697000, x697001, x698000, x698001, x703000, x703001, x744000, x744001 => if x703000 = 0 then ((brindlewoodref4_Random_Below.f k x673000 x673001 x744000 x744001).bind fun bt773 => (if bt773.2.2.1 = true then (if x698000 = 0 then ((brindlewoodref3_IntOf.f k x675000 x675001).bind fun bt781 => ((brindlewoodref3_Int_Plus.f k bt773.1 bt773.2.1 bt781.1 bt781.2).bind fun bt785 => ((brindlewoodref3_SameInt.f k x696000 x696001 bt785.1 bt785.2).bind fun t789 => (if t789 = true then (some (x697000 == bt773.2.2.2.1 && (x697001 == bt773.2.2.2.2))) else (none))))) else (none)) else (some true))) else (if (x698000 == x703000 && (x698001 == x703001)) = true then ((brindlewoodref3_NoInt.f x696000 x696001).bind fun t771 => (if t771 = true then (some (x697000 == 0 && (x697001 == 0))) else (none))) else (none))
end
def brindlewoodlaw4_RandomIntegers.f (k : Nat) (a0_0 : Int) (a0_1 : Int) (a1_0 : Bool) (l1_1 : List Int) (a2_0 : Bool) (l2_1 : List Int) (a3_0 : Bool) (l3_1 : List Int) : Option (Bool) := (random_Below.f k a0_0 a0_1 a1_0 l1_1).bind fun bt676 => ((random_Between.f k a0_0 a0_1 a2_0 l2_1 a3_0 l3_1).bind fun bt687 => ((brindlewoodlaw4_draws.f k).bind fun t698 => (if t698 = true then (if (Int.tmod a0_1 2) = 0 then ((brindlewoodref4_At.f 6 (-1)).bind fun bt700 => (brindlewoodlaw4_RandomIntegers.j0 k a0_0 a0_1 a1_0 l1_1 a2_0 l2_1 a3_0 l3_1 bt676.1 bt676.2.1 bt676.2.2.1 bt676.2.2.2.1 bt676.2.2.2.2.1 bt676.2.2.2.2.2 bt687.1 bt687.2.1 bt687.2.2.1 bt687.2.2.2.1 bt687.2.2.2.2.1 bt687.2.2.2.2.2 bt700.1 bt700.2)) else (brindlewoodlaw4_RandomIntegers.j0 k a0_0 a0_1 a1_0 l1_1 a2_0 l2_1 a3_0 l3_1 bt676.1 bt676.2.1 bt676.2.2.1 bt676.2.2.2.1 bt676.2.2.2.2.1 bt676.2.2.2.2.2 bt687.1 bt687.2.1 bt687.2.2.1 bt687.2.2.2.1 bt687.2.2.2.2.1 bt687.2.2.2.2.2 0 0)) else (none))))
theorem brindlewoodlaw4_RandomIntegers.mono_l : ∀ k, (∀ y0 y1 y2 y3 y4 y5 y6 y7 y8 y9 y10 y11 y12 y13 y14 y15 y16 y17 y18 y19 y20 y21, LeO (brindlewoodlaw4_RandomIntegers.j0 k y0 y1 y2 y3 y4 y5 y6 y7 y8 y9 y10 y11 y12 y13 y14 y15 y16 y17 y18 y19 y20 y21) (brindlewoodlaw4_RandomIntegers.j0 (k + 1) y0 y1 y2 y3 y4 y5 y6 y7 y8 y9 y10 y11 y12 y13 y14 y15 y16 y17 y18 y19 y20 y21)) ∧ (∀ y0 y1 y2 y3 y4 y5 y6 y7 y8 y9 y10 y11 y12 y13 y14 y15 y16 y17 y18 y19 y20 y21 y22 y23, LeO (brindlewoodlaw4_RandomIntegers.j1 k y0 y1 y2 y3 y4 y5 y6 y7 y8 y9 y10 y11 y12 y13 y14 y15 y16 y17 y18 y19 y20 y21 y22 y23) (brindlewoodlaw4_RandomIntegers.j1 (k + 1) y0 y1 y2 y3 y4 y5 y6 y7 y8 y9 y10 y11 y12 y13 y14 y15 y16 y17 y18 y19 y20 y21 y22 y23)) ∧ (∀ y0 y1 y2 y3 y4 y5 y6 y7 y8 y9 y10 y11 y12 y13, LeO (brindlewoodlaw4_RandomIntegers.j2 k y0 y1 y2 y3 y4 y5 y6 y7 y8 y9 y10 y11 y12 y13) (brindlewoodlaw4_RandomIntegers.j2 (k + 1) y0 y1 y2 y3 y4 y5 y6 y7 y8 y9 y10 y11 y12 y13)) ∧ (∀ y0 y1 y2 y3 y4 y5 y6 y7 y8 y9 y10 y11 y12 y13, LeO (brindlewoodlaw4_RandomIntegers.j3 k y0 y1 y2 y3 y4 y5 y6 y7 y8 y9 y10 y11 y12 y13) (brindlewoodlaw4_RandomIntegers.j3 (k + 1) y0 y1 y2 y3 y4 y5 y6 y7 y8 y9 y10 y11 y12 y13)) ∧ (∀ y0 y1 y2 y3 y4 y5 y6 y7 y8 y9 y10 y11 y12 y13, LeO (brindlewoodlaw4_RandomIntegers.j4 k y0 y1 y2 y3 y4 y5 y6 y7 y8 y9 y10 y11 y12 y13) (brindlewoodlaw4_RandomIntegers.j4 (k + 1) y0 y1 y2 y3 y4 y5 y6 y7 y8 y9 y10 y11 y12 y13))
 | 0 => ⟨fun _ _ _ _ _ _ _ _ _ _ _ _ _ _ _ _ _ _ _ _ _ _ r h => by simp [brindlewoodlaw4_RandomIntegers.j0] at h, fun _ _ _ _ _ _ _ _ _ _ _ _ _ _ _ _ _ _ _ _ _ _ _ _ r h => by simp [brindlewoodlaw4_RandomIntegers.j1] at h, fun _ _ _ _ _ _ _ _ _ _ _ _ _ _ r h => by simp [brindlewoodlaw4_RandomIntegers.j2] at h, fun _ _ _ _ _ _ _ _ _ _ _ _ _ _ r h => by simp [brindlewoodlaw4_RandomIntegers.j3] at h, fun _ _ _ _ _ _ _ _ _ _ _ _ _ _ r h => by simp [brindlewoodlaw4_RandomIntegers.j4] at h⟩
 | k + 1 => by
  obtain ⟨ih0, ih1, ih2, ih3, ih4⟩ := brindlewoodlaw4_RandomIntegers.mono_l k
  refine ⟨?_, ?_, ?_, ?_, ?_⟩
  ·intro y0 y1 y2 y3 y4 y5 y6 y7 y8 y9 y10 y11 y12 y13 y14 y15 y16 y17 y18 y19 y20 y21
   unfold brindlewoodlaw4_RandomIntegers.j0
   repeat' first
   | (with_reducible exact ih0 _ _ _ _ _ _ _ _ _ _ _ _ _ _ _ _ _ _ _ _ _ _)
   | (with_reducible exact ih1 _ _ _ _ _ _ _ _ _ _ _ _ _ _ _ _ _ _ _ _ _ _ _ _)
   | (with_reducible exact ih2 _ _ _ _ _ _ _ _ _ _ _ _ _ _)
   | (with_reducible exact ih3 _ _ _ _ _ _ _ _ _ _ _ _ _ _)
   | (with_reducible exact ih4 _ _ _ _ _ _ _ _ _ _ _ _ _ _)
   | (with_reducible exact brindlewoodlaw4_draws.mono _)
   | (with_reducible exact brindlewoodref3_IntOf.mono _ _ _)
   | (with_reducible exact brindlewoodref3_Int_Order.mono _ _ _ _ _)
   | (with_reducible exact brindlewoodref3_Int_Plus.mono _ _ _ _ _)
   | (with_reducible exact brindlewoodref3_Number.mono _ _)
   | (with_reducible exact brindlewoodref3_SameInt.mono _ _ _ _ _)
   | (with_reducible exact brindlewoodref4_Random_Below.mono _ _ _ _ _)
   | (with_reducible exact random_Below.mono _ _ _ _ _)
   | (with_reducible exact random_Between.mono _ _ _ _ _ _ _)
   | (with_reducible exact LeO.refl _)
   | (with_reducible exact LeO.none _)
   | (with_reducible refine LeO.ite ?_ ?_)
   | (with_reducible refine LeO.bind ?_ (fun _ => ?_))
   | exact ih0 _ _ _ _ _ _ _ _ _ _ _ _ _ _ _ _ _ _ _ _ _ _
   | exact ih1 _ _ _ _ _ _ _ _ _ _ _ _ _ _ _ _ _ _ _ _ _ _ _ _
   | exact ih2 _ _ _ _ _ _ _ _ _ _ _ _ _ _
   | exact ih3 _ _ _ _ _ _ _ _ _ _ _ _ _ _
   | exact ih4 _ _ _ _ _ _ _ _ _ _ _ _ _ _
   | exact brindlewoodlaw4_draws.mono _
   | exact brindlewoodref3_IntOf.mono _ _ _
   | exact brindlewoodref3_Int_Order.mono _ _ _ _ _
   | exact brindlewoodref3_Int_Plus.mono _ _ _ _ _
   | exact brindlewoodref3_Number.mono _ _
   | exact brindlewoodref3_SameInt.mono _ _ _ _ _
   | exact brindlewoodref4_Random_Below.mono _ _ _ _ _
   | exact random_Below.mono _ _ _ _ _
   | exact random_Between.mono _ _ _ _ _ _ _
   | exact LeO.none _
   | refine LeO.ite ?_ ?_
   | refine LeO.bind ?_ (fun _ => ?_)
  ·intro y0 y1 y2 y3 y4 y5 y6 y7 y8 y9 y10 y11 y12 y13 y14 y15 y16 y17 y18 y19 y20 y21 y22 y23
   unfold brindlewoodlaw4_RandomIntegers.j1
   repeat' first
   | (with_reducible exact ih0 _ _ _ _ _ _ _ _ _ _ _ _ _ _ _ _ _ _ _ _ _ _)
   | (with_reducible exact ih1 _ _ _ _ _ _ _ _ _ _ _ _ _ _ _ _ _ _ _ _ _ _ _ _)
   | (with_reducible exact ih2 _ _ _ _ _ _ _ _ _ _ _ _ _ _)
   | (with_reducible exact ih3 _ _ _ _ _ _ _ _ _ _ _ _ _ _)
   | (with_reducible exact ih4 _ _ _ _ _ _ _ _ _ _ _ _ _ _)
   | (with_reducible exact brindlewoodlaw4_draws.mono _)
   | (with_reducible exact brindlewoodref3_IntOf.mono _ _ _)
   | (with_reducible exact brindlewoodref3_Int_Order.mono _ _ _ _ _)
   | (with_reducible exact brindlewoodref3_Int_Plus.mono _ _ _ _ _)
   | (with_reducible exact brindlewoodref3_Number.mono _ _)
   | (with_reducible exact brindlewoodref3_SameInt.mono _ _ _ _ _)
   | (with_reducible exact brindlewoodref4_Random_Below.mono _ _ _ _ _)
   | (with_reducible exact random_Below.mono _ _ _ _ _)
   | (with_reducible exact random_Between.mono _ _ _ _ _ _ _)
   | (with_reducible exact LeO.refl _)
   | (with_reducible exact LeO.none _)
   | (with_reducible refine LeO.ite ?_ ?_)
   | (with_reducible refine LeO.bind ?_ (fun _ => ?_))
   | exact ih0 _ _ _ _ _ _ _ _ _ _ _ _ _ _ _ _ _ _ _ _ _ _
   | exact ih1 _ _ _ _ _ _ _ _ _ _ _ _ _ _ _ _ _ _ _ _ _ _ _ _
   | exact ih2 _ _ _ _ _ _ _ _ _ _ _ _ _ _
   | exact ih3 _ _ _ _ _ _ _ _ _ _ _ _ _ _
   | exact ih4 _ _ _ _ _ _ _ _ _ _ _ _ _ _
   | exact brindlewoodlaw4_draws.mono _
   | exact brindlewoodref3_IntOf.mono _ _ _
   | exact brindlewoodref3_Int_Order.mono _ _ _ _ _
   | exact brindlewoodref3_Int_Plus.mono _ _ _ _ _
   | exact brindlewoodref3_Number.mono _ _
   | exact brindlewoodref3_SameInt.mono _ _ _ _ _
   | exact brindlewoodref4_Random_Below.mono _ _ _ _ _
   | exact random_Below.mono _ _ _ _ _
   | exact random_Between.mono _ _ _ _ _ _ _
   | exact LeO.none _
   | refine LeO.ite ?_ ?_
   | refine LeO.bind ?_ (fun _ => ?_)
  ·intro y0 y1 y2 y3 y4 y5 y6 y7 y8 y9 y10 y11 y12 y13
   unfold brindlewoodlaw4_RandomIntegers.j2
   repeat' first
   | (with_reducible exact ih0 _ _ _ _ _ _ _ _ _ _ _ _ _ _ _ _ _ _ _ _ _ _)
   | (with_reducible exact ih1 _ _ _ _ _ _ _ _ _ _ _ _ _ _ _ _ _ _ _ _ _ _ _ _)
   | (with_reducible exact ih2 _ _ _ _ _ _ _ _ _ _ _ _ _ _)
   | (with_reducible exact ih3 _ _ _ _ _ _ _ _ _ _ _ _ _ _)
   | (with_reducible exact ih4 _ _ _ _ _ _ _ _ _ _ _ _ _ _)
   | (with_reducible exact brindlewoodlaw4_draws.mono _)
   | (with_reducible exact brindlewoodref3_IntOf.mono _ _ _)
   | (with_reducible exact brindlewoodref3_Int_Order.mono _ _ _ _ _)
   | (with_reducible exact brindlewoodref3_Int_Plus.mono _ _ _ _ _)
   | (with_reducible exact brindlewoodref3_Number.mono _ _)
   | (with_reducible exact brindlewoodref3_SameInt.mono _ _ _ _ _)
   | (with_reducible exact brindlewoodref4_Random_Below.mono _ _ _ _ _)
   | (with_reducible exact random_Below.mono _ _ _ _ _)
   | (with_reducible exact random_Between.mono _ _ _ _ _ _ _)
   | (with_reducible exact LeO.refl _)
   | (with_reducible exact LeO.none _)
   | (with_reducible refine LeO.ite ?_ ?_)
   | (with_reducible refine LeO.bind ?_ (fun _ => ?_))
   | exact ih0 _ _ _ _ _ _ _ _ _ _ _ _ _ _ _ _ _ _ _ _ _ _
   | exact ih1 _ _ _ _ _ _ _ _ _ _ _ _ _ _ _ _ _ _ _ _ _ _ _ _
   | exact ih2 _ _ _ _ _ _ _ _ _ _ _ _ _ _
   | exact ih3 _ _ _ _ _ _ _ _ _ _ _ _ _ _
   | exact ih4 _ _ _ _ _ _ _ _ _ _ _ _ _ _
   | exact brindlewoodlaw4_draws.mono _
   | exact brindlewoodref3_IntOf.mono _ _ _
   | exact brindlewoodref3_Int_Order.mono _ _ _ _ _
   | exact brindlewoodref3_Int_Plus.mono _ _ _ _ _
   | exact brindlewoodref3_Number.mono _ _
   | exact brindlewoodref3_SameInt.mono _ _ _ _ _
   | exact brindlewoodref4_Random_Below.mono _ _ _ _ _
   | exact random_Below.mono _ _ _ _ _
   | exact random_Between.mono _ _ _ _ _ _ _
   | exact LeO.none _
   | refine LeO.ite ?_ ?_
   | refine LeO.bind ?_ (fun _ => ?_)
  ·intro y0 y1 y2 y3 y4 y5 y6 y7 y8 y9 y10 y11 y12 y13
   unfold brindlewoodlaw4_RandomIntegers.j3
   repeat' first
   | (with_reducible exact ih0 _ _ _ _ _ _ _ _ _ _ _ _ _ _ _ _ _ _ _ _ _ _)
   | (with_reducible exact ih1 _ _ _ _ _ _ _ _ _ _ _ _ _ _ _ _ _ _ _ _ _ _ _ _)
   | (with_reducible exact ih2 _ _ _ _ _ _ _ _ _ _ _ _ _ _)
   | (with_reducible exact ih3 _ _ _ _ _ _ _ _ _ _ _ _ _ _)
   | (with_reducible exact ih4 _ _ _ _ _ _ _ _ _ _ _ _ _ _)
   | (with_reducible exact brindlewoodlaw4_draws.mono _)
   | (with_reducible exact brindlewoodref3_IntOf.mono _ _ _)
   | (with_reducible exact brindlewoodref3_Int_Order.mono _ _ _ _ _)
   | (with_reducible exact brindlewoodref3_Int_Plus.mono _ _ _ _ _)
   | (with_reducible exact brindlewoodref3_Number.mono _ _)
   | (with_reducible exact brindlewoodref3_SameInt.mono _ _ _ _ _)
   | (with_reducible exact brindlewoodref4_Random_Below.mono _ _ _ _ _)
   | (with_reducible exact random_Below.mono _ _ _ _ _)
   | (with_reducible exact random_Between.mono _ _ _ _ _ _ _)
   | (with_reducible exact LeO.refl _)
   | (with_reducible exact LeO.none _)
   | (with_reducible refine LeO.ite ?_ ?_)
   | (with_reducible refine LeO.bind ?_ (fun _ => ?_))
   | exact ih0 _ _ _ _ _ _ _ _ _ _ _ _ _ _ _ _ _ _ _ _ _ _
   | exact ih1 _ _ _ _ _ _ _ _ _ _ _ _ _ _ _ _ _ _ _ _ _ _ _ _
   | exact ih2 _ _ _ _ _ _ _ _ _ _ _ _ _ _
   | exact ih3 _ _ _ _ _ _ _ _ _ _ _ _ _ _
   | exact ih4 _ _ _ _ _ _ _ _ _ _ _ _ _ _
   | exact brindlewoodlaw4_draws.mono _
   | exact brindlewoodref3_IntOf.mono _ _ _
   | exact brindlewoodref3_Int_Order.mono _ _ _ _ _
   | exact brindlewoodref3_Int_Plus.mono _ _ _ _ _
   | exact brindlewoodref3_Number.mono _ _
   | exact brindlewoodref3_SameInt.mono _ _ _ _ _
   | exact brindlewoodref4_Random_Below.mono _ _ _ _ _
   | exact random_Below.mono _ _ _ _ _
   | exact random_Between.mono _ _ _ _ _ _ _
   | exact LeO.none _
   | refine LeO.ite ?_ ?_
   | refine LeO.bind ?_ (fun _ => ?_)
  ·intro y0 y1 y2 y3 y4 y5 y6 y7 y8 y9 y10 y11 y12 y13
   unfold brindlewoodlaw4_RandomIntegers.j4
   repeat' first
   | (with_reducible exact ih0 _ _ _ _ _ _ _ _ _ _ _ _ _ _ _ _ _ _ _ _ _ _)
   | (with_reducible exact ih1 _ _ _ _ _ _ _ _ _ _ _ _ _ _ _ _ _ _ _ _ _ _ _ _)
   | (with_reducible exact ih2 _ _ _ _ _ _ _ _ _ _ _ _ _ _)
   | (with_reducible exact ih3 _ _ _ _ _ _ _ _ _ _ _ _ _ _)
   | (with_reducible exact ih4 _ _ _ _ _ _ _ _ _ _ _ _ _ _)
   | (with_reducible exact brindlewoodlaw4_draws.mono _)
   | (with_reducible exact brindlewoodref3_IntOf.mono _ _ _)
   | (with_reducible exact brindlewoodref3_Int_Order.mono _ _ _ _ _)
   | (with_reducible exact brindlewoodref3_Int_Plus.mono _ _ _ _ _)
   | (with_reducible exact brindlewoodref3_Number.mono _ _)
   | (with_reducible exact brindlewoodref3_SameInt.mono _ _ _ _ _)
   | (with_reducible exact brindlewoodref4_Random_Below.mono _ _ _ _ _)
   | (with_reducible exact random_Below.mono _ _ _ _ _)
   | (with_reducible exact random_Between.mono _ _ _ _ _ _ _)
   | (with_reducible exact LeO.refl _)
   | (with_reducible exact LeO.none _)
   | (with_reducible refine LeO.ite ?_ ?_)
   | (with_reducible refine LeO.bind ?_ (fun _ => ?_))
   | exact ih0 _ _ _ _ _ _ _ _ _ _ _ _ _ _ _ _ _ _ _ _ _ _
   | exact ih1 _ _ _ _ _ _ _ _ _ _ _ _ _ _ _ _ _ _ _ _ _ _ _ _
   | exact ih2 _ _ _ _ _ _ _ _ _ _ _ _ _ _
   | exact ih3 _ _ _ _ _ _ _ _ _ _ _ _ _ _
   | exact ih4 _ _ _ _ _ _ _ _ _ _ _ _ _ _
   | exact brindlewoodlaw4_draws.mono _
   | exact brindlewoodref3_IntOf.mono _ _ _
   | exact brindlewoodref3_Int_Order.mono _ _ _ _ _
   | exact brindlewoodref3_Int_Plus.mono _ _ _ _ _
   | exact brindlewoodref3_Number.mono _ _
   | exact brindlewoodref3_SameInt.mono _ _ _ _ _
   | exact brindlewoodref4_Random_Below.mono _ _ _ _ _
   | exact random_Below.mono _ _ _ _ _
   | exact random_Between.mono _ _ _ _ _ _ _
   | exact LeO.none _
   | refine LeO.ite ?_ ?_
   | refine LeO.bind ?_ (fun _ => ?_)
theorem brindlewoodlaw4_RandomIntegers.mono : ∀ a0 a1 a2 a3 a4 a5 a6 a7 k, LeO (brindlewoodlaw4_RandomIntegers.f k a0 a1 a2 a3 a4 a5 a6 a7) (brindlewoodlaw4_RandomIntegers.f (k + 1) a0 a1 a2 a3 a4 a5 a6 a7) := by
 intro a0 a1 a2 a3 a4 a5 a6 a7 k
 obtain ⟨ih0, ih1, ih2, ih3, ih4⟩ := brindlewoodlaw4_RandomIntegers.mono_l k
 unfold brindlewoodlaw4_RandomIntegers.f
 repeat' first
   | (with_reducible exact ih0 _ _ _ _ _ _ _ _ _ _ _ _ _ _ _ _ _ _ _ _ _ _)
   | (with_reducible exact ih1 _ _ _ _ _ _ _ _ _ _ _ _ _ _ _ _ _ _ _ _ _ _ _ _)
   | (with_reducible exact ih2 _ _ _ _ _ _ _ _ _ _ _ _ _ _)
   | (with_reducible exact ih3 _ _ _ _ _ _ _ _ _ _ _ _ _ _)
   | (with_reducible exact ih4 _ _ _ _ _ _ _ _ _ _ _ _ _ _)
   | (with_reducible exact brindlewoodlaw4_draws.mono _)
   | (with_reducible exact brindlewoodref3_IntOf.mono _ _ _)
   | (with_reducible exact brindlewoodref3_Int_Order.mono _ _ _ _ _)
   | (with_reducible exact brindlewoodref3_Int_Plus.mono _ _ _ _ _)
   | (with_reducible exact brindlewoodref3_Number.mono _ _)
   | (with_reducible exact brindlewoodref3_SameInt.mono _ _ _ _ _)
   | (with_reducible exact brindlewoodref4_Random_Below.mono _ _ _ _ _)
   | (with_reducible exact random_Below.mono _ _ _ _ _)
   | (with_reducible exact random_Between.mono _ _ _ _ _ _ _)
   | (with_reducible exact LeO.refl _)
   | (with_reducible exact LeO.none _)
   | (with_reducible refine LeO.ite ?_ ?_)
   | (with_reducible refine LeO.bind ?_ (fun _ => ?_))
   | exact ih0 _ _ _ _ _ _ _ _ _ _ _ _ _ _ _ _ _ _ _ _ _ _
   | exact ih1 _ _ _ _ _ _ _ _ _ _ _ _ _ _ _ _ _ _ _ _ _ _ _ _
   | exact ih2 _ _ _ _ _ _ _ _ _ _ _ _ _ _
   | exact ih3 _ _ _ _ _ _ _ _ _ _ _ _ _ _
   | exact ih4 _ _ _ _ _ _ _ _ _ _ _ _ _ _
   | exact brindlewoodlaw4_draws.mono _
   | exact brindlewoodref3_IntOf.mono _ _ _
   | exact brindlewoodref3_Int_Order.mono _ _ _ _ _
   | exact brindlewoodref3_Int_Plus.mono _ _ _ _ _
   | exact brindlewoodref3_Number.mono _ _
   | exact brindlewoodref3_SameInt.mono _ _ _ _ _
   | exact brindlewoodref4_Random_Below.mono _ _ _ _ _
   | exact random_Below.mono _ _ _ _ _
   | exact random_Between.mono _ _ _ _ _ _ _
   | exact LeO.none _
   | refine LeO.ite ?_ ?_
   | refine LeO.bind ?_ (fun _ => ?_)
def brindlewoodlaw4_RandomIntegers.T30 : Bool × List (List Nat × List Nat) := (true, [([], []), ([0], [0]), ([], []), ([2, 1], [2]), ([3, 3], [3]), ([1, 4, 4], [1, 4]), ([5], []), ([5, 6, 6], [5, 6]), ([7, 7, 0, 1, 2, 3, 4, 5, 6, 7], [7])])
def brindlewoodlaw4_RandomIntegers.B30 : List Nat := [0, 1, 0, 7, 15, 31, 63, 127, 255]
def brindlewoodlaw4_RandomIntegers.T37 : Bool × List (List Nat × List Nat) := (true, [([], []), ([0], [0]), ([1], [1]), ([2], [2]), ([3, 2], [2, 3]), ([4, 2], [2, 4]), ([5, 2, 2], [2, 5]), ([6], [6]), ([6], [6]), ([6], [6]), ([9, 6, 6], [6, 9]), ([8, 10, 10, 6], [6, 8, 10]), ([7, 11, 11, 6], [6, 7, 11]), ([6, 12, 2], [2, 6, 12]), ([13, 12, 2], [2, 13]), ([14], [14]), ([14], [14]), ([16, 14], [14, 16]), ([15, 17, 14], [14, 15, 17]), ([14, 18, 2], [2, 14, 18]), ([2, 19], [2, 19]), ([20, 14, 0, 1, 2, 3, 4, 5, 6, 7, 8, 9, 10, 11, 12, 13, 14, 15, 16, 17, 18, 19, 20], [20])])
def brindlewoodlaw4_RandomIntegers.B37 : List Nat := [0, 1, 3, 7, 15, 31, 63, 127, 127, 127, 639, 1919, 4095, 8191, 16383, 32767, 32767, 98303, 262143, 524287, 1048575, 2097151]
def integer_Small.l0 : Nat → Int → List Int → Int → Int → Bool → List Int → Option (Int × Int × Int)
 | 0, _, _, _, _, _, _ => none
 | k + 1, x5, x17, x18, x19, x809000, x809001 => if x19 < x18 then (if 0 ≤ x19 then (if x19 < (x17.length : Int) then (if x19 > 1 then ((integer_at.f 14 (-1)).bind fun bt817 => (some (0, bt817.1, bt817.2))) else (if 0 ≤ (wrap64 (32 * x19)) then (integer_Small.l0 k (Go.bits .or .u64 x5 (shl .u64 (IntKind.u64.wrap (rd x17 x19)) (wrap64 (32 * x19)))) x17 x18 (wrap64 (x19 + 1)) x809000 x809001) else (none))) else (none)) else (none)) else (if x809000 = true then (if ((decide ((wrap64 (-(wrap64 (x5)))) < 0)) != x809000) = true then ((integer_at.f 14 (-1)).bind fun bt819 => (some (0, bt819.1, bt819.2))) else (some (wrap64 (-(wrap64 (x5))), 0, 0))) else (if ((decide ((wrap64 (x5)) < 0)) != x809000) = true then ((integer_at.f 14 (-1)).bind fun bt821 => (some (0, bt821.1, bt821.2))) else (some (wrap64 (x5), 0, 0))))
def integer_Small.f (k : Nat) (a0_0 : Bool) (l0_1 : List Int) : Option (Int × Int × Int) := (integer_check.f k (([(⟨a0_0, l0_1⟩ : S24)] : List (S24)))).bind fun bt813 => (if bt813.1 = 0 then (integer_Small.l0 k 0 l0_1 (l0_1.length : Int) 0 a0_0 l0_1) else (some (0, bt813.1, bt813.2)))
theorem integer_Small.mono_l : ∀ k, (∀ y0 y1 y2 y3 y4 y5, LeO (integer_Small.l0 k y0 y1 y2 y3 y4 y5) (integer_Small.l0 (k + 1) y0 y1 y2 y3 y4 y5))
 | 0 => fun _ _ _ _ _ _ r h => by simp [integer_Small.l0] at h
 | k + 1 => by
  have ih0 := integer_Small.mono_l k
  ·intro y0 y1 y2 y3 y4 y5
   unfold integer_Small.l0
   repeat' first
   | (with_reducible exact ih0 _ _ _ _ _ _)
   | (with_reducible exact integer_check.mono _ _)
   | (with_reducible exact LeO.refl _)
   | (with_reducible exact LeO.none _)
   | (with_reducible refine LeO.ite ?_ ?_)
   | (with_reducible refine LeO.bind ?_ (fun _ => ?_))
   | exact ih0 _ _ _ _ _ _
   | exact integer_check.mono _ _
   | exact LeO.none _
   | refine LeO.ite ?_ ?_
   | refine LeO.bind ?_ (fun _ => ?_)
theorem integer_Small.mono : ∀ a0 a1 k, LeO (integer_Small.f k a0 a1) (integer_Small.f (k + 1) a0 a1) := by
 intro a0 a1 k
 have ih0 := integer_Small.mono_l k
 unfold integer_Small.f
 repeat' first
   | (with_reducible exact ih0 _ _ _ _ _ _)
   | (with_reducible exact integer_check.mono _ _)
   | (with_reducible exact LeO.refl _)
   | (with_reducible exact LeO.none _)
   | (with_reducible refine LeO.ite ?_ ?_)
   | (with_reducible refine LeO.bind ?_ (fun _ => ?_))
   | exact ih0 _ _ _ _ _ _
   | exact integer_check.mono _ _
   | exact LeO.none _
   | refine LeO.ite ?_ ?_
   | refine LeO.bind ?_ (fun _ => ?_)
def random_source_small.f (k : Nat) (s0_0 : Int) (s0_1 : Int) (a1 : Int) : Option (Int × Int × Int) := (integer_Of.f k a1).bind fun bt823 => ((random_source_below.f k s0_0 s0_1 bt823.1 bt823.2).bind fun bt827 => ((integer_Small.f k bt827.1 bt827.2.1).bind fun bt833 => (some (bt833.1, bt827.2.2.1, bt827.2.2.2))))
theorem random_source_small.mono : ∀ a0 a1 a2 k, LeO (random_source_small.f k a0 a1 a2) (random_source_small.f (k + 1) a0 a1 a2) := by
 intro a0 a1 a2 k
 unfold random_source_small.f
 repeat' first
   | (with_reducible exact integer_Of.mono _ _)
   | (with_reducible exact integer_Small.mono _ _ _)
   | (with_reducible exact random_source_below.mono _ _ _ _ _)
   | (with_reducible exact LeO.refl _)
   | (with_reducible exact LeO.none _)
   | (with_reducible refine LeO.ite ?_ ?_)
   | (with_reducible refine LeO.bind ?_ (fun _ => ?_))
   | exact integer_Of.mono _ _
   | exact integer_Small.mono _ _ _
   | exact random_source_below.mono _ _ _ _ _
   | exact LeO.none _
   | refine LeO.ite ?_ ?_
   | refine LeO.bind ?_ (fun _ => ?_)
mutual
def random_Choose.l0 : Nat → List Int → Int → List Int → Int → Int → Int → Int → Option (Int × Int × Int × Int × Int)
 | 0, _, _, _, _, _, _, _ => none
 | k + 1, x1, x9, x29, x30, x31, x938000, x938001 => if x31 < x30 then (if 0 ≤ x31 then (if x31 < (x29.length : Int) then (if (rd x29 x31) < 0 then ((random_at.f 4 x31).bind fun bt942 => (some (0, 0, 0, bt942.1, bt942.2))) else (if (rd x29 x31) > 1000000 then ((random_at.f 4 x31).bind fun bt944 => (some (0, 0, 0, bt944.1, bt944.2))) else (random_Choose.l0 k x1 (wrap64 (x9 + (rd x29 x31))) x29 x30 (wrap64 (x31 + 1)) x938000 x938001))) else (none)) else (none)) else (if x9 = 0 then ((random_at.f 10 (-2)).bind fun bt946 => (some (0, 0, 0, bt946.1, bt946.2))) else ((random_source_small.f k x938000 x938001 x9).bind fun bt948 => (random_Choose.l1 k x1 bt948.1 0 bt948.2.1 bt948.2.2)))
def random_Choose.l1 : Nat → List Int → Int → Int → Int → Int → Option (Int × Int × Int × Int × Int)
 | 0, _, _, _, _, _ => none
 | k + 1, x1, x12, x13, x938000, x938001 => if 0 ≤ x13 then (if x13 < (x1.length : Int) then (if x12 ≥ (rd x1 x13) then (random_Choose.l1 k x1 (wrap64 (x12 - (rd x1 x13))) (wrap64 (x13 + 1)) x938000 x938001) else (some (x13, x938000, x938001, 0, 0))) else (none)) else (none)
end
def random_Choose.f (k : Nat) (a0_0 : Int) (a0_1 : Int) (l1 : List Int) : Option (Int × Int × Int × Int × Int) := if a0_1 % 2 = 0 then ((random_open_no.f a0_0 a0_1).bind fun _ => (some (0, 0, 0, 6, (-1)))) else ((random_open_ok.f a0_0 a0_1).bind fun bt935 => (if (l1.length : Int) > 1000 then ((random_at.f 2 (-2)).bind fun bt939 => (some (0, 0, 0, bt939.1, bt939.2))) else (random_Choose.l0 k l1 0 l1 (l1.length : Int) 0 bt935.1 bt935.2)))
theorem random_Choose.mono_l : ∀ k, (∀ y0 y1 y2 y3 y4 y5 y6, LeO (random_Choose.l0 k y0 y1 y2 y3 y4 y5 y6) (random_Choose.l0 (k + 1) y0 y1 y2 y3 y4 y5 y6)) ∧ (∀ y0 y1 y2 y3 y4, LeO (random_Choose.l1 k y0 y1 y2 y3 y4) (random_Choose.l1 (k + 1) y0 y1 y2 y3 y4))
 | 0 => ⟨fun _ _ _ _ _ _ _ r h => by simp [random_Choose.l0] at h, fun _ _ _ _ _ r h => by simp [random_Choose.l1] at h⟩
 | k + 1 => by
  obtain ⟨ih0, ih1⟩ := random_Choose.mono_l k
  refine ⟨?_, ?_⟩
  ·intro y0 y1 y2 y3 y4 y5 y6
   unfold random_Choose.l0
   repeat' first
   | (with_reducible exact ih0 _ _ _ _ _ _ _)
   | (with_reducible exact ih1 _ _ _ _ _)
   | (with_reducible exact random_source_small.mono _ _ _ _)
   | (with_reducible exact LeO.refl _)
   | (with_reducible exact LeO.none _)
   | (with_reducible refine LeO.ite ?_ ?_)
   | (with_reducible refine LeO.bind ?_ (fun _ => ?_))
   | exact ih0 _ _ _ _ _ _ _
   | exact ih1 _ _ _ _ _
   | exact random_source_small.mono _ _ _ _
   | exact LeO.none _
   | refine LeO.ite ?_ ?_
   | refine LeO.bind ?_ (fun _ => ?_)
  ·intro y0 y1 y2 y3 y4
   unfold random_Choose.l1
   repeat' first
   | (with_reducible exact ih0 _ _ _ _ _ _ _)
   | (with_reducible exact ih1 _ _ _ _ _)
   | (with_reducible exact random_source_small.mono _ _ _ _)
   | (with_reducible exact LeO.refl _)
   | (with_reducible exact LeO.none _)
   | (with_reducible refine LeO.ite ?_ ?_)
   | (with_reducible refine LeO.bind ?_ (fun _ => ?_))
   | exact ih0 _ _ _ _ _ _ _
   | exact ih1 _ _ _ _ _
   | exact random_source_small.mono _ _ _ _
   | exact LeO.none _
   | refine LeO.ite ?_ ?_
   | refine LeO.bind ?_ (fun _ => ?_)
theorem random_Choose.mono : ∀ a0 a1 a2 k, LeO (random_Choose.f k a0 a1 a2) (random_Choose.f (k + 1) a0 a1 a2) := by
 intro a0 a1 a2 k
 obtain ⟨ih0, ih1⟩ := random_Choose.mono_l k
 unfold random_Choose.f
 repeat' first
   | (with_reducible exact ih0 _ _ _ _ _ _ _)
   | (with_reducible exact ih1 _ _ _ _ _)
   | (with_reducible exact random_source_small.mono _ _ _ _)
   | (with_reducible exact LeO.refl _)
   | (with_reducible exact LeO.none _)
   | (with_reducible refine LeO.ite ?_ ?_)
   | (with_reducible refine LeO.bind ?_ (fun _ => ?_))
   | exact ih0 _ _ _ _ _ _ _
   | exact ih1 _ _ _ _ _
   | exact random_source_small.mono _ _ _ _
   | exact LeO.none _
   | refine LeO.ite ?_ ?_
   | refine LeO.bind ?_ (fun _ => ?_)
def random_Choose.T21 : Bool × List (List Nat × List Nat) := (true, [([], []), ([], []), ([1], [1]), ([2], [2]), ([3], [3]), ([], []), ([0, 0], [0]), ([4, 6, 0, 1, 2, 3, 4, 6], [4]), ([5, 7, 0, 1, 2, 3, 4, 5, 6, 7], [5])])
def random_Choose.B21 : List Nat := [0, 0, 2, 6, 14, 0, 1, 95, 255]
def brindlewoodref3_Moved.j0 : Nat → Int → List Bool → Bool → Option (List Int)
 | 0, _, _, _ => none
 | k + 1, x1, x5, x8 => if x8 = true then (some ([] : List Int)) else (if x1 < 0 then (if 0 ≤ (wrap64 (-x1)) then (if (wrap64 (-x1)) ≤ (x5.length : Int) then ((brindlewoodref3_Binary.f k (x5.drop ((wrap64 (-x1)) : Int).toNat)).bind fun t1079 => (some t1079)) else (none)) else (none)) else (if 0 ≤ x1 then (if (x1 : Int).toNat ≤ 281474976710656 then ((some (List.replicate (x1 : Int).toNat false : List Bool)).bind fun y1082 => (if y1082.length + x5.length < 140737488355328 then ((brindlewoodref3_Binary.f k (y1082 ++ x5)).bind fun t1088 => (some t1088)) else (none))) else (none)) else (none)))
def brindlewoodref3_Moved.f (k : Nat) (l0 : List Int) (a1 : Int) : Option (List Int) := (brindlewoodref3_Ones.f k l0).bind fun t1072 => (if (t1072.length : Int) = 0 then (brindlewoodref3_Moved.j0 k a1 t1072 true) else (brindlewoodref3_Moved.j0 k a1 t1072 (decide (a1 ≤ (wrap64 (-(t1072.length : Int)))))))
theorem brindlewoodref3_Moved.mono_l : ∀ k, (∀ y0 y1 y2, LeO (brindlewoodref3_Moved.j0 k y0 y1 y2) (brindlewoodref3_Moved.j0 (k + 1) y0 y1 y2))
 | 0 => fun _ _ _ r h => by simp [brindlewoodref3_Moved.j0] at h
 | k + 1 => by
  have ih0 := brindlewoodref3_Moved.mono_l k
  ·intro y0 y1 y2
   unfold brindlewoodref3_Moved.j0
   repeat' first
   | (with_reducible exact ih0 _ _ _)
   | (with_reducible exact brindlewoodref3_Binary.mono _ _)
   | (with_reducible exact brindlewoodref3_Ones.mono _ _)
   | (with_reducible exact LeO.refl _)
   | (with_reducible exact LeO.none _)
   | (with_reducible refine LeO.ite ?_ ?_)
   | (with_reducible refine LeO.bind ?_ (fun _ => ?_))
   | exact ih0 _ _ _
   | exact brindlewoodref3_Binary.mono _ _
   | exact brindlewoodref3_Ones.mono _ _
   | exact LeO.none _
   | refine LeO.ite ?_ ?_
   | refine LeO.bind ?_ (fun _ => ?_)
theorem brindlewoodref3_Moved.mono : ∀ a0 a1 k, LeO (brindlewoodref3_Moved.f k a0 a1) (brindlewoodref3_Moved.f (k + 1) a0 a1) := by
 intro a0 a1 k
 have ih0 := brindlewoodref3_Moved.mono_l k
 unfold brindlewoodref3_Moved.f
 repeat' first
   | (with_reducible exact ih0 _ _ _)
   | (with_reducible exact brindlewoodref3_Binary.mono _ _)
   | (with_reducible exact brindlewoodref3_Ones.mono _ _)
   | (with_reducible exact LeO.refl _)
   | (with_reducible exact LeO.none _)
   | (with_reducible refine LeO.ite ?_ ?_)
   | (with_reducible refine LeO.bind ?_ (fun _ => ?_))
   | exact ih0 _ _ _
   | exact brindlewoodref3_Binary.mono _ _
   | exact brindlewoodref3_Ones.mono _ _
   | exact LeO.none _
   | refine LeO.ite ?_ ?_
   | refine LeO.bind ?_ (fun _ => ?_)
def brindlewoodref3_Small.l0 : Nat → Int → List Int → Option (List Int)
 | 0, _, _ => none
 | k + 1, x0, x3 => if x0 > 0 then (if x3.length < 17592186044416 then (brindlewoodref3_Small.l0 k (wrap64 (Int.tdiv x0 65536)) (x3 ++ [Int.tmod x0 65536])) else (none)) else (some x3)
def brindlewoodref3_Small.f (k : Nat) (a0 : Int) : Option (List Int) := brindlewoodref3_Small.l0 k a0 ([] : List Int)
theorem brindlewoodref3_Small.mono_l : ∀ k, (∀ y0 y1, LeO (brindlewoodref3_Small.l0 k y0 y1) (brindlewoodref3_Small.l0 (k + 1) y0 y1))
 | 0 => fun _ _ r h => by simp [brindlewoodref3_Small.l0] at h
 | k + 1 => by
  have ih0 := brindlewoodref3_Small.mono_l k
  ·intro y0 y1
   unfold brindlewoodref3_Small.l0
   repeat' first
   | (with_reducible exact ih0 _ _)
   | (with_reducible exact LeO.refl _)
   | (with_reducible exact LeO.none _)
   | (with_reducible refine LeO.ite ?_ ?_)
   | (with_reducible refine LeO.bind ?_ (fun _ => ?_))
   | exact ih0 _ _
   | exact LeO.none _
   | refine LeO.ite ?_ ?_
   | refine LeO.bind ?_ (fun _ => ?_)
theorem brindlewoodref3_Small.mono : ∀ a0 k, LeO (brindlewoodref3_Small.f k a0) (brindlewoodref3_Small.f (k + 1) a0) := by
 intro a0 k
 have ih0 := brindlewoodref3_Small.mono_l k
 unfold brindlewoodref3_Small.f
 repeat' first
   | (with_reducible exact ih0 _ _)
   | (with_reducible exact LeO.refl _)
   | (with_reducible exact LeO.none _)
   | (with_reducible refine LeO.ite ?_ ?_)
   | (with_reducible refine LeO.bind ?_ (fun _ => ?_))
   | exact ih0 _ _
   | exact LeO.none _
   | refine LeO.ite ?_ ?_
   | refine LeO.bind ?_ (fun _ => ?_)
def brindlewoodref3_Int_Moved.j0 : Nat → Int → Bool → Bool → List Int → Option (Bool × List Int)
 | 0, _, _, _, _ => none
 | k + 1, x1, x11, x1095000, x1095001 => if x11 = true then ((brindlewoodref3_Moved.f k x1095001 x1).bind fun t1096 => (some (x1095000, t1096))) else ((brindlewoodref3_Small.f k 1).bind fun t1099 => ((brindlewoodref3_Minus.f k x1095001 t1099).bind fun t1102 => ((brindlewoodref3_Moved.f k t1102 x1).bind fun t1105 => ((brindlewoodref3_Small.f k 1).bind fun t1108 => ((brindlewoodref3_Plus.f k t1105 t1108).bind fun t1111 => (some (true, t1111)))))))
def brindlewoodref3_Int_Moved.f (k : Nat) (a0_0 : Bool) (l0_1 : List Int) (a1 : Int) : Option (Bool × List Int) := if a0_0 = true then (brindlewoodref3_Int_Moved.j0 k a1 (decide (a1 ≥ 0)) a0_0 l0_1) else (brindlewoodref3_Int_Moved.j0 k a1 true a0_0 l0_1)
theorem brindlewoodref3_Int_Moved.mono_l : ∀ k, (∀ y0 y1 y2 y3, LeO (brindlewoodref3_Int_Moved.j0 k y0 y1 y2 y3) (brindlewoodref3_Int_Moved.j0 (k + 1) y0 y1 y2 y3))
 | 0 => fun _ _ _ _ r h => by simp [brindlewoodref3_Int_Moved.j0] at h
 | k + 1 => by
  have ih0 := brindlewoodref3_Int_Moved.mono_l k
  ·intro y0 y1 y2 y3
   unfold brindlewoodref3_Int_Moved.j0
   repeat' first
   | (with_reducible exact ih0 _ _ _ _)
   | (with_reducible exact brindlewoodref3_Minus.mono _ _ _)
   | (with_reducible exact brindlewoodref3_Moved.mono _ _ _)
   | (with_reducible exact brindlewoodref3_Plus.mono _ _ _)
   | (with_reducible exact brindlewoodref3_Small.mono _ _)
   | (with_reducible exact LeO.refl _)
   | (with_reducible exact LeO.none _)
   | (with_reducible refine LeO.ite ?_ ?_)
   | (with_reducible refine LeO.bind ?_ (fun _ => ?_))
   | exact ih0 _ _ _ _
   | exact brindlewoodref3_Minus.mono _ _ _
   | exact brindlewoodref3_Moved.mono _ _ _
   | exact brindlewoodref3_Plus.mono _ _ _
   | exact brindlewoodref3_Small.mono _ _
   | exact LeO.none _
   | refine LeO.ite ?_ ?_
   | refine LeO.bind ?_ (fun _ => ?_)
theorem brindlewoodref3_Int_Moved.mono : ∀ a0 a1 a2 k, LeO (brindlewoodref3_Int_Moved.f k a0 a1 a2) (brindlewoodref3_Int_Moved.f (k + 1) a0 a1 a2) := by
 intro a0 a1 a2 k
 have ih0 := brindlewoodref3_Int_Moved.mono_l k
 unfold brindlewoodref3_Int_Moved.f
 repeat' first
   | (with_reducible exact ih0 _ _ _ _)
   | (with_reducible exact brindlewoodref3_Minus.mono _ _ _)
   | (with_reducible exact brindlewoodref3_Moved.mono _ _ _)
   | (with_reducible exact brindlewoodref3_Plus.mono _ _ _)
   | (with_reducible exact brindlewoodref3_Small.mono _ _)
   | (with_reducible exact LeO.refl _)
   | (with_reducible exact LeO.none _)
   | (with_reducible refine LeO.ite ?_ ?_)
   | (with_reducible refine LeO.bind ?_ (fun _ => ?_))
   | exact ih0 _ _ _ _
   | exact brindlewoodref3_Minus.mono _ _ _
   | exact brindlewoodref3_Moved.mono _ _ _
   | exact brindlewoodref3_Plus.mono _ _ _
   | exact brindlewoodref3_Small.mono _ _
   | exact LeO.none _
   | refine LeO.ite ?_ ?_
   | refine LeO.bind ?_ (fun _ => ?_)
def brindlewoodref3_Int_Moved.T2 : Bool × List (List Nat × List Nat) := (true, [([], []), ([0], [0]), ([], []), ([2], [2]), ([], []), ([3, 4], [3, 4]), ([1, 5], [1, 5]), ([6, 5, 0, 1, 2, 3, 4, 5, 6], [6])])
def brindlewoodref3_Int_Moved.B2 : List Nat := [0, 1, 0, 4, 0, 28, 63, 127]
def brindlewoodref3_Int_Moved.T3 : Bool × List (List Nat × List Nat) := (true, [([], []), ([0], [0]), ([], []), ([1, 2, 2], [1, 2]), ([], []), ([3, 4, 3], [3, 4]), ([5], []), ([5, 6, 6], [5, 6]), ([7], [7]), ([8, 7, 0, 1, 2, 3, 4, 5, 6, 7, 8], [8])])
def brindlewoodref3_Int_Moved.B3 : List Nat := [0, 1, 0, 7, 0, 31, 63, 127, 255, 511]
def brindlewoodref3_At.f (a0 : Int) (a1 : Int) : Option (Int × Int) := some (a0, a1)
def brindlewoodref3_Faults.l0 : Nat → List (S24) → Int → Option (Int × Int)
 | 0, _, _ => none
 | k + 1, x0, x3 => if x3 < (x0.length : Int) then (if 0 ≤ x3 then ((brindlewoodref3_IntOk.f ((rd_T24 x0 x3).f0) ((rd_T24 x0 x3).f1)).bind fun t1117 => (if t1117 = true then (brindlewoodref3_Faults.l0 k x0 (wrap64 (x3 + 1))) else ((brindlewoodref3_At.f 6 (wrap64 ((-1) - x3))).bind fun bt1118 => (some (bt1118.1, bt1118.2))))) else (none)) else (some (0, 0))
def brindlewoodref3_Faults.f (k : Nat) (l0 : List (S24)) : Option (Int × Int) := brindlewoodref3_Faults.l0 k l0 0
theorem brindlewoodref3_Faults.mono_l : ∀ k, (∀ y0 y1, LeO (brindlewoodref3_Faults.l0 k y0 y1) (brindlewoodref3_Faults.l0 (k + 1) y0 y1))
 | 0 => fun _ _ r h => by simp [brindlewoodref3_Faults.l0] at h
 | k + 1 => by
  have ih0 := brindlewoodref3_Faults.mono_l k
  ·intro y0 y1
   unfold brindlewoodref3_Faults.l0
   repeat' first
   | (with_reducible exact ih0 _ _)
   | (with_reducible exact LeO.refl _)
   | (with_reducible exact LeO.none _)
   | (with_reducible refine LeO.ite ?_ ?_)
   | (with_reducible refine LeO.bind ?_ (fun _ => ?_))
   | exact ih0 _ _
   | exact LeO.none _
   | refine LeO.ite ?_ ?_
   | refine LeO.bind ?_ (fun _ => ?_)
theorem brindlewoodref3_Faults.mono : ∀ a0 k, LeO (brindlewoodref3_Faults.f k a0) (brindlewoodref3_Faults.f (k + 1) a0) := by
 intro a0 k
 have ih0 := brindlewoodref3_Faults.mono_l k
 unfold brindlewoodref3_Faults.f
 repeat' first
   | (with_reducible exact ih0 _ _)
   | (with_reducible exact LeO.refl _)
   | (with_reducible exact LeO.none _)
   | (with_reducible refine LeO.ite ?_ ?_)
   | (with_reducible refine LeO.bind ?_ (fun _ => ?_))
   | exact ih0 _ _
   | exact LeO.none _
   | refine LeO.ite ?_ ?_
   | refine LeO.bind ?_ (fun _ => ?_)
def brindlewoodlaw4_RandomBounded.j0 : Nat → List Int → Int → Int → Bool → List Int → Bool → List Int → Option (Bool)
 | 0, _, _, _, _, _, _, _ => none
 | k + 1, x4, x1121000, x1121001, x1122000, x1122001, x1123000, x1123001 => (random_Between.f k x1121000 x1121001 x1122000 x1122001 x1123000 x1123001).bind fun bt1159 => (if bt1159.2.2.2.2.1 = 0 then ((brindlewoodref3_Faults.f k (([(⟨x1122000, x1122001⟩ : S24), (⟨x1123000, x1123001⟩ : S24), (⟨bt1159.1, bt1159.2.1⟩ : S24)] : List (S24)))).bind fun bt1173 => (if bt1173.1 = 0 then ((brindlewoodref3_IntOf.f k bt1159.1 bt1159.2.1).bind fun bt1175 => ((brindlewoodref3_IntOf.f k x1122000 x1122001).bind fun bt1179 => ((brindlewoodref3_Int_Order.f k bt1175.1 bt1175.2 bt1179.1 bt1179.2).bind fun t1183 => (if t1183 < 0 then (none) else ((brindlewoodref3_IntOf.f k bt1159.1 bt1159.2.1).bind fun bt1184 => ((brindlewoodref3_IntOf.f k x1123000 x1123001).bind fun bt1188 => ((brindlewoodref3_Int_Order.f k bt1184.1 bt1184.2 bt1188.1 bt1188.2).bind fun t1192 => (if t1192 > 0 then (none) else ((random_Choose.f k x1121000 x1121001 x4).bind fun bt1193 => (if bt1193.2.2.2.1 = 0 then (if bt1193.1 ≥ 0 then (if bt1193.1 < (x4.length : Int) then (if 0 ≤ bt1193.1 then (some (decide ((rd x4 bt1193.1) > 0))) else (none)) else (none)) else (none)) else (if bt1193.1 = 0 then (some true) else (none)))))))))))) else (none))) else ((random_Choose.f k x1121000 x1121001 x4).bind fun bt1201 => (if bt1201.2.2.2.1 = 0 then (if bt1201.1 ≥ 0 then (if bt1201.1 < (x4.length : Int) then (if 0 ≤ bt1201.1 then (some (decide ((rd x4 bt1201.1) > 0))) else (none)) else (none)) else (none)) else (if bt1201.1 = 0 then (some true) else (none)))))
def brindlewoodlaw4_RandomBounded.f (k : Nat) (a0_0 : Int) (a0_1 : Int) (a1 : Int) (a2_0 : Bool) (l2_1 : List Int) (a3_0 : Bool) (l3_1 : List Int) (l4 : List Int) : Option (Bool) := (brindlewoodlaw4_draws.f k).bind fun t1123 => (if t1123 = true then (if (Int.tmod a0_1 2) = 0 then (some true) else (if a1 ≥ 0 then (if a1 < 4000 then ((brindlewoodref3_Number.f k 1).bind fun bt1124 => ((brindlewoodref3_Int_Moved.f k bt1124.1 bt1124.2 a1).bind fun bt1128 => ((brindlewoodref3_Limbs.f k bt1128.2).bind fun t1133 => ((random_Below.f k a0_0 a0_1 false t1133).bind fun bt1136 => ((random_Skip.f k a0_0 a0_1 (IntKind.u64.wrap (wrap64 (Int.tdiv (wrap64 (a1 + 31)) 32)))).bind fun bt1147 => (if bt1136.2.2.2.2.1 = 0 then (if bt1147.2.2.1 = 0 then (if (!(bt1136.2.2.1 == bt1147.1) || (!(bt1136.2.2.2.1 == bt1147.2.1))) = true then (none) else ((brindlewoodref3_IntOk.f bt1136.1 bt1136.2.1).bind fun t1153 => (if t1153 = true then (if bt1136.1 = true then (none) else ((brindlewoodref3_IntOf.f k bt1136.1 bt1136.2.1).bind fun bt1154 => ((brindlewoodref3_Int_Order.f k bt1154.1 bt1154.2 bt1128.1 bt1128.2).bind fun t1158 => (if t1158 ≥ 0 then (none) else (brindlewoodlaw4_RandomBounded.j0 k l4 a0_0 a0_1 a2_0 l2_1 a3_0 l3_1))))) else (none)))) else (none)) else (none))))))) else (brindlewoodlaw4_RandomBounded.j0 k l4 a0_0 a0_1 a2_0 l2_1 a3_0 l3_1)) else ((random_Between.f k a0_0 a0_1 a2_0 l2_1 a3_0 l3_1).bind fun bt1209 => (if bt1209.2.2.2.2.1 = 0 then ((brindlewoodref3_Faults.f k (([(⟨a2_0, l2_1⟩ : S24), (⟨a3_0, l3_1⟩ : S24), (⟨bt1209.1, bt1209.2.1⟩ : S24)] : List (S24)))).bind fun bt1223 => (if bt1223.1 = 0 then ((brindlewoodref3_IntOf.f k bt1209.1 bt1209.2.1).bind fun bt1225 => ((brindlewoodref3_IntOf.f k a2_0 l2_1).bind fun bt1229 => ((brindlewoodref3_Int_Order.f k bt1225.1 bt1225.2 bt1229.1 bt1229.2).bind fun t1233 => (if t1233 < 0 then (none) else ((brindlewoodref3_IntOf.f k bt1209.1 bt1209.2.1).bind fun bt1234 => ((brindlewoodref3_IntOf.f k a3_0 l3_1).bind fun bt1238 => ((brindlewoodref3_Int_Order.f k bt1234.1 bt1234.2 bt1238.1 bt1238.2).bind fun t1242 => (if t1242 > 0 then (none) else ((random_Choose.f k a0_0 a0_1 l4).bind fun bt1243 => (if bt1243.2.2.2.1 = 0 then (if bt1243.1 ≥ 0 then (if bt1243.1 < (l4.length : Int) then (if 0 ≤ bt1243.1 then (some (decide ((rd l4 bt1243.1) > 0))) else (none)) else (none)) else (none)) else (if bt1243.1 = 0 then (some true) else (none)))))))))))) else (none))) else ((random_Choose.f k a0_0 a0_1 l4).bind fun bt1251 => (if bt1251.2.2.2.1 = 0 then (if bt1251.1 ≥ 0 then (if bt1251.1 < (l4.length : Int) then (if 0 ≤ bt1251.1 then (some (decide ((rd l4 bt1251.1) > 0))) else (none)) else (none)) else (none)) else (if bt1251.1 = 0 then (some true) else (none)))))))) else (none))
theorem brindlewoodlaw4_RandomBounded.mono_l : ∀ k, (∀ y0 y1 y2 y3 y4 y5 y6, LeO (brindlewoodlaw4_RandomBounded.j0 k y0 y1 y2 y3 y4 y5 y6) (brindlewoodlaw4_RandomBounded.j0 (k + 1) y0 y1 y2 y3 y4 y5 y6))
 | 0 => fun _ _ _ _ _ _ _ r h => by simp [brindlewoodlaw4_RandomBounded.j0] at h
 | k + 1 => by
  have ih0 := brindlewoodlaw4_RandomBounded.mono_l k
  ·intro y0 y1 y2 y3 y4 y5 y6
   unfold brindlewoodlaw4_RandomBounded.j0
   repeat' first
   | (with_reducible exact ih0 _ _ _ _ _ _ _)
   | (with_reducible exact brindlewoodlaw4_draws.mono _)
   | (with_reducible exact brindlewoodref3_Faults.mono _ _)
   | (with_reducible exact brindlewoodref3_IntOf.mono _ _ _)
   | (with_reducible exact brindlewoodref3_Int_Moved.mono _ _ _ _)
   | (with_reducible exact brindlewoodref3_Int_Order.mono _ _ _ _ _)
   | (with_reducible exact brindlewoodref3_Limbs.mono _ _)
   | (with_reducible exact brindlewoodref3_Number.mono _ _)
   | (with_reducible exact random_Below.mono _ _ _ _ _)
   | (with_reducible exact random_Between.mono _ _ _ _ _ _ _)
   | (with_reducible exact random_Choose.mono _ _ _ _)
   | (with_reducible exact random_Skip.mono _ _ _ _)
   | (with_reducible exact LeO.refl _)
   | (with_reducible exact LeO.none _)
   | (with_reducible refine LeO.ite ?_ ?_)
   | (with_reducible refine LeO.bind ?_ (fun _ => ?_))
   | exact ih0 _ _ _ _ _ _ _
   | exact brindlewoodlaw4_draws.mono _
   | exact brindlewoodref3_Faults.mono _ _
   | exact brindlewoodref3_IntOf.mono _ _ _
   | exact brindlewoodref3_Int_Moved.mono _ _ _ _
   | exact brindlewoodref3_Int_Order.mono _ _ _ _ _
   | exact brindlewoodref3_Limbs.mono _ _
   | exact brindlewoodref3_Number.mono _ _
   | exact random_Below.mono _ _ _ _ _
   | exact random_Between.mono _ _ _ _ _ _ _
   | exact random_Choose.mono _ _ _ _
   | exact random_Skip.mono _ _ _ _
   | exact LeO.none _
   | refine LeO.ite ?_ ?_
   | refine LeO.bind ?_ (fun _ => ?_)
theorem brindlewoodlaw4_RandomBounded.mono : ∀ a0 a1 a2 a3 a4 a5 a6 a7 k, LeO (brindlewoodlaw4_RandomBounded.f k a0 a1 a2 a3 a4 a5 a6 a7) (brindlewoodlaw4_RandomBounded.f (k + 1) a0 a1 a2 a3 a4 a5 a6 a7) := by
 intro a0 a1 a2 a3 a4 a5 a6 a7 k
 have ih0 := brindlewoodlaw4_RandomBounded.mono_l k
 unfold brindlewoodlaw4_RandomBounded.f
 repeat' first
   | (with_reducible exact ih0 _ _ _ _ _ _ _)
   | (with_reducible exact brindlewoodlaw4_draws.mono _)
   | (with_reducible exact brindlewoodref3_Faults.mono _ _)
   | (with_reducible exact brindlewoodref3_IntOf.mono _ _ _)
   | (with_reducible exact brindlewoodref3_Int_Moved.mono _ _ _ _)
   | (with_reducible exact brindlewoodref3_Int_Order.mono _ _ _ _ _)
   | (with_reducible exact brindlewoodref3_Limbs.mono _ _)
   | (with_reducible exact brindlewoodref3_Number.mono _ _)
   | (with_reducible exact random_Below.mono _ _ _ _ _)
   | (with_reducible exact random_Between.mono _ _ _ _ _ _ _)
   | (with_reducible exact random_Choose.mono _ _ _ _)
   | (with_reducible exact random_Skip.mono _ _ _ _)
   | (with_reducible exact LeO.refl _)
   | (with_reducible exact LeO.none _)
   | (with_reducible refine LeO.ite ?_ ?_)
   | (with_reducible refine LeO.bind ?_ (fun _ => ?_))
   | exact ih0 _ _ _ _ _ _ _
   | exact brindlewoodlaw4_draws.mono _
   | exact brindlewoodref3_Faults.mono _ _
   | exact brindlewoodref3_IntOf.mono _ _ _
   | exact brindlewoodref3_Int_Moved.mono _ _ _ _
   | exact brindlewoodref3_Int_Order.mono _ _ _ _ _
   | exact brindlewoodref3_Limbs.mono _ _
   | exact brindlewoodref3_Number.mono _ _
   | exact random_Below.mono _ _ _ _ _
   | exact random_Between.mono _ _ _ _ _ _ _
   | exact random_Choose.mono _ _ _ _
   | exact random_Skip.mono _ _ _ _
   | exact LeO.none _
   | refine LeO.ite ?_ ?_
   | refine LeO.bind ?_ (fun _ => ?_)
def brindlewoodlaw4_RandomBounded.T7 : Bool × List (List Nat × List Nat) := (true, [([], []), ([], []), ([1], [1]), ([2], [2]), ([3], [3]), ([0, 4, 3], [0, 4]), ([5], [5]), ([6], [6]), ([6], [6]), ([6], [6]), ([], []), ([], []), ([], []), ([10, 7, 5, 0, 1, 2, 3, 4, 5, 6, 7, 10, 11, 12], [7, 10]), ([11, 8, 13, 0, 1, 2, 3, 4, 5, 6, 7, 8, 10, 11, 12, 13], [8, 11]), ([12, 9, 14, 0, 1, 2, 3, 4, 5, 6, 7, 8, 9, 10, 11, 12, 13, 14], [9, 12])])
def brindlewoodlaw4_RandomBounded.B7 : List Nat := [0, 0, 2, 6, 14, 31, 63, 127, 127, 127, 0, 0, 0, 7423, 15871, 32767]
def brindlewoodlaw4_RandomBounded.T9 : Bool × List (List Nat × List Nat) := (true, [([], []), ([0], [0]), ([1], [1]), ([2], [2]), ([3], [3]), ([4, 3], [3, 4]), ([5, 3], [3, 5]), ([3, 6], [3, 6]), ([7, 3], [7]), ([8], [8]), ([8], [8]), ([9, 10, 8], [8, 9, 10]), ([8, 11], [8, 11]), ([12, 8], [12]), ([13], [13]), ([14, 13, 13], [13, 14]), ([15, 13], [13, 15]), ([13, 16], [13, 16]), ([17, 15], [17]), ([18], [18]), ([19, 18], [18, 19]), ([18, 20], [18, 20]), ([21, 18], [21]), ([22], [22]), ([23, 22, 22], [22, 23]), ([22], [22]), ([24, 25, 24, 22], [22, 24, 25]), ([26, 22], [22, 26]), ([22, 27], [22, 27])])
def brindlewoodlaw4_RandomBounded.B9 : List Nat := [0, 1, 3, 7, 15, 31, 63, 127, 255, 511, 511, 2047, 4095, 8191, 16383, 32767, 65535, 131071, 262143, 524287, 1048575, 2097151, 4194303, 8388607, 16777215, 8388607, 67108863, 134217727, 268435455]
def brindlewoodlaw4_RandomBounded.T12 : Bool × List (List Nat × List Nat) := (true, [([], []), ([0], [0]), ([1], [1]), ([2], [2]), ([3], [3]), ([3], [3]), ([3], [3]), ([4, 5, 6, 3], [3, 4, 5, 6]), ([7, 3, 3], [3, 7]), ([8, 3], [3, 8]), ([9, 3], [3, 9]), ([10, 8, 3], [3, 10]), ([11], [11]), ([12, 11, 11], [11, 12]), ([11], [11]), ([14, 13, 11], [11, 14]), ([13, 15, 15, 11], [11, 13, 15]), ([16, 11], [11, 16]), ([11, 17, 3], [3, 11, 17]), ([18, 16, 3], [3, 18]), ([19], [19]), ([20, 19, 19], [19, 20]), ([19], [19]), ([22, 21, 19], [19, 22]), ([21, 23, 23, 19], [19, 21, 23]), ([24, 19], [19, 24]), ([19, 25, 3], [3, 19, 25]), ([3, 26], [3, 26])])
def brindlewoodlaw4_RandomBounded.B12 : List Nat := [0, 1, 3, 7, 15, 15, 15, 127, 255, 511, 1023, 2047, 4095, 8191, 4095, 32767, 65535, 131071, 262143, 524287, 1048575, 2097151, 1048575, 8388607, 16777215, 33554431, 67108863, 134217727]
end Go.Proofs.Ytkhiohlfdkkhdaa.P
