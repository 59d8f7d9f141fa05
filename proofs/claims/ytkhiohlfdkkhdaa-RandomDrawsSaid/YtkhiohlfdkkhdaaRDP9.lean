-- Written by the session's own program wip/tools/mp.py (over the kit's print) out of the translation. Not trusted: Lean checks it.
import Derived.Test.YtkhiohlfdkkhdaaRDP0
import Derived.Test.YtkhiohlfdkkhdaaRDP1
import Derived.Test.YtkhiohlfdkkhdaaRDP2
import Derived.Test.YtkhiohlfdkkhdaaRDP3
import Derived.Test.YtkhiohlfdkkhdaaRDP8
namespace Go.Proofs.Ytkhiohlfdkkhdaa.P
open Go.RowKit Go.Proofs.YtkhiohlfdkkhdaaW.PrintWords Go.Proofs.YtkhiohlfdkkhdaaW.PrintLast Go.Proofs.YtkhiohlfdkkhdaaW.PrintMore
attribute [local go_sem] max2_int min2_int max_two min_two max_three min_three max_four min_four   -- for this text's walks alone
set_option linter.unusedVariables false
set_option linter.unusedSimpArgs false

attribute [local go_sem high] eqA27 eqA29
/-! ### brindlewoodlaw4_RandomDraws: function 3 -/
mutual
def brindlewoodlaw4_RandomDraws.j0 : Nat → Int → Int → Int → Int → Int → Int → Int → Int → Int → Int → Int → Int → Int → Int → Int → Int → Int → Option (Bool)
 | 0, _, _, _, _, _, _, _, _, _, _, _, _, _, _, _, _, _ => none
 | k + 1, x2, x3, x11, x403000, x403001, x415000, x415001, x416000, x416001, x421000, x421001, x422000, x422001, x427000, x427001, x428000, x428001 => if (Int.tmod x403001 2) = 0 then ((brindlewoodref4_At.f 6 (-1)).bind fun bt434 => (if (x416000 == bt434.1 && (x416001 == bt434.2)) = true then (if (x422000 == bt434.1 && (x422001 == bt434.2)) = true then (if (x428000 == bt434.1 && (x428001 == bt434.2)) = true then (if x11 = 0 then (if (x415000 == 0 && (x415001 == 0)) = true then (if (x421000 == x415000 && (x421001 == x415001)) = true then (some (x427000 == x415000 && (x427001 == x415001))) else (none)) else (none)) else (none)) else (none)) else (none)) else (none))) else ((brindlewoodref4_Random_Draw.f x403000 x403001).bind fun bt438 => (if x416000 = 0 then (if x422000 = 0 then (if x428000 = 0 then (if x11 = bt438.1 then (if (!(x415000 == bt438.2.1) || (!(x415001 == bt438.2.2))) = true then (none) else (brindlewoodlaw4_RandomDraws.l0 k x2 x3 (Int.tmod x2 5000) x403000 x403001 x421000 x421001 x427000 x427001 x403000 x403001)) else (none)) else (none)) else (none)) else (none)))
def brindlewoodlaw4_RandomDraws.l0 : Nat → Int → Int → Int → Int → Int → Int → Int → Int → Int → Int → Int → Option (Bool)
 | 0, _, _, _, _, _, _, _, _, _, _, _ => none
 | k + 1, x2, x3, x21, x403000, x403001, x421000, x421001, x427000, x427001, x438000, x438001 => if x21 > 0 then ((brindlewoodref4_Random_Draw.f x438000 x438001).bind fun bt441 => (brindlewoodlaw4_RandomDraws.l0 k x2 x3 (IntKind.u64.wrap (x21 - 1)) x403000 x403001 x421000 x421001 x427000 x427001 bt441.2.1 bt441.2.2)) else (if (!(x421000 == x438000) || (!(x421001 == x438001))) = true then (none) else ((random_Skip.f k x427000 x427001 x3).bind fun bt444 => ((random_Skip.f k x403000 x403001 (IntKind.u64.wrap (x2 + x3))).bind fun bt450 => ((random_Skip.f k x403000 x403001 (IntKind.u64.wrap (x2 + 1))).bind fun bt456 => ((random_Next.f x427000 x427001).bind fun bt462 => (if bt444.2.2.1 = 0 then (if bt450.2.2.1 = 0 then (if bt456.2.2.1 = 0 then (if bt462.2.2.2.1 = 0 then (if (IntKind.u64.wrap (x2 + x3)) < x2 then (if (IntKind.u64.wrap (x2 + 1)) = 0 then (some true) else (some (bt456.1 == bt462.2.1 && (bt456.2.1 == bt462.2.2.1)))) else (if (bt444.1 == bt450.1 && (bt444.2.1 == bt450.2.1)) = true then (if (IntKind.u64.wrap (x2 + 1)) = 0 then (some true) else (some (bt456.1 == bt462.2.1 && (bt456.2.1 == bt462.2.2.1)))) else (none))) else (none)) else (none)) else (none)) else (none)))))))
end
def brindlewoodlaw4_RandomDraws.f (k : Nat) (a0_0 : Bool) (l0_1 : List Int) (a1_0 : Int) (a1_1 : Int) (a2 : Int) (a3 : Int) : Option (Bool) := (random_Seed.f k a0_0 l0_1).bind fun bt403 => ((random_Next.f a1_0 a1_1).bind fun bt409 => ((random_Skip.f k a1_0 a1_1 (Int.tmod a2 5000)).bind fun bt416 => ((random_Skip.f k a1_0 a1_1 a2).bind fun bt422 => ((brindlewoodlaw4_draws.f k).bind fun t428 => (if t428 = true then ((brindlewoodref3_IntOk.f a0_0 l0_1).bind fun t429 => (if t429 = true then (if bt403.2.2.1 = 0 then ((brindlewoodref4_Seeded.f k a0_0 l0_1).bind fun bt430 => (if (!(bt403.1 == bt430.1) || (!(bt403.2.1 == bt430.2))) = true then (none) else (brindlewoodlaw4_RandomDraws.j0 k a2 a3 bt409.1 a1_0 a1_1 bt409.2.1 bt409.2.2.1 bt409.2.2.2.1 bt409.2.2.2.2 bt416.1 bt416.2.1 bt416.2.2.1 bt416.2.2.2 bt422.1 bt422.2.1 bt422.2.2.1 bt422.2.2.2))) else (none)) else ((brindlewoodref4_At.f 6 (-1)).bind fun bt432 => (if (!(bt403.2.2.1 == bt432.1) || (!(bt403.2.2.2 == bt432.2))) = true then (none) else (if (!(bt403.1 == 0) || (!(bt403.2.1 == 0))) = true then (none) else (brindlewoodlaw4_RandomDraws.j0 k a2 a3 bt409.1 a1_0 a1_1 bt409.2.1 bt409.2.2.1 bt409.2.2.2.1 bt409.2.2.2.2 bt416.1 bt416.2.1 bt416.2.2.1 bt416.2.2.2 bt422.1 bt422.2.1 bt422.2.2.1 bt422.2.2.2)))))) else (none))))))
theorem brindlewoodlaw4_RandomDraws.mono_l : ∀ k, (∀ y0 y1 y2 y3 y4 y5 y6 y7 y8 y9 y10 y11 y12 y13 y14 y15 y16, LeO (brindlewoodlaw4_RandomDraws.j0 k y0 y1 y2 y3 y4 y5 y6 y7 y8 y9 y10 y11 y12 y13 y14 y15 y16) (brindlewoodlaw4_RandomDraws.j0 (k + 1) y0 y1 y2 y3 y4 y5 y6 y7 y8 y9 y10 y11 y12 y13 y14 y15 y16)) ∧ (∀ y0 y1 y2 y3 y4 y5 y6 y7 y8 y9 y10, LeO (brindlewoodlaw4_RandomDraws.l0 k y0 y1 y2 y3 y4 y5 y6 y7 y8 y9 y10) (brindlewoodlaw4_RandomDraws.l0 (k + 1) y0 y1 y2 y3 y4 y5 y6 y7 y8 y9 y10))
 | 0 => ⟨fun _ _ _ _ _ _ _ _ _ _ _ _ _ _ _ _ _ r h => by simp [brindlewoodlaw4_RandomDraws.j0] at h, fun _ _ _ _ _ _ _ _ _ _ _ r h => by simp [brindlewoodlaw4_RandomDraws.l0] at h⟩
 | k + 1 => by
  obtain ⟨ih0, ih1⟩ := brindlewoodlaw4_RandomDraws.mono_l k
  refine ⟨?_, ?_⟩
  ·intro y0 y1 y2 y3 y4 y5 y6 y7 y8 y9 y10 y11 y12 y13 y14 y15 y16
   unfold brindlewoodlaw4_RandomDraws.j0
   repeat' first
   | (with_reducible exact ih0 _ _ _ _ _ _ _ _ _ _ _ _ _ _ _ _ _)
   | (with_reducible exact ih1 _ _ _ _ _ _ _ _ _ _ _)
   | (with_reducible exact brindlewoodlaw4_draws.mono _)
   | (with_reducible exact brindlewoodref4_Seeded.mono _ _ _)
   | (with_reducible exact random_Seed.mono _ _ _)
   | (with_reducible exact random_Skip.mono _ _ _ _)
   | (with_reducible exact LeO.refl _)
   | (with_reducible exact LeO.none _)
   | (with_reducible refine LeO.ite ?_ ?_)
   | (with_reducible refine LeO.bind ?_ (fun _ => ?_))
   | exact ih0 _ _ _ _ _ _ _ _ _ _ _ _ _ _ _ _ _
   | exact ih1 _ _ _ _ _ _ _ _ _ _ _
   | exact brindlewoodlaw4_draws.mono _
   | exact brindlewoodref4_Seeded.mono _ _ _
   | exact random_Seed.mono _ _ _
   | exact random_Skip.mono _ _ _ _
   | exact LeO.none _
   | refine LeO.ite ?_ ?_
   | refine LeO.bind ?_ (fun _ => ?_)
  ·intro y0 y1 y2 y3 y4 y5 y6 y7 y8 y9 y10
   unfold brindlewoodlaw4_RandomDraws.l0
   repeat' first
   | (with_reducible exact ih0 _ _ _ _ _ _ _ _ _ _ _ _ _ _ _ _ _)
   | (with_reducible exact ih1 _ _ _ _ _ _ _ _ _ _ _)
   | (with_reducible exact brindlewoodlaw4_draws.mono _)
   | (with_reducible exact brindlewoodref4_Seeded.mono _ _ _)
   | (with_reducible exact random_Seed.mono _ _ _)
   | (with_reducible exact random_Skip.mono _ _ _ _)
   | (with_reducible exact LeO.refl _)
   | (with_reducible exact LeO.none _)
   | (with_reducible refine LeO.ite ?_ ?_)
   | (with_reducible refine LeO.bind ?_ (fun _ => ?_))
   | exact ih0 _ _ _ _ _ _ _ _ _ _ _ _ _ _ _ _ _
   | exact ih1 _ _ _ _ _ _ _ _ _ _ _
   | exact brindlewoodlaw4_draws.mono _
   | exact brindlewoodref4_Seeded.mono _ _ _
   | exact random_Seed.mono _ _ _
   | exact random_Skip.mono _ _ _ _
   | exact LeO.none _
   | refine LeO.ite ?_ ?_
   | refine LeO.bind ?_ (fun _ => ?_)
theorem brindlewoodlaw4_RandomDraws.mono : ∀ a0 a1 a2 a3 a4 a5 k, LeO (brindlewoodlaw4_RandomDraws.f k a0 a1 a2 a3 a4 a5) (brindlewoodlaw4_RandomDraws.f (k + 1) a0 a1 a2 a3 a4 a5) := by
 intro a0 a1 a2 a3 a4 a5 k
 obtain ⟨ih0, ih1⟩ := brindlewoodlaw4_RandomDraws.mono_l k
 unfold brindlewoodlaw4_RandomDraws.f
 repeat' first
   | (with_reducible exact ih0 _ _ _ _ _ _ _ _ _ _ _ _ _ _ _ _ _)
   | (with_reducible exact ih1 _ _ _ _ _ _ _ _ _ _ _)
   | (with_reducible exact brindlewoodlaw4_draws.mono _)
   | (with_reducible exact brindlewoodref4_Seeded.mono _ _ _)
   | (with_reducible exact random_Seed.mono _ _ _)
   | (with_reducible exact random_Skip.mono _ _ _ _)
   | (with_reducible exact LeO.refl _)
   | (with_reducible exact LeO.none _)
   | (with_reducible refine LeO.ite ?_ ?_)
   | (with_reducible refine LeO.bind ?_ (fun _ => ?_))
   | exact ih0 _ _ _ _ _ _ _ _ _ _ _ _ _ _ _ _ _
   | exact ih1 _ _ _ _ _ _ _ _ _ _ _
   | exact brindlewoodlaw4_draws.mono _
   | exact brindlewoodref4_Seeded.mono _ _ _
   | exact random_Seed.mono _ _ _
   | exact random_Skip.mono _ _ _ _
   | exact LeO.none _
   | refine LeO.ite ?_ ?_
   | refine LeO.bind ?_ (fun _ => ?_)
def brindlewoodlaw4_RandomDraws.T8 : Bool × List (List Nat × List Nat) := (true, [([], []), ([], []), ([0, 1], [0, 1]), ([2, 1], [2]), ([3], [3]), ([3], [3]), ([4, 5, 3], [3, 4, 5]), ([3, 6], [3, 6])])
def brindlewoodlaw4_RandomDraws.B8 : List Nat := [0, 0, 3, 7, 15, 15, 63, 127]
theorem brindlewoodlaw4_RandomDraws.tab8 : rtab .any (opsOf Try.f3 8) = brindlewoodlaw4_RandomDraws.T8 := by kernel_rfl
theorem brindlewoodlaw4_RandomDraws.bits8 : waitsOk brindlewoodlaw4_RandomDraws.T8.2 brindlewoodlaw4_RandomDraws.B8 = true := by kernel_rfl
def brindlewoodlaw4_RandomDraws.T10 : Bool × List (List Nat × List Nat) := (true, [([], []), ([0], [0]), ([1], [1]), ([2], [2]), ([3], [3]), ([3], [3]), ([5, 3, 3], [3, 5]), ([4, 6, 3], [3, 4, 6]), ([3, 7], [3, 7])])
def brindlewoodlaw4_RandomDraws.B10 : List Nat := [0, 1, 3, 7, 15, 15, 47, 127, 255]
theorem brindlewoodlaw4_RandomDraws.tab10 : rtab .any (opsOf Try.f3 10) = brindlewoodlaw4_RandomDraws.T10 := by kernel_rfl
theorem brindlewoodlaw4_RandomDraws.bits10 : waitsOk brindlewoodlaw4_RandomDraws.T10.2 brindlewoodlaw4_RandomDraws.B10 = true := by kernel_rfl
set_option maxHeartbeats 60000000 in
set_option maxRecDepth 100000 in
theorem brindlewoodlaw4_RandomDraws.calls (k : Nat) (a0_0 : Bool) (A0_1 : Option Addr) (c0_1 : Nat) (l0_1 : List Int) (a1_0 : Int) (a1_1 : Int) (a2 : Int) (a3 : Int) (r : Bool) (w : World) (hr0_1 : Kd.C (Kd.int .u32) w A0_1 l0_1.length l0_1) (hc0_1 : l0_1.length ≤ c0_1) (h : brindlewoodlaw4_RandomDraws.f k a0_0 l0_1 a1_0 a1_1 a2 a3 = some r) :
  Calls Try.prog 3 #[.agg #[.bool a0_0, .slice A0_1 l0_1.length c0_1], .agg #[.int .u64 a1_0, .int .u64 a1_1], .int .u64 a2, .int .u64 a3] w fun e w' => e = .returned (.bool r) ∧ Below w.heap.size w w' := by
 have hu24 := Try.underlying24
 have hu27 := Try.underlying27
 have hu29 := Try.underlying29
 have hu40 := Try.underlying40
 have HR0_1 := zM hr0_1
 have HC0_1 := zM hc0_1
 clear hr0_1 hc0_1
 have HB := zM (Below.refl w.heap.size w)
 have H : ((random_Seed.f k a0_0 l0_1).bind fun bt403 => ((random_Next.f a1_0 a1_1).bind fun bt409 => ((random_Skip.f k a1_0 a1_1 (Int.tmod a2 5000)).bind fun bt416 => ((random_Skip.f k a1_0 a1_1 a2).bind fun bt422 => ((brindlewoodlaw4_draws.f k).bind fun t428 => (if t428 = true then ((brindlewoodref3_IntOk.f a0_0 l0_1).bind fun t429 => (if t429 = true then (if bt403.2.2.1 = 0 then ((brindlewoodref4_Seeded.f k a0_0 l0_1).bind fun bt430 => (if (!(bt403.1 == bt430.1) || (!(bt403.2.1 == bt430.2))) = true then (none) else (brindlewoodlaw4_RandomDraws.j0 k a2 a3 bt409.1 a1_0 a1_1 bt409.2.1 bt409.2.2.1 bt409.2.2.2.1 bt409.2.2.2.2 bt416.1 bt416.2.1 bt416.2.2.1 bt416.2.2.2 bt422.1 bt422.2.1 bt422.2.2.1 bt422.2.2.2))) else (none)) else ((brindlewoodref4_At.f 6 (-1)).bind fun bt432 => (if (!(bt403.2.2.1 == bt432.1) || (!(bt403.2.2.2 == bt432.2))) = true then (none) else (if (!(bt403.1 == 0) || (!(bt403.2.1 == 0))) = true then (none) else (brindlewoodlaw4_RandomDraws.j0 k a2 a3 bt409.1 a1_0 a1_1 bt409.2.1 bt409.2.2.1 bt409.2.2.2.1 bt409.2.2.2.2 bt416.1 bt416.2.1 bt416.2.2.1 bt416.2.2.2 bt422.1 bt422.2.1 bt422.2.2.1 bt422.2.2.2)))))) else (none))))))) = some r := h
 clear h
 replace H := zB H
 obtain ⟨⟨t403, t404, t405, t406⟩, A50, H⟩ := H
 replace H : ((random_Next.f a1_0 a1_1).bind fun bt409 => ((random_Skip.f k a1_0 a1_1 (Int.tmod a2 5000)).bind fun bt416 => ((random_Skip.f k a1_0 a1_1 a2).bind fun bt422 => ((brindlewoodlaw4_draws.f k).bind fun t428 => (if t428 = true then ((brindlewoodref3_IntOk.f a0_0 l0_1).bind fun t429 => (if t429 = true then (if t405 = 0 then ((brindlewoodref4_Seeded.f k a0_0 l0_1).bind fun bt430 => (if (!(t403 == bt430.1) || (!(t404 == bt430.2))) = true then (none) else (brindlewoodlaw4_RandomDraws.j0 k a2 a3 bt409.1 a1_0 a1_1 bt409.2.1 bt409.2.2.1 bt409.2.2.2.1 bt409.2.2.2.2 bt416.1 bt416.2.1 bt416.2.2.1 bt416.2.2.2 bt422.1 bt422.2.1 bt422.2.2.1 bt422.2.2.2))) else (none)) else ((brindlewoodref4_At.f 6 (-1)).bind fun bt432 => (if (!(t405 == bt432.1) || (!(t406 == bt432.2))) = true then (none) else (if (!(t403 == 0) || (!(t404 == 0))) = true then (none) else (brindlewoodlaw4_RandomDraws.j0 k a2 a3 bt409.1 a1_0 a1_1 bt409.2.1 bt409.2.2.1 bt409.2.2.2.1 bt409.2.2.2.2 bt416.1 bt416.2.1 bt416.2.2.1 bt416.2.2.2 bt422.1 bt422.2.1 bt422.2.2.1 bt422.2.2.2)))))) else (none)))))) = some r := H
 have A5 := zM A50
 clear A50
 replace H := zB H
 obtain ⟨⟨t409, t410, t411, t412, t413⟩, A60, H⟩ := H
 replace H : ((random_Skip.f k a1_0 a1_1 (Int.tmod a2 5000)).bind fun bt416 => ((random_Skip.f k a1_0 a1_1 a2).bind fun bt422 => ((brindlewoodlaw4_draws.f k).bind fun t428 => (if t428 = true then ((brindlewoodref3_IntOk.f a0_0 l0_1).bind fun t429 => (if t429 = true then (if t405 = 0 then ((brindlewoodref4_Seeded.f k a0_0 l0_1).bind fun bt430 => (if (!(t403 == bt430.1) || (!(t404 == bt430.2))) = true then (none) else (brindlewoodlaw4_RandomDraws.j0 k a2 a3 t409 a1_0 a1_1 t410 t411 t412 t413 bt416.1 bt416.2.1 bt416.2.2.1 bt416.2.2.2 bt422.1 bt422.2.1 bt422.2.2.1 bt422.2.2.2))) else (none)) else ((brindlewoodref4_At.f 6 (-1)).bind fun bt432 => (if (!(t405 == bt432.1) || (!(t406 == bt432.2))) = true then (none) else (if (!(t403 == 0) || (!(t404 == 0))) = true then (none) else (brindlewoodlaw4_RandomDraws.j0 k a2 a3 t409 a1_0 a1_1 t410 t411 t412 t413 bt416.1 bt416.2.1 bt416.2.2.1 bt416.2.2.2 bt422.1 bt422.2.1 bt422.2.2.1 bt422.2.2.2)))))) else (none))))) = some r := H
 have A6 := zM A60
 clear A60
 replace H := zB H
 obtain ⟨⟨t416, t417, t418, t419⟩, A70, H⟩ := H
 replace H : ((random_Skip.f k a1_0 a1_1 a2).bind fun bt422 => ((brindlewoodlaw4_draws.f k).bind fun t428 => (if t428 = true then ((brindlewoodref3_IntOk.f a0_0 l0_1).bind fun t429 => (if t429 = true then (if t405 = 0 then ((brindlewoodref4_Seeded.f k a0_0 l0_1).bind fun bt430 => (if (!(t403 == bt430.1) || (!(t404 == bt430.2))) = true then (none) else (brindlewoodlaw4_RandomDraws.j0 k a2 a3 t409 a1_0 a1_1 t410 t411 t412 t413 t416 t417 t418 t419 bt422.1 bt422.2.1 bt422.2.2.1 bt422.2.2.2))) else (none)) else ((brindlewoodref4_At.f 6 (-1)).bind fun bt432 => (if (!(t405 == bt432.1) || (!(t406 == bt432.2))) = true then (none) else (if (!(t403 == 0) || (!(t404 == 0))) = true then (none) else (brindlewoodlaw4_RandomDraws.j0 k a2 a3 t409 a1_0 a1_1 t410 t411 t412 t413 t416 t417 t418 t419 bt422.1 bt422.2.1 bt422.2.2.1 bt422.2.2.2)))))) else (none)))) = some r := H
 have A7 := zM A70
 clear A70
 replace H := zB H
 obtain ⟨⟨t422, t423, t424, t425⟩, A80, H⟩ := H
 replace H : ((brindlewoodlaw4_draws.f k).bind fun t428 => (if t428 = true then ((brindlewoodref3_IntOk.f a0_0 l0_1).bind fun t429 => (if t429 = true then (if t405 = 0 then ((brindlewoodref4_Seeded.f k a0_0 l0_1).bind fun bt430 => (if (!(t403 == bt430.1) || (!(t404 == bt430.2))) = true then (none) else (brindlewoodlaw4_RandomDraws.j0 k a2 a3 t409 a1_0 a1_1 t410 t411 t412 t413 t416 t417 t418 t419 t422 t423 t424 t425))) else (none)) else ((brindlewoodref4_At.f 6 (-1)).bind fun bt432 => (if (!(t405 == bt432.1) || (!(t406 == bt432.2))) = true then (none) else (if (!(t403 == 0) || (!(t404 == 0))) = true then (none) else (brindlewoodlaw4_RandomDraws.j0 k a2 a3 t409 a1_0 a1_1 t410 t411 t412 t413 t416 t417 t418 t419 t422 t423 t424 t425)))))) else (none))) = some r := H
 have A8 := zM A80
 clear A80
 replace H := zB H
 obtain ⟨t428, A90, H⟩ := H
 replace H : (if t428 = true then ((brindlewoodref3_IntOk.f a0_0 l0_1).bind fun t429 => (if t429 = true then (if t405 = 0 then ((brindlewoodref4_Seeded.f k a0_0 l0_1).bind fun bt430 => (if (!(t403 == bt430.1) || (!(t404 == bt430.2))) = true then (none) else (brindlewoodlaw4_RandomDraws.j0 k a2 a3 t409 a1_0 a1_1 t410 t411 t412 t413 t416 t417 t418 t419 t422 t423 t424 t425))) else (none)) else ((brindlewoodref4_At.f 6 (-1)).bind fun bt432 => (if (!(t405 == bt432.1) || (!(t406 == bt432.2))) = true then (none) else (if (!(t403 == 0) || (!(t404 == 0))) = true then (none) else (brindlewoodlaw4_RandomDraws.j0 k a2 a3 t409 a1_0 a1_1 t410 t411 t412 t413 t416 t417 t418 t419 t422 t423 t424 t425)))))) else (none)) = some r := H
 have A9 := zM A90
 clear A90
 by_cases c10 : t428 = true
 ·subst c10
  have H1 : ((brindlewoodref3_IntOk.f a0_0 l0_1).bind fun t429 => (if t429 = true then (if t405 = 0 then ((brindlewoodref4_Seeded.f k a0_0 l0_1).bind fun bt430 => (if (!(t403 == bt430.1) || (!(t404 == bt430.2))) = true then (none) else (brindlewoodlaw4_RandomDraws.j0 k a2 a3 t409 a1_0 a1_1 t410 t411 t412 t413 t416 t417 t418 t419 t422 t423 t424 t425))) else (none)) else ((brindlewoodref4_At.f 6 (-1)).bind fun bt432 => (if (!(t405 == bt432.1) || (!(t406 == bt432.2))) = true then (none) else (if (!(t403 == 0) || (!(t404 == 0))) = true then (none) else (brindlewoodlaw4_RandomDraws.j0 k a2 a3 t409 a1_0 a1_1 t410 t411 t412 t413 t416 t417 t418 t419 t422 t423 t424 t425)))))) = some r := by rw [if_pos rfl] at H; exact H
  clear H
  have H := H1
  clear H1
  replace H := zB H
  obtain ⟨t429, A110, H⟩ := H
  replace H : (if t429 = true then (if t405 = 0 then ((brindlewoodref4_Seeded.f k a0_0 l0_1).bind fun bt430 => (if (!(t403 == bt430.1) || (!(t404 == bt430.2))) = true then (none) else (brindlewoodlaw4_RandomDraws.j0 k a2 a3 t409 a1_0 a1_1 t410 t411 t412 t413 t416 t417 t418 t419 t422 t423 t424 t425))) else (none)) else ((brindlewoodref4_At.f 6 (-1)).bind fun bt432 => (if (!(t405 == bt432.1) || (!(t406 == bt432.2))) = true then (none) else (if (!(t403 == 0) || (!(t404 == 0))) = true then (none) else (brindlewoodlaw4_RandomDraws.j0 k a2 a3 t409 a1_0 a1_1 t410 t411 t412 t413 t416 t417 t418 t419 t422 t423 t424 t425))))) = some r := H
  have A11 := zM A110
  clear A110
  have HC12 := zM H
  clear H
  go_enter Try.func3, Try.ntmps3
  go_upto_if 59 with (first | ((with_reducible refine gate_dst (N := 4) rfl ?_); refine box_event ?hg (N := 4) ?hd (cs := #[.bool a0_0, .slice A0_1 l0_1.length c0_1]) (t := 24) ?hr ?_; (case hd => rfl); (case hg => rfl); (case hr => first | (go_simp; done) | (go_simp; rfl)); intro gb401 hg w13 hbox hb; have BK401 := zM (hbox); have GW401 := zM ((by rw [hg]; exact (below_size (HB.out)) : w.heap.size ≤ gb401)); have GE401 := GW401; replace HB := zM (below_step (HB.out) hb); clear hb hbox hg) | ((with_reducible refine gate_dst (N := 5) rfl ?_); refine box_event ?hg (N := 5) ?hd (cs := #[.int .u64 a1_0, .int .u64 a1_1]) (t := 27) ?hr ?_; (case hd => rfl); (case hg => rfl); (case hr => first | (go_simp; done) | (go_simp; rfl)); intro gb402 hg w14 hbox hb; have BK402 := zM (hbox); have GW402 := zM ((by rw [hg]; exact (below_size (by repeat (first | (with_reducible first | exact HB.out | apply pzA | apply pzD | apply pz1 | apply pzs | assumption) | exact HB.out))) : w.heap.size ≤ gb402)); have GE402 := GW402; have NB401_402 := pzf BK401 hg; have NB402_401 := pzg BK401 hg; replace BK401 := pzb BK401 hb; replace HB := zM (below_step (by repeat (first | (with_reducible first | exact HB.out | apply pzA | apply pzD | apply pz1 | apply pzs | assumption) | exact HB.out)) hb); clear hb hbox hg; have hnb15 := NB401_402.out; have hnc15 := NB402_401.out; have hcz16_0 := pzc (v := .bool a0_0) BK401 0 rfl; have hcz16_1 := pzc (v := .slice A0_1 l0_1.length c0_1) BK401 1 rfl; have hfz16_0 := zF BK401.out 0; have hfz16_1 := zF BK401.out 1) | ((with_reducible refine gate_callee (f := 8) rfl ?_); refine goesL_ (some 33) rfl rfl Try.func8 (by kernel_rfl) rfl #[.agg #[.bool a0_0, .slice A0_1 l0_1.length c0_1]] rfl (by (try simp only [zT, zC, zN]); first | done | rfl | (simp only [zR, zL]; rfl)) ?_; (with_reducible refine (random_Seed.calls k a0_0 _ _ l0_1 t403 t404 t405 t406 _ ?side1 ?side2 A5.out).mono ?_); (case side1 => repeat (first | exact (Kd.C_below HR0_1.out HB.out) | (with_reducible refine Kd.C_alloc ?_ _) | (with_reducible refine Kd.C_drewN ?_ _) | (with_reducible refine Kd.C_drew ?_))); (case side2 => exact HC0_1.out); rintro e w17 ⟨rfl, hb⟩; refine ⟨_, rfl, ?_⟩; replace BK401 := pzb BK401 hb; replace BK402 := pzb BK402 hb; replace HB := zM (below_step (by repeat (first | (with_reducible first | exact HB.out | apply pzA | apply pzD | apply pz1 | apply pzs | assumption) | exact HB.out)) hb); (try clear hb); (try clear hb2); (try clear hk); (try clear hi)) | ((with_reducible refine gate_dst (N := 9) rfl ?_); refine box_event ?hg (N := 9) ?hd (cs := #[.int .u64 0, .int .u64 0]) (t := 27) ?hr ?_; (case hd => rfl); (case hg => rfl); (case hr => first | (go_simp; done) | (go_simp; rfl)); intro gb407 hg w18 hbox hb; have BK407 := zM (hbox); have GW407 := zM ((by rw [hg]; exact (below_size (by repeat (first | (with_reducible first | exact HB.out | apply pzA | apply pzD | apply pz1 | apply pzs | assumption) | exact HB.out))) : w.heap.size ≤ gb407)); have GE407 := GW407; have NB401_407 := pzf BK401 hg; have NB407_401 := pzg BK401 hg; have NB402_407 := pzf BK402 hg; have NB407_402 := pzg BK402 hg; replace BK401 := pzb BK401 hb; replace BK402 := pzb BK402 hb; replace HB := zM (below_step (by repeat (first | (with_reducible first | exact HB.out | apply pzA | apply pzD | apply pz1 | apply pzs | assumption) | exact HB.out)) hb); clear hb hbox hg) | ((with_reducible refine gate_dst (N := 10) rfl ?_); refine box_event ?hg (N := 10) ?hd (cs := #[.int .i64 0, .int .i64 0]) (t := 29) ?hr ?_; (case hd => rfl); (case hg => rfl); (case hr => first | (go_simp; done) | (go_simp; rfl)); intro gb408 hg w19 hbox hb; have BK408 := zM (hbox); have GW408 := zM ((by rw [hg]; exact (below_size (by repeat (first | (with_reducible first | exact HB.out | apply pzA | apply pzD | apply pz1 | apply pzs | assumption) | exact HB.out))) : w.heap.size ≤ gb408)); have GE408 := GW408; have NB401_408 := pzf BK401 hg; have NB408_401 := pzg BK401 hg; have NB402_408 := pzf BK402 hg; have NB408_402 := pzg BK402 hg; have NB407_408 := pzf BK407 hg; have NB408_407 := pzg BK407 hg; replace BK401 := pzb BK401 hb; replace BK402 := pzb BK402 hb; replace BK407 := pzb BK407 hb; replace HB := zM (below_step (by repeat (first | (with_reducible first | exact HB.out | apply pzA | apply pzD | apply pz1 | apply pzs | assumption) | exact HB.out)) hb); clear hb hbox hg; have hnb20 := NB407_401.out; have hnc20 := NB401_407.out; have hnb21 := NB407_402.out; have hnc21 := NB402_407.out; have hnb22 := NB407_408.out; have hnc22 := NB408_407.out; have hcz23_0 := pzc (v := .int .u64 0) BK407 0 rfl; have hcz23_1 := pzc (v := .int .u64 0) BK407 1 rfl; have hfz23_0 := zF BK407.out 0; have hfz23_1 := zF BK407.out 1; have hnb24 := NB408_401.out; have hnc24 := NB401_408.out; have hnb25 := NB408_402.out; have hnc25 := NB402_408.out; have hcz26_0 := pzc (v := .int .i64 0) BK408 0 rfl; have hcz26_1 := pzc (v := .int .i64 0) BK408 1 rfl; have hfz26_0 := zF BK408.out 0; have hfz26_1 := zF BK408.out 1; have hcz27_0 := pzc (v := .int .u64 a1_0) BK402 0 rfl; have hcz27_1 := pzc (v := .int .u64 a1_1) BK402 1 rfl; have hfz27_0 := zF BK402.out 0; have hfz27_1 := zF BK402.out 1) | ((with_reducible refine gate_callee (f := 9) rfl ?_); refine goesL_ (some 38) rfl rfl Try.func9 (by kernel_rfl) rfl #[.agg #[.int .u64 a1_0, .int .u64 a1_1]] rfl (by (try simp only [zT, zC, zN]); first | done | rfl | (simp only [zR, zL]; rfl)) ?_; (with_reducible refine (random_Next.calls a1_0 a1_1 t409 t410 t411 t412 t413 _ A6.out).mono ?_); rintro e w28 ⟨rfl, hb⟩; refine ⟨_, rfl, ?_⟩; replace BK401 := zM (blk_below (g := gb401) (o := .cells #[.bool a0_0, .slice A0_1 l0_1.length c0_1] 24 (0, 0)) (by (with_reducible repeat (first | apply pzN | apply pzd | apply pza)); refine blk_far ?_ NB401_408.out _; (with_reducible repeat (first | apply pzN | apply pzd | apply pza)); refine blk_far ?_ NB401_408.out _; (with_reducible repeat (first | apply pzN | apply pzd | apply pza)); refine blk_far ?_ NB401_407.out _; (with_reducible repeat (first | apply pzN | apply pzd | apply pza)); refine blk_far ?_ NB401_407.out _; (with_reducible repeat (first | apply pzN | apply pzd | apply pza)); exact BK401.out) hb); replace BK402 := zM (blk_below (g := gb402) (o := .cells #[.int .u64 a1_0, .int .u64 a1_1] 27 (0, 0)) (by (with_reducible repeat (first | apply pzN | apply pzd | apply pza)); refine blk_far ?_ NB402_408.out _; (with_reducible repeat (first | apply pzN | apply pzd | apply pza)); refine blk_far ?_ NB402_408.out _; (with_reducible repeat (first | apply pzN | apply pzd | apply pza)); refine blk_far ?_ NB402_407.out _; (with_reducible repeat (first | apply pzN | apply pzd | apply pza)); refine blk_far ?_ NB402_407.out _; (with_reducible repeat (first | apply pzN | apply pzd | apply pza)); exact BK402.out) hb); replace BK407 := zM (blk_below (g := gb407) (o := .cells #[.int .u64 t403, .int .u64 t404] 27 (0, 0)) (by (with_reducible repeat (first | apply pzN | apply pzd | apply pza)); refine blk_far ?_ NB407_408.out _; (with_reducible repeat (first | apply pzN | apply pzd | apply pza)); refine blk_far ?_ NB407_408.out _; (with_reducible repeat (first | apply pzN | apply pzd | apply pza)); refine blk_put (cs := #[.int .u64 t403, .int .u64 0]) ?_ 1 _ rfl; (with_reducible repeat (first | apply pzN | apply pzd | apply pza)); refine blk_put (cs := #[.int .u64 0, .int .u64 0]) ?_ 0 _ rfl; (with_reducible repeat (first | apply pzN | apply pzd | apply pza)); exact BK407.out) hb); replace BK408 := zM (blk_below (g := gb408) (o := .cells #[.int .i64 t405, .int .i64 t406] 29 (0, 0)) (by (with_reducible repeat (first | apply pzN | apply pzd | apply pza)); refine blk_put (cs := #[.int .i64 t405, .int .i64 0]) ?_ 1 _ rfl; (with_reducible repeat (first | apply pzN | apply pzd | apply pza)); refine blk_put (cs := #[.int .i64 0, .int .i64 0]) ?_ 0 _ rfl; (with_reducible repeat (first | apply pzN | apply pzd | apply pza)); refine blk_far ?_ NB408_407.out _; (with_reducible repeat (first | apply pzN | apply pzd | apply pza)); refine blk_far ?_ NB408_407.out _; (with_reducible repeat (first | apply pzN | apply pzd | apply pza)); exact BK408.out) hb); replace HB := zM (below_step (by repeat (first | (with_reducible first | exact HB.out | apply pzA | apply pzD | apply pz1 | apply pzs | assumption) | exact HB.out)) hb); (try clear hb); (try clear hb2); (try clear hk); (try clear hi)) | ((with_reducible refine gate_dst (N := 12) rfl ?_); refine box_event ?hg (N := 12) ?hd (cs := #[.int .u64 0, .int .u64 0]) (t := 27) ?hr ?_; (case hd => rfl); (case hg => rfl); (case hr => first | (go_simp; done) | (go_simp; rfl)); intro gb414 hg w29 hbox hb; have BK414 := zM (hbox); have GW414 := zM ((by rw [hg]; exact (below_size (by repeat (first | (with_reducible first | exact HB.out | apply pzA | apply pzD | apply pz1 | apply pzs | assumption) | exact HB.out))) : w.heap.size ≤ gb414)); have GE414 := GW414; have NB401_414 := pzf BK401 hg; have NB414_401 := pzg BK401 hg; have NB402_414 := pzf BK402 hg; have NB414_402 := pzg BK402 hg; have NB407_414 := pzf BK407 hg; have NB414_407 := pzg BK407 hg; have NB408_414 := pzf BK408 hg; have NB414_408 := pzg BK408 hg; replace BK401 := pzb BK401 hb; replace BK402 := pzb BK402 hb; replace BK407 := pzb BK407 hb; replace BK408 := pzb BK408 hb; replace HB := zM (below_step (by repeat (first | (with_reducible first | exact HB.out | apply pzA | apply pzD | apply pz1 | apply pzs | assumption) | exact HB.out)) hb); clear hb hbox hg) | ((with_reducible refine gate_dst (N := 13) rfl ?_); refine box_event ?hg (N := 13) ?hd (cs := #[.int .i64 0, .int .i64 0]) (t := 29) ?hr ?_; (case hd => rfl); (case hg => rfl); (case hr => first | (go_simp; done) | (go_simp; rfl)); intro gb415 hg w30 hbox hb; have BK415 := zM (hbox); have GW415 := zM ((by rw [hg]; exact (below_size (by repeat (first | (with_reducible first | exact HB.out | apply pzA | apply pzD | apply pz1 | apply pzs | assumption) | exact HB.out))) : w.heap.size ≤ gb415)); have GE415 := GW415; have NB401_415 := pzf BK401 hg; have NB415_401 := pzg BK401 hg; have NB402_415 := pzf BK402 hg; have NB415_402 := pzg BK402 hg; have NB407_415 := pzf BK407 hg; have NB415_407 := pzg BK407 hg; have NB408_415 := pzf BK408 hg; have NB415_408 := pzg BK408 hg; have NB414_415 := pzf BK414 hg; have NB415_414 := pzg BK414 hg; replace BK401 := pzb BK401 hb; replace BK402 := pzb BK402 hb; replace BK407 := pzb BK407 hb; replace BK408 := pzb BK408 hb; replace BK414 := pzb BK414 hb; replace HB := zM (below_step (by repeat (first | (with_reducible first | exact HB.out | apply pzA | apply pzD | apply pz1 | apply pzs | assumption) | exact HB.out)) hb); clear hb hbox hg; have hnb31 := NB414_401.out; have hnc31 := NB401_414.out; have hnb32 := NB414_402.out; have hnc32 := NB402_414.out; have hnb33 := NB414_407.out; have hnc33 := NB407_414.out; have hnb34 := NB414_408.out; have hnc34 := NB408_414.out; have hnb35 := NB414_415.out; have hnc35 := NB415_414.out; have hcz36_0 := pzc (v := .int .u64 0) BK414 0 rfl; have hcz36_1 := pzc (v := .int .u64 0) BK414 1 rfl; have hfz36_0 := zF BK414.out 0; have hfz36_1 := zF BK414.out 1; have hnb37 := NB415_401.out; have hnc37 := NB401_415.out; have hnb38 := NB415_402.out; have hnc38 := NB402_415.out; have hnb39 := NB415_407.out; have hnc39 := NB407_415.out; have hnb40 := NB415_408.out; have hnc40 := NB408_415.out; have hcz41_0 := pzc (v := .int .i64 0) BK415 0 rfl; have hcz41_1 := pzc (v := .int .i64 0) BK415 1 rfl; have hfz41_0 := zF BK415.out 0; have hfz41_1 := zF BK415.out 1; have hcz42_0 := pzc (v := .int .u64 a1_0) BK402 0 rfl; have hcz42_1 := pzc (v := .int .u64 a1_1) BK402 1 rfl; have hfz42_0 := zF BK402.out 0; have hfz42_1 := zF BK402.out 1) | ((with_reducible refine gate_callee (f := 10) rfl ?_); refine goesL_ (some 46) rfl rfl Try.func10 (by kernel_rfl) rfl #[.agg #[.int .u64 a1_0, .int .u64 a1_1], .int .u64 (Int.tmod a2 5000)] rfl (by (try simp only [zT, zC, zN]); first | done | rfl | (simp only [zR, zL]; rfl)) ?_; (with_reducible refine (random_Skip.calls k a1_0 a1_1 (Int.tmod a2 5000) t416 t417 t418 t419 _ A7.out).mono ?_); rintro e w43 ⟨rfl, hb⟩; refine ⟨_, rfl, ?_⟩; replace BK401 := zM (blk_below (g := gb401) (o := .cells #[.bool a0_0, .slice A0_1 l0_1.length c0_1] 24 (0, 0)) (by (with_reducible repeat (first | apply pzN | apply pzd | apply pza)); refine blk_far ?_ NB401_415.out _; (with_reducible repeat (first | apply pzN | apply pzd | apply pza)); refine blk_far ?_ NB401_415.out _; (with_reducible repeat (first | apply pzN | apply pzd | apply pza)); refine blk_far ?_ NB401_414.out _; (with_reducible repeat (first | apply pzN | apply pzd | apply pza)); refine blk_far ?_ NB401_414.out _; (with_reducible repeat (first | apply pzN | apply pzd | apply pza)); exact BK401.out) hb); replace BK402 := zM (blk_below (g := gb402) (o := .cells #[.int .u64 a1_0, .int .u64 a1_1] 27 (0, 0)) (by (with_reducible repeat (first | apply pzN | apply pzd | apply pza)); refine blk_far ?_ NB402_415.out _; (with_reducible repeat (first | apply pzN | apply pzd | apply pza)); refine blk_far ?_ NB402_415.out _; (with_reducible repeat (first | apply pzN | apply pzd | apply pza)); refine blk_far ?_ NB402_414.out _; (with_reducible repeat (first | apply pzN | apply pzd | apply pza)); refine blk_far ?_ NB402_414.out _; (with_reducible repeat (first | apply pzN | apply pzd | apply pza)); exact BK402.out) hb); replace BK407 := zM (blk_below (g := gb407) (o := .cells #[.int .u64 t403, .int .u64 t404] 27 (0, 0)) (by (with_reducible repeat (first | apply pzN | apply pzd | apply pza)); refine blk_far ?_ NB407_415.out _; (with_reducible repeat (first | apply pzN | apply pzd | apply pza)); refine blk_far ?_ NB407_415.out _; (with_reducible repeat (first | apply pzN | apply pzd | apply pza)); refine blk_far ?_ NB407_414.out _; (with_reducible repeat (first | apply pzN | apply pzd | apply pza)); refine blk_far ?_ NB407_414.out _; (with_reducible repeat (first | apply pzN | apply pzd | apply pza)); exact BK407.out) hb); replace BK408 := zM (blk_below (g := gb408) (o := .cells #[.int .i64 t405, .int .i64 t406] 29 (0, 0)) (by (with_reducible repeat (first | apply pzN | apply pzd | apply pza)); refine blk_far ?_ NB408_415.out _; (with_reducible repeat (first | apply pzN | apply pzd | apply pza)); refine blk_far ?_ NB408_415.out _; (with_reducible repeat (first | apply pzN | apply pzd | apply pza)); refine blk_far ?_ NB408_414.out _; (with_reducible repeat (first | apply pzN | apply pzd | apply pza)); refine blk_far ?_ NB408_414.out _; (with_reducible repeat (first | apply pzN | apply pzd | apply pza)); exact BK408.out) hb); replace BK414 := zM (blk_below (g := gb414) (o := .cells #[.int .u64 t410, .int .u64 t411] 27 (0, 0)) (by (with_reducible repeat (first | apply pzN | apply pzd | apply pza)); refine blk_far ?_ NB414_415.out _; (with_reducible repeat (first | apply pzN | apply pzd | apply pza)); refine blk_far ?_ NB414_415.out _; (with_reducible repeat (first | apply pzN | apply pzd | apply pza)); refine blk_put (cs := #[.int .u64 t410, .int .u64 0]) ?_ 1 _ rfl; (with_reducible repeat (first | apply pzN | apply pzd | apply pza)); refine blk_put (cs := #[.int .u64 0, .int .u64 0]) ?_ 0 _ rfl; (with_reducible repeat (first | apply pzN | apply pzd | apply pza)); exact BK414.out) hb); replace BK415 := zM (blk_below (g := gb415) (o := .cells #[.int .i64 t412, .int .i64 t413] 29 (0, 0)) (by (with_reducible repeat (first | apply pzN | apply pzd | apply pza)); refine blk_put (cs := #[.int .i64 t412, .int .i64 0]) ?_ 1 _ rfl; (with_reducible repeat (first | apply pzN | apply pzd | apply pza)); refine blk_put (cs := #[.int .i64 0, .int .i64 0]) ?_ 0 _ rfl; (with_reducible repeat (first | apply pzN | apply pzd | apply pza)); refine blk_far ?_ NB415_414.out _; (with_reducible repeat (first | apply pzN | apply pzd | apply pza)); refine blk_far ?_ NB415_414.out _; (with_reducible repeat (first | apply pzN | apply pzd | apply pza)); exact BK415.out) hb); replace HB := zM (below_step (by repeat (first | (with_reducible first | exact HB.out | apply pzA | apply pzD | apply pz1 | apply pzs | assumption) | exact HB.out)) hb); (try clear hb); (try clear hb2); (try clear hk); (try clear hi)) | ((with_reducible refine gate_dst (N := 14) rfl ?_); refine box_event ?hg (N := 14) ?hd (cs := #[.int .u64 0, .int .u64 0]) (t := 27) ?hr ?_; (case hd => rfl); (case hg => rfl); (case hr => first | (go_simp; done) | (go_simp; rfl)); intro gb420 hg w44 hbox hb; have BK420 := zM (hbox); have GW420 := zM ((by rw [hg]; exact (below_size (by repeat (first | (with_reducible first | exact HB.out | apply pzA | apply pzD | apply pz1 | apply pzs | assumption) | exact HB.out))) : w.heap.size ≤ gb420)); have GE420 := GW420; have NB401_420 := pzf BK401 hg; have NB420_401 := pzg BK401 hg; have NB402_420 := pzf BK402 hg; have NB420_402 := pzg BK402 hg; have NB407_420 := pzf BK407 hg; have NB420_407 := pzg BK407 hg; have NB408_420 := pzf BK408 hg; have NB420_408 := pzg BK408 hg; have NB414_420 := pzf BK414 hg; have NB420_414 := pzg BK414 hg; have NB415_420 := pzf BK415 hg; have NB420_415 := pzg BK415 hg; replace BK401 := pzb BK401 hb; replace BK402 := pzb BK402 hb; replace BK407 := pzb BK407 hb; replace BK408 := pzb BK408 hb; replace BK414 := pzb BK414 hb; replace BK415 := pzb BK415 hb; replace HB := zM (below_step (by repeat (first | (with_reducible first | exact HB.out | apply pzA | apply pzD | apply pz1 | apply pzs | assumption) | exact HB.out)) hb); clear hb hbox hg) | ((with_reducible refine gate_dst (N := 15) rfl ?_); refine box_event ?hg (N := 15) ?hd (cs := #[.int .i64 0, .int .i64 0]) (t := 29) ?hr ?_; (case hd => rfl); (case hg => rfl); (case hr => first | (go_simp; done) | (go_simp; rfl)); intro gb421 hg w45 hbox hb; have BK421 := zM (hbox); have GW421 := zM ((by rw [hg]; exact (below_size (by repeat (first | (with_reducible first | exact HB.out | apply pzA | apply pzD | apply pz1 | apply pzs | assumption) | exact HB.out))) : w.heap.size ≤ gb421)); have GE421 := GW421; have NB401_421 := pzf BK401 hg; have NB421_401 := pzg BK401 hg; have NB402_421 := pzf BK402 hg; have NB421_402 := pzg BK402 hg; have NB407_421 := pzf BK407 hg; have NB421_407 := pzg BK407 hg; have NB408_421 := pzf BK408 hg; have NB421_408 := pzg BK408 hg; have NB414_421 := pzf BK414 hg; have NB421_414 := pzg BK414 hg; have NB415_421 := pzf BK415 hg; have NB421_415 := pzg BK415 hg; have NB420_421 := pzf BK420 hg; have NB421_420 := pzg BK420 hg; replace BK401 := pzb BK401 hb; replace BK402 := pzb BK402 hb; replace BK407 := pzb BK407 hb; replace BK408 := pzb BK408 hb; replace BK414 := pzb BK414 hb; replace BK415 := pzb BK415 hb; replace BK420 := pzb BK420 hb; replace HB := zM (below_step (by repeat (first | (with_reducible first | exact HB.out | apply pzA | apply pzD | apply pz1 | apply pzs | assumption) | exact HB.out)) hb); clear hb hbox hg; have hnb46 := NB420_401.out; have hnc46 := NB401_420.out; have hnb47 := NB420_402.out; have hnc47 := NB402_420.out; have hnb48 := NB420_407.out; have hnc48 := NB407_420.out; have hnb49 := NB420_408.out; have hnc49 := NB408_420.out; have hnb50 := NB420_414.out; have hnc50 := NB414_420.out; have hnb51 := NB420_415.out; have hnc51 := NB415_420.out; have hnb52 := NB420_421.out; have hnc52 := NB421_420.out; have hcz53_0 := pzc (v := .int .u64 0) BK420 0 rfl; have hcz53_1 := pzc (v := .int .u64 0) BK420 1 rfl; have hfz53_0 := zF BK420.out 0; have hfz53_1 := zF BK420.out 1; have hnb54 := NB421_401.out; have hnc54 := NB401_421.out; have hnb55 := NB421_402.out; have hnc55 := NB402_421.out; have hnb56 := NB421_407.out; have hnc56 := NB407_421.out; have hnb57 := NB421_408.out; have hnc57 := NB408_421.out; have hnb58 := NB421_414.out; have hnc58 := NB414_421.out; have hnb59 := NB421_415.out; have hnc59 := NB415_421.out; have hcz60_0 := pzc (v := .int .i64 0) BK421 0 rfl; have hcz60_1 := pzc (v := .int .i64 0) BK421 1 rfl; have hfz60_0 := zF BK421.out 0; have hfz60_1 := zF BK421.out 1; have hcz61_0 := pzc (v := .int .u64 a1_0) BK402 0 rfl; have hcz61_1 := pzc (v := .int .u64 a1_1) BK402 1 rfl; have hfz61_0 := zF BK402.out 0; have hfz61_1 := zF BK402.out 1) | ((with_reducible refine gate_callee (f := 10) rfl ?_); refine goesL_ (some 52) rfl rfl Try.func10 (by kernel_rfl) rfl #[.agg #[.int .u64 a1_0, .int .u64 a1_1], .int .u64 a2] rfl (by (try simp only [zT, zC, zN]); first | done | rfl | (simp only [zR, zL]; rfl)) ?_; (with_reducible refine (random_Skip.calls k a1_0 a1_1 a2 t422 t423 t424 t425 _ A8.out).mono ?_); rintro e w62 ⟨rfl, hb⟩; refine ⟨_, rfl, ?_⟩; replace BK401 := zM (blk_below (g := gb401) (o := .cells #[.bool a0_0, .slice A0_1 l0_1.length c0_1] 24 (0, 0)) (by (with_reducible repeat (first | apply pzN | apply pzd | apply pza)); refine blk_far ?_ NB401_421.out _; (with_reducible repeat (first | apply pzN | apply pzd | apply pza)); refine blk_far ?_ NB401_421.out _; (with_reducible repeat (first | apply pzN | apply pzd | apply pza)); refine blk_far ?_ NB401_420.out _; (with_reducible repeat (first | apply pzN | apply pzd | apply pza)); refine blk_far ?_ NB401_420.out _; (with_reducible repeat (first | apply pzN | apply pzd | apply pza)); exact BK401.out) hb); replace BK402 := zM (blk_below (g := gb402) (o := .cells #[.int .u64 a1_0, .int .u64 a1_1] 27 (0, 0)) (by (with_reducible repeat (first | apply pzN | apply pzd | apply pza)); refine blk_far ?_ NB402_421.out _; (with_reducible repeat (first | apply pzN | apply pzd | apply pza)); refine blk_far ?_ NB402_421.out _; (with_reducible repeat (first | apply pzN | apply pzd | apply pza)); refine blk_far ?_ NB402_420.out _; (with_reducible repeat (first | apply pzN | apply pzd | apply pza)); refine blk_far ?_ NB402_420.out _; (with_reducible repeat (first | apply pzN | apply pzd | apply pza)); exact BK402.out) hb); replace BK407 := zM (blk_below (g := gb407) (o := .cells #[.int .u64 t403, .int .u64 t404] 27 (0, 0)) (by (with_reducible repeat (first | apply pzN | apply pzd | apply pza)); refine blk_far ?_ NB407_421.out _; (with_reducible repeat (first | apply pzN | apply pzd | apply pza)); refine blk_far ?_ NB407_421.out _; (with_reducible repeat (first | apply pzN | apply pzd | apply pza)); refine blk_far ?_ NB407_420.out _; (with_reducible repeat (first | apply pzN | apply pzd | apply pza)); refine blk_far ?_ NB407_420.out _; (with_reducible repeat (first | apply pzN | apply pzd | apply pza)); exact BK407.out) hb); replace BK408 := zM (blk_below (g := gb408) (o := .cells #[.int .i64 t405, .int .i64 t406] 29 (0, 0)) (by (with_reducible repeat (first | apply pzN | apply pzd | apply pza)); refine blk_far ?_ NB408_421.out _; (with_reducible repeat (first | apply pzN | apply pzd | apply pza)); refine blk_far ?_ NB408_421.out _; (with_reducible repeat (first | apply pzN | apply pzd | apply pza)); refine blk_far ?_ NB408_420.out _; (with_reducible repeat (first | apply pzN | apply pzd | apply pza)); refine blk_far ?_ NB408_420.out _; (with_reducible repeat (first | apply pzN | apply pzd | apply pza)); exact BK408.out) hb); replace BK414 := zM (blk_below (g := gb414) (o := .cells #[.int .u64 t410, .int .u64 t411] 27 (0, 0)) (by (with_reducible repeat (first | apply pzN | apply pzd | apply pza)); refine blk_far ?_ NB414_421.out _; (with_reducible repeat (first | apply pzN | apply pzd | apply pza)); refine blk_far ?_ NB414_421.out _; (with_reducible repeat (first | apply pzN | apply pzd | apply pza)); refine blk_far ?_ NB414_420.out _; (with_reducible repeat (first | apply pzN | apply pzd | apply pza)); refine blk_far ?_ NB414_420.out _; (with_reducible repeat (first | apply pzN | apply pzd | apply pza)); exact BK414.out) hb); replace BK415 := zM (blk_below (g := gb415) (o := .cells #[.int .i64 t412, .int .i64 t413] 29 (0, 0)) (by (with_reducible repeat (first | apply pzN | apply pzd | apply pza)); refine blk_far ?_ NB415_421.out _; (with_reducible repeat (first | apply pzN | apply pzd | apply pza)); refine blk_far ?_ NB415_421.out _; (with_reducible repeat (first | apply pzN | apply pzd | apply pza)); refine blk_far ?_ NB415_420.out _; (with_reducible repeat (first | apply pzN | apply pzd | apply pza)); refine blk_far ?_ NB415_420.out _; (with_reducible repeat (first | apply pzN | apply pzd | apply pza)); exact BK415.out) hb); replace BK420 := zM (blk_below (g := gb420) (o := .cells #[.int .u64 t416, .int .u64 t417] 27 (0, 0)) (by (with_reducible repeat (first | apply pzN | apply pzd | apply pza)); refine blk_far ?_ NB420_421.out _; (with_reducible repeat (first | apply pzN | apply pzd | apply pza)); refine blk_far ?_ NB420_421.out _; (with_reducible repeat (first | apply pzN | apply pzd | apply pza)); refine blk_put (cs := #[.int .u64 t416, .int .u64 0]) ?_ 1 _ rfl; (with_reducible repeat (first | apply pzN | apply pzd | apply pza)); refine blk_put (cs := #[.int .u64 0, .int .u64 0]) ?_ 0 _ rfl; (with_reducible repeat (first | apply pzN | apply pzd | apply pza)); exact BK420.out) hb); replace BK421 := zM (blk_below (g := gb421) (o := .cells #[.int .i64 t418, .int .i64 t419] 29 (0, 0)) (by (with_reducible repeat (first | apply pzN | apply pzd | apply pza)); refine blk_put (cs := #[.int .i64 t418, .int .i64 0]) ?_ 1 _ rfl; (with_reducible repeat (first | apply pzN | apply pzd | apply pza)); refine blk_put (cs := #[.int .i64 0, .int .i64 0]) ?_ 0 _ rfl; (with_reducible repeat (first | apply pzN | apply pzd | apply pza)); refine blk_far ?_ NB421_420.out _; (with_reducible repeat (first | apply pzN | apply pzd | apply pza)); refine blk_far ?_ NB421_420.out _; (with_reducible repeat (first | apply pzN | apply pzd | apply pza)); exact BK421.out) hb); replace HB := zM (below_step (by repeat (first | (with_reducible first | exact HB.out | apply pzA | apply pzD | apply pz1 | apply pzs | assumption) | exact HB.out)) hb); (try clear hb); (try clear hb2); (try clear hk); (try clear hi)) | ((with_reducible refine gate_dst (N := 16) rfl ?_); refine box_event ?hg (N := 16) ?hd (cs := #[.int .u64 0, .int .u64 0]) (t := 27) ?hr ?_; (case hd => rfl); (case hg => rfl); (case hr => first | (go_simp; done) | (go_simp; rfl)); intro gb426 hg w63 hbox hb; have BK426 := zM (hbox); have GW426 := zM ((by rw [hg]; exact (below_size (by repeat (first | (with_reducible first | exact HB.out | apply pzA | apply pzD | apply pz1 | apply pzs | assumption) | exact HB.out))) : w.heap.size ≤ gb426)); have GE426 := GW426; have NB401_426 := pzf BK401 hg; have NB426_401 := pzg BK401 hg; have NB402_426 := pzf BK402 hg; have NB426_402 := pzg BK402 hg; have NB407_426 := pzf BK407 hg; have NB426_407 := pzg BK407 hg; have NB408_426 := pzf BK408 hg; have NB426_408 := pzg BK408 hg; have NB414_426 := pzf BK414 hg; have NB426_414 := pzg BK414 hg; have NB415_426 := pzf BK415 hg; have NB426_415 := pzg BK415 hg; have NB420_426 := pzf BK420 hg; have NB426_420 := pzg BK420 hg; have NB421_426 := pzf BK421 hg; have NB426_421 := pzg BK421 hg; replace BK401 := pzb BK401 hb; replace BK402 := pzb BK402 hb; replace BK407 := pzb BK407 hb; replace BK408 := pzb BK408 hb; replace BK414 := pzb BK414 hb; replace BK415 := pzb BK415 hb; replace BK420 := pzb BK420 hb; replace BK421 := pzb BK421 hb; replace HB := zM (below_step (by repeat (first | (with_reducible first | exact HB.out | apply pzA | apply pzD | apply pz1 | apply pzs | assumption) | exact HB.out)) hb); clear hb hbox hg) | ((with_reducible refine gate_dst (N := 17) rfl ?_); refine box_event ?hg (N := 17) ?hd (cs := #[.int .i64 0, .int .i64 0]) (t := 29) ?hr ?_; (case hd => rfl); (case hg => rfl); (case hr => first | (go_simp; done) | (go_simp; rfl)); intro gb427 hg w64 hbox hb; have BK427 := zM (hbox); have GW427 := zM ((by rw [hg]; exact (below_size (by repeat (first | (with_reducible first | exact HB.out | apply pzA | apply pzD | apply pz1 | apply pzs | assumption) | exact HB.out))) : w.heap.size ≤ gb427)); have GE427 := GW427; have NB401_427 := pzf BK401 hg; have NB427_401 := pzg BK401 hg; have NB402_427 := pzf BK402 hg; have NB427_402 := pzg BK402 hg; have NB407_427 := pzf BK407 hg; have NB427_407 := pzg BK407 hg; have NB408_427 := pzf BK408 hg; have NB427_408 := pzg BK408 hg; have NB414_427 := pzf BK414 hg; have NB427_414 := pzg BK414 hg; have NB415_427 := pzf BK415 hg; have NB427_415 := pzg BK415 hg; have NB420_427 := pzf BK420 hg; have NB427_420 := pzg BK420 hg; have NB421_427 := pzf BK421 hg; have NB427_421 := pzg BK421 hg; have NB426_427 := pzf BK426 hg; have NB427_426 := pzg BK426 hg; replace BK401 := pzb BK401 hb; replace BK402 := pzb BK402 hb; replace BK407 := pzb BK407 hb; replace BK408 := pzb BK408 hb; replace BK414 := pzb BK414 hb; replace BK415 := pzb BK415 hb; replace BK420 := pzb BK420 hb; replace BK421 := pzb BK421 hb; replace BK426 := pzb BK426 hb; replace HB := zM (below_step (by repeat (first | (with_reducible first | exact HB.out | apply pzA | apply pzD | apply pz1 | apply pzs | assumption) | exact HB.out)) hb); clear hb hbox hg; have hnb65 := NB426_401.out; have hnc65 := NB401_426.out; have hnb66 := NB426_402.out; have hnc66 := NB402_426.out; have hnb67 := NB426_407.out; have hnc67 := NB407_426.out; have hnb68 := NB426_408.out; have hnc68 := NB408_426.out; have hnb69 := NB426_414.out; have hnc69 := NB414_426.out; have hnb70 := NB426_415.out; have hnc70 := NB415_426.out; have hnb71 := NB426_420.out; have hnc71 := NB420_426.out; have hnb72 := NB426_421.out; have hnc72 := NB421_426.out; have hnb73 := NB426_427.out; have hnc73 := NB427_426.out; have hcz74_0 := pzc (v := .int .u64 0) BK426 0 rfl; have hcz74_1 := pzc (v := .int .u64 0) BK426 1 rfl; have hfz74_0 := zF BK426.out 0; have hfz74_1 := zF BK426.out 1; have hnb75 := NB427_401.out; have hnc75 := NB401_427.out; have hnb76 := NB427_402.out; have hnc76 := NB402_427.out; have hnb77 := NB427_407.out; have hnc77 := NB407_427.out; have hnb78 := NB427_408.out; have hnc78 := NB408_427.out; have hnb79 := NB427_414.out; have hnc79 := NB414_427.out; have hnb80 := NB427_415.out; have hnc80 := NB415_427.out; have hnb81 := NB427_420.out; have hnc81 := NB420_427.out; have hnb82 := NB427_421.out; have hnc82 := NB421_427.out; have hcz83_0 := pzc (v := .int .i64 0) BK427 0 rfl; have hcz83_1 := pzc (v := .int .i64 0) BK427 1 rfl; have hfz83_0 := zF BK427.out 0; have hfz83_1 := zF BK427.out 1) | ((with_reducible refine gate_callee (f := 11) rfl ?_); refine goesL_ (some 55) rfl rfl Try.func11 (by kernel_rfl) rfl #[] rfl (by (try simp only [zT, zC, zN]); first | done | rfl | (simp only [zR, zL]; rfl)) ?_; (with_reducible refine (brindlewoodlaw4_draws.calls k  true _ A9.out).mono ?_); rintro e w84 ⟨rfl, hb⟩; refine ⟨_, rfl, ?_⟩; replace BK401 := zM (blk_below (g := gb401) (o := .cells #[.bool a0_0, .slice A0_1 l0_1.length c0_1] 24 (0, 0)) (by (with_reducible repeat (first | apply pzN | apply pzd | apply pza)); refine blk_far ?_ NB401_427.out _; (with_reducible repeat (first | apply pzN | apply pzd | apply pza)); refine blk_far ?_ NB401_427.out _; (with_reducible repeat (first | apply pzN | apply pzd | apply pza)); refine blk_far ?_ NB401_426.out _; (with_reducible repeat (first | apply pzN | apply pzd | apply pza)); refine blk_far ?_ NB401_426.out _; (with_reducible repeat (first | apply pzN | apply pzd | apply pza)); exact BK401.out) hb); replace BK402 := zM (blk_below (g := gb402) (o := .cells #[.int .u64 a1_0, .int .u64 a1_1] 27 (0, 0)) (by (with_reducible repeat (first | apply pzN | apply pzd | apply pza)); refine blk_far ?_ NB402_427.out _; (with_reducible repeat (first | apply pzN | apply pzd | apply pza)); refine blk_far ?_ NB402_427.out _; (with_reducible repeat (first | apply pzN | apply pzd | apply pza)); refine blk_far ?_ NB402_426.out _; (with_reducible repeat (first | apply pzN | apply pzd | apply pza)); refine blk_far ?_ NB402_426.out _; (with_reducible repeat (first | apply pzN | apply pzd | apply pza)); exact BK402.out) hb); replace BK407 := zM (blk_below (g := gb407) (o := .cells #[.int .u64 t403, .int .u64 t404] 27 (0, 0)) (by (with_reducible repeat (first | apply pzN | apply pzd | apply pza)); refine blk_far ?_ NB407_427.out _; (with_reducible repeat (first | apply pzN | apply pzd | apply pza)); refine blk_far ?_ NB407_427.out _; (with_reducible repeat (first | apply pzN | apply pzd | apply pza)); refine blk_far ?_ NB407_426.out _; (with_reducible repeat (first | apply pzN | apply pzd | apply pza)); refine blk_far ?_ NB407_426.out _; (with_reducible repeat (first | apply pzN | apply pzd | apply pza)); exact BK407.out) hb); replace BK408 := zM (blk_below (g := gb408) (o := .cells #[.int .i64 t405, .int .i64 t406] 29 (0, 0)) (by (with_reducible repeat (first | apply pzN | apply pzd | apply pza)); refine blk_far ?_ NB408_427.out _; (with_reducible repeat (first | apply pzN | apply pzd | apply pza)); refine blk_far ?_ NB408_427.out _; (with_reducible repeat (first | apply pzN | apply pzd | apply pza)); refine blk_far ?_ NB408_426.out _; (with_reducible repeat (first | apply pzN | apply pzd | apply pza)); refine blk_far ?_ NB408_426.out _; (with_reducible repeat (first | apply pzN | apply pzd | apply pza)); exact BK408.out) hb); replace BK414 := zM (blk_below (g := gb414) (o := .cells #[.int .u64 t410, .int .u64 t411] 27 (0, 0)) (by (with_reducible repeat (first | apply pzN | apply pzd | apply pza)); refine blk_far ?_ NB414_427.out _; (with_reducible repeat (first | apply pzN | apply pzd | apply pza)); refine blk_far ?_ NB414_427.out _; (with_reducible repeat (first | apply pzN | apply pzd | apply pza)); refine blk_far ?_ NB414_426.out _; (with_reducible repeat (first | apply pzN | apply pzd | apply pza)); refine blk_far ?_ NB414_426.out _; (with_reducible repeat (first | apply pzN | apply pzd | apply pza)); exact BK414.out) hb); replace BK415 := zM (blk_below (g := gb415) (o := .cells #[.int .i64 t412, .int .i64 t413] 29 (0, 0)) (by (with_reducible repeat (first | apply pzN | apply pzd | apply pza)); refine blk_far ?_ NB415_427.out _; (with_reducible repeat (first | apply pzN | apply pzd | apply pza)); refine blk_far ?_ NB415_427.out _; (with_reducible repeat (first | apply pzN | apply pzd | apply pza)); refine blk_far ?_ NB415_426.out _; (with_reducible repeat (first | apply pzN | apply pzd | apply pza)); refine blk_far ?_ NB415_426.out _; (with_reducible repeat (first | apply pzN | apply pzd | apply pza)); exact BK415.out) hb); replace BK420 := zM (blk_below (g := gb420) (o := .cells #[.int .u64 t416, .int .u64 t417] 27 (0, 0)) (by (with_reducible repeat (first | apply pzN | apply pzd | apply pza)); refine blk_far ?_ NB420_427.out _; (with_reducible repeat (first | apply pzN | apply pzd | apply pza)); refine blk_far ?_ NB420_427.out _; (with_reducible repeat (first | apply pzN | apply pzd | apply pza)); refine blk_far ?_ NB420_426.out _; (with_reducible repeat (first | apply pzN | apply pzd | apply pza)); refine blk_far ?_ NB420_426.out _; (with_reducible repeat (first | apply pzN | apply pzd | apply pza)); exact BK420.out) hb); replace BK421 := zM (blk_below (g := gb421) (o := .cells #[.int .i64 t418, .int .i64 t419] 29 (0, 0)) (by (with_reducible repeat (first | apply pzN | apply pzd | apply pza)); refine blk_far ?_ NB421_427.out _; (with_reducible repeat (first | apply pzN | apply pzd | apply pza)); refine blk_far ?_ NB421_427.out _; (with_reducible repeat (first | apply pzN | apply pzd | apply pza)); refine blk_far ?_ NB421_426.out _; (with_reducible repeat (first | apply pzN | apply pzd | apply pza)); refine blk_far ?_ NB421_426.out _; (with_reducible repeat (first | apply pzN | apply pzd | apply pza)); exact BK421.out) hb); replace BK426 := zM (blk_below (g := gb426) (o := .cells #[.int .u64 t422, .int .u64 t423] 27 (0, 0)) (by (with_reducible repeat (first | apply pzN | apply pzd | apply pza)); refine blk_far ?_ NB426_427.out _; (with_reducible repeat (first | apply pzN | apply pzd | apply pza)); refine blk_far ?_ NB426_427.out _; (with_reducible repeat (first | apply pzN | apply pzd | apply pza)); refine blk_put (cs := #[.int .u64 t422, .int .u64 0]) ?_ 1 _ rfl; (with_reducible repeat (first | apply pzN | apply pzd | apply pza)); refine blk_put (cs := #[.int .u64 0, .int .u64 0]) ?_ 0 _ rfl; (with_reducible repeat (first | apply pzN | apply pzd | apply pza)); exact BK426.out) hb); replace BK427 := zM (blk_below (g := gb427) (o := .cells #[.int .i64 t424, .int .i64 t425] 29 (0, 0)) (by (with_reducible repeat (first | apply pzN | apply pzd | apply pza)); refine blk_put (cs := #[.int .i64 t424, .int .i64 0]) ?_ 1 _ rfl; (with_reducible repeat (first | apply pzN | apply pzd | apply pza)); refine blk_put (cs := #[.int .i64 0, .int .i64 0]) ?_ 0 _ rfl; (with_reducible repeat (first | apply pzN | apply pzd | apply pza)); refine blk_far ?_ NB427_426.out _; (with_reducible repeat (first | apply pzN | apply pzd | apply pza)); refine blk_far ?_ NB427_426.out _; (with_reducible repeat (first | apply pzN | apply pzd | apply pza)); exact BK427.out) hb); replace HB := zM (below_step (by repeat (first | (with_reducible first | exact HB.out | apply pzA | apply pzD | apply pz1 | apply pzs | assumption) | exact HB.out)) hb); (try clear hb); (try clear hb2); (try clear hk); (try clear hi); have hcz85_0 := pzc (v := .bool a0_0) BK401 0 rfl; have hcz85_1 := pzc (v := .slice A0_1 l0_1.length c0_1) BK401 1 rfl; have hfz85_0 := zF BK401.out 0; have hfz85_1 := zF BK401.out 1) | ((with_reducible refine gate_callee (f := 12) rfl ?_); refine goesL_ (some 58) rfl rfl Try.func12 (by kernel_rfl) rfl #[.agg #[.bool a0_0, .slice A0_1 l0_1.length c0_1]] rfl (by (try simp only [zT, zC, zN]); first | done | rfl | (simp only [zR, zL]; rfl)) ?_; (with_reducible refine (brindlewoodref3_IntOk.calls a0_0 _ _ l0_1 t429 _ ?side1 ?side2 A11.out).mono ?_); (case side1 => repeat (first | exact (Kd.C_below HR0_1.out HB.out) | (with_reducible refine Kd.C_alloc ?_ _) | (with_reducible refine Kd.C_drewN ?_ _) | (with_reducible refine Kd.C_drew ?_))); (case side2 => exact HC0_1.out); rintro e w86 ⟨rfl, hb⟩; refine ⟨_, rfl, ?_⟩; replace BK401 := pzb BK401 hb; replace BK402 := pzb BK402 hb; replace BK407 := pzb BK407 hb; replace BK408 := pzb BK408 hb; replace BK414 := pzb BK414 hb; replace BK415 := pzb BK415 hb; replace BK420 := pzb BK420 hb; replace BK421 := pzb BK421 hb; replace BK426 := pzb BK426 hb; replace BK427 := pzb BK427 hb; replace HB := zM (below_step (by repeat (first | (with_reducible first | exact HB.out | apply pzA | apply pzD | apply pz1 | apply pzs | assumption) | exact HB.out)) hb); (try clear hb); (try clear hb2); (try clear hk); (try clear hi)))
  (try simp only [Act.put, zS, z0, z1])
  go_cut [] (fun wc => ∃ (kq : Nat), Aside0 (brindlewoodlaw4_RandomDraws.j0 kq a2 a3 t409 a1_0 a1_1 t410 t411 t412 t413 t416 t417 t418 t419 t422 t423 t424 t425 = some r) ∧ Aside0 (kq ≤ k) ∧ Aside0 (wc.heap[gb402]? = some (.cells #[.int .u64 a1_0, .int .u64 a1_1] 27 (0, 0))) ∧ Aside0 (wc.heap[gb414]? = some (.cells #[.int .u64 t410, .int .u64 t411] 27 (0, 0))) ∧ Aside0 (wc.heap[gb415]? = some (.cells #[.int .i64 t412, .int .i64 t413] 29 (0, 0))) ∧ Aside0 (wc.heap[gb420]? = some (.cells #[.int .u64 t416, .int .u64 t417] 27 (0, 0))) ∧ Aside0 (wc.heap[gb421]? = some (.cells #[.int .i64 t418, .int .i64 t419] 29 (0, 0))) ∧ Aside0 (wc.heap[gb426]? = some (.cells #[.int .u64 t422, .int .u64 t423] 27 (0, 0))) ∧ Aside0 (wc.heap[gb427]? = some (.cells #[.int .i64 t424, .int .i64 t425] 29 (0, 0))) ∧ Aside0 (Below w.heap.size w wc))
  case first =>
   have H := HC12.out
   clear HC12
   by_cases c87 : t429 = true
   ·subst c87
    have H1 : (if t405 = 0 then ((brindlewoodref4_Seeded.f k a0_0 l0_1).bind fun bt430 => (if (!(t403 == bt430.1) || (!(t404 == bt430.2))) = true then (none) else (brindlewoodlaw4_RandomDraws.j0 k a2 a3 t409 a1_0 a1_1 t410 t411 t412 t413 t416 t417 t418 t419 t422 t423 t424 t425))) else (none)) = some r := by rw [if_pos rfl] at H; exact H
    clear H
    have H := H1
    clear H1
    by_cases c88 : t405 = 0
    ·rw [if_pos c88] at H
     have c88b0 : (t405 == 0) = true := beq_iff_eq.mpr c88
     have c88b1 : (t405 != 0) = false := bne_eq_false_iff_eq.mpr c88
     clear c88
     (first | rw [c88b0] | (simp only [i64_w, i32_w]; rw [c88b0]) | skip)
     replace H := zB H
     obtain ⟨⟨t430, t431⟩, A890, H⟩ := H
     replace H : (if (!(t403 == t430) || (!(t404 == t431))) = true then (none) else (brindlewoodlaw4_RandomDraws.j0 k a2 a3 t409 a1_0 a1_1 t410 t411 t412 t413 t416 t417 t418 t419 t422 t423 t424 t425)) = some r := H
     have A89 := zM A890
     clear A890
     by_cases c90 : (!(t403 == t430) || (!(t404 == t431))) = true
     ·rw [if_pos c90] at H
      exact absurd H (by simp)
     ·rw [if_neg c90] at H
      have c90b0 : (!(t403 == t430) || (!(t404 == t431))) = false := by simpa using c90
      clear c90
      have H' := zM H
      clear H
      try go_wp2
      replace BK401 := zM (blk_drew BK401.out)
      replace BK402 := zM (blk_drew BK402.out)
      replace BK407 := zM (blk_drew BK407.out)
      replace BK408 := zM (blk_drew BK408.out)
      replace BK414 := zM (blk_drew BK414.out)
      replace BK415 := zM (blk_drew BK415.out)
      replace BK420 := zM (blk_drew BK420.out)
      replace BK421 := zM (blk_drew BK421.out)
      replace BK426 := zM (blk_drew BK426.out)
      replace BK427 := zM (blk_drew BK427.out)
      replace HB := zM (below_drew1 HB.out)
      refine start_ (n := 9) (S := fun w' => w'.cell? ⟨gb408, 0, none⟩ = some (.int .i64 t405) ∧ w'.cell? ⟨gb408, 1, none⟩ = some (.int .i64 t406) ∧ w'.cell? ⟨gb407, 0, none⟩ = some (.int .u64 t403) ∧ w'.cell? ⟨gb407, 1, none⟩ = some (.int .u64 t404) ∧ w'.cell? ⟨gb401, 0, none⟩ = some (.bool a0_0) ∧ w'.cell? ⟨gb401, 1, none⟩ = some (.slice A0_1 l0_1.length c0_1)) (ds := []) #[false, false, false, false, false, false, false, false, false] (by kernel_rfl) rfl rfl ⟨(blk_cell BK408.out 0).trans rfl, (blk_cell BK408.out 1).trans rfl, (blk_cell BK407.out 0).trans rfl, (blk_cell BK407.out 1).trans rfl, (blk_cell BK401.out 0).trans rfl, (blk_cell BK401.out 1).trans rfl⟩ (fun hHeld => ?_); refine with_tabW brindlewoodlaw4_RandomDraws.tab10 brindlewoodlaw4_RandomDraws.bits10 (fun HT_ HW_ => ?_)
      generalize w86.drew = w91 at BK401 BK402 BK407 BK408 BK414 BK415 BK420 BK421 BK426 BK427 HB hHeld ⊢
      refine pure_ (i := 0) (N := some 68) (v := ?_) (a' := ?_) #[true, false, false, false, false, false, false, false, false] rfl rfl (any_of HT_.out (by kernel_rfl)) (fun _ _ _ h => h) (Or.inl ⟨by rfl, ?_⟩) ?_ ?_
      rotate_left
      ·intro w'
       go_simp
       with_reducible rfl
      rotate_left
      ·simp only [Act.put, zS, z0, z1, i64_w, i32_w]
       rfl
      refine take_ (i := 1) (N := some 69) (v := ?_) (a' := ?_) #[true, true, false, false, false, false, false, false, false] rfl rfl (take_ofW HT_.out HW_.out (by kernel_rfl)) (fun _ _ _ h => h) (Or.inl ⟨by rfl, ?_⟩) hHeld ?_ ?_
      rotate_left
      ·rintro w' ⟨s0, s1, s2, s3, s4, s5⟩
       go_simp
       with_reducible rfl
      rotate_left
      ·simp only [Act.put, zS, z0, z1, i64_w, i32_w]
       rfl
      refine pure_ (i := 2) (N := some 70) (v := ?_) (a' := ?_) #[true, true, true, false, false, false, false, false, false] rfl rfl (any_of HT_.out (by kernel_rfl)) (fun _ _ _ h => h) (Or.inl ⟨by rfl, ?_⟩) ?_ ?_
      rotate_left
      ·intro w'
       go_simp
       with_reducible rfl
      rotate_left
      ·simp only [Act.put, zS, z0, z1, i64_w, i32_w]
       rfl
      refine pure_ (i := 3) (N := some 71) (v := ?_) (a' := ?_) #[true, true, true, true, false, false, false, false, false] rfl rfl (any_of HT_.out (by kernel_rfl)) (fun _ _ _ h => h) (Or.inl ⟨by rfl, ?_⟩) ?_ ?_
      rotate_left
      ·intro w'
       go_simp
       with_reducible rfl
      rotate_left
      ·simp only [Act.put, zS, z0, z1, i64_w, i32_w]
       rfl
      refine take_ (i := 4) (N := some 72) (v := ?_) (a' := ?_) #[true, true, true, true, true, false, false, false, false] rfl rfl (take_ofW HT_.out HW_.out (by kernel_rfl)) (fun _ _ _ h => h) (Or.inl ⟨by rfl, ?_⟩) hHeld ?_ ?_
      rotate_left
      ·rintro w' ⟨s0, s1, s2, s3, s4, s5⟩
       go_simp
       with_reducible rfl
      rotate_left
      ·simp only [Act.put, zS, z0, z1, i64_w, i32_w]
       rfl
      refine take_ (i := 5) (N := some 73) (v := ?_) (a' := ?_) #[true, true, true, true, true, true, false, false, false] rfl rfl (take_ofW HT_.out HW_.out (by kernel_rfl)) (fun _ _ _ h => h) (Or.inl ⟨by rfl, ?_⟩) hHeld ?_ ?_
      rotate_left
      ·rintro w' ⟨s0, s1, s2, s3, s4, s5⟩
       go_simp
       with_reducible rfl
      rotate_left
      ·simp only [Act.put, zS, z0, z1, i64_w, i32_w]
       rfl
      refine one_ (i := 6) (N := some 74) #[true, true, true, true, true, true, true, false, false] rfl rfl (one_of HT_.out (by kernel_rfl)) (by decide) (fun K hK => ?_)
      refine goes_ Try.func14 (by kernel_rfl) rfl #[.agg #[.bool a0_0, .slice A0_1 l0_1.length c0_1]] (by rfl) rfl rfl (by (try simp only [zT, zC, zN]); first | done | rfl | (simp only [zR, zL]; rfl)) ?_
      with_reducible refine (brindlewoodref4_Seeded.calls k a0_0 _ _ l0_1 t430 t431 _ ?side1 ?side2 A89.out).mono ?_
      (case side1 => repeat (first | exact (Kd.C_below HR0_1.out HB.out) | (with_reducible refine Kd.C_alloc ?_ _) | (with_reducible refine Kd.C_drewN ?_ _) | (with_reducible refine Kd.C_drew ?_)))
      (case side2 => exact HC0_1.out)
      rintro e w92 ⟨rfl, hb⟩
      refine ⟨_, rfl, ?_⟩
      replace BK401 := pzb BK401 hb
      replace BK402 := pzb BK402 hb
      replace BK407 := pzb BK407 hb
      replace BK408 := pzb BK408 hb
      replace BK414 := pzb BK414 hb
      replace BK415 := pzb BK415 hb
      replace BK420 := pzb BK420 hb
      replace BK421 := pzb BK421 hb
      replace BK426 := pzb BK426 hb
      replace BK427 := pzb BK427 hb
      replace HB := zM (below_step (by repeat (first | (with_reducible first | exact HB.out | apply pzA | apply pzD | apply pz1 | apply pzs | assumption) | exact HB.out)) hb)
      (try clear hb)
      (try clear hb2)
      (try clear hk)
      (try clear hi)
      refine hK.out _ _ ⟨(blk_cell BK408.out 0).trans rfl, (blk_cell BK408.out 1).trans rfl, (blk_cell BK407.out 0).trans rfl, (blk_cell BK407.out 1).trans rfl, (blk_cell BK401.out 0).trans rfl, (blk_cell BK401.out 1).trans rfl⟩ (fun hHeld => ?_)
      clear hK K
      refine norm_ (a' := ?_) ?_ ?_
      rotate_left
      ·show Act.put _ (some 74) _ = _
       simp only [Act.put, zS, z0, z1, i64_w, i32_w]
       rfl
      refine pure_ (i := 7) (N := some 75) (v := ?_) (a' := ?_) #[true, true, true, true, true, true, true, true, false] rfl rfl (any_of HT_.out (by kernel_rfl)) (fun _ _ _ h => h) (Or.inl ⟨by rfl, ?_⟩) ?_ ?_
      rotate_left
      ·intro w'
       go_simp
       with_reducible rfl
      rotate_left
      ·simp only [Act.put, zS, z0, z1, i64_w, i32_w]
       rfl
      refine pure_ (i := 8) (N := some 76) (v := ?_) (a' := ?_) #[true, true, true, true, true, true, true, true, true] rfl rfl (any_of HT_.out (by kernel_rfl)) (fun _ _ _ h => h) (Or.inl ⟨by rfl, ?_⟩) ?_ ?_
      rotate_left
      ·intro w'
       go_simp
       with_reducible rfl
      rotate_left
      ·simp only [Act.put, zS, z0, z1, i64_w, i32_w]
       rfl
      refine done_ (done_of HT_.out (by kernel_rfl)) ?_
      try go_wp2
      go_meet
      case rel => exact ⟨_, H', ⟨by first | omega | exact Nat.le_refl _⟩, ⟨by (with_reducible repeat (first | apply pzN | apply pzd | apply pza)); exact BK402.out⟩, ⟨by (with_reducible repeat (first | apply pzN | apply pzd | apply pza)); exact BK414.out⟩, ⟨by (with_reducible repeat (first | apply pzN | apply pzd | apply pza)); exact BK415.out⟩, ⟨by (with_reducible repeat (first | apply pzN | apply pzd | apply pza)); exact BK420.out⟩, ⟨by (with_reducible repeat (first | apply pzN | apply pzd | apply pza)); exact BK421.out⟩, ⟨by (with_reducible repeat (first | apply pzN | apply pzd | apply pza)); exact BK426.out⟩, ⟨by (with_reducible repeat (first | apply pzN | apply pzd | apply pza)); exact BK427.out⟩, ⟨by repeat (first | (with_reducible first | exact HB.out | apply pzA | apply pzD | apply pz1 | apply pzs | assumption) | exact HB.out)⟩⟩
    ·rw [if_neg c88] at H
     have c88b0 : (t405 == 0) = false := beq_eq_false_iff_ne.mpr c88
     have c88b1 : (t405 != 0) = true := bne_iff_ne.mpr c88
     (first | rw [c88b0] | (simp only [i64_w, i32_w]; rw [c88b0]) | skip)
     exact absurd H (by simp)
   ·replace c87 := Bool.eq_false_iff.mpr c87
    subst c87
    have H1 : ((brindlewoodref4_At.f 6 (-1)).bind fun bt432 => (if (!(t405 == bt432.1) || (!(t406 == bt432.2))) = true then (none) else (if (!(t403 == 0) || (!(t404 == 0))) = true then (none) else (brindlewoodlaw4_RandomDraws.j0 k a2 a3 t409 a1_0 a1_1 t410 t411 t412 t413 t416 t417 t418 t419 t422 t423 t424 t425)))) = some r := by rw [if_neg (show ¬ (false = true) by decide)] at H; exact H
    clear H
    have H := H1
    clear H1
    replace H := zB H
    obtain ⟨⟨t432, t433⟩, A930, H⟩ := H
    replace H : (if (!(t405 == t432) || (!(t406 == t433))) = true then (none) else (if (!(t403 == 0) || (!(t404 == 0))) = true then (none) else (brindlewoodlaw4_RandomDraws.j0 k a2 a3 t409 a1_0 a1_1 t410 t411 t412 t413 t416 t417 t418 t419 t422 t423 t424 t425))) = some r := H
    have A93 := zM A930
    clear A930
    by_cases c94 : (!(t405 == t432) || (!(t406 == t433))) = true
    ·rw [if_pos c94] at H
     have c94b0 : (!(t405 == t432) || (!(t406 == t433))) = true := c94
     clear c94
     exact absurd H (by simp)
    ·rw [if_neg c94] at H
     have c94b0 : (!(t405 == t432) || (!(t406 == t433))) = false := by simpa using c94
     clear c94
     by_cases c95 : (!(t403 == 0) || (!(t404 == 0))) = true
     ·rw [if_pos c95] at H
      exact absurd H (by simp)
     ·rw [if_neg c95] at H
      have c95b0 : (!(t403 == 0) || (!(t404 == 0))) = false := by simpa using c95
      clear c95
      have H' := zM H
      clear H
      try go_wp2
      replace BK402 := zM (blk_drew BK402.out)
      replace BK407 := zM (blk_drew BK407.out)
      replace BK408 := zM (blk_drew BK408.out)
      replace BK414 := zM (blk_drew BK414.out)
      replace BK415 := zM (blk_drew BK415.out)
      replace BK420 := zM (blk_drew BK420.out)
      replace BK421 := zM (blk_drew BK421.out)
      replace BK426 := zM (blk_drew BK426.out)
      replace BK427 := zM (blk_drew BK427.out)
      replace HB := zM (below_drew1 HB.out)
      refine start_ (n := 8) (S := fun w' => w'.cell? ⟨gb408, 0, none⟩ = some (.int .i64 t405) ∧ w'.cell? ⟨gb408, 1, none⟩ = some (.int .i64 t406) ∧ w'.cell? ⟨gb407, 0, none⟩ = some (.int .u64 t403) ∧ w'.cell? ⟨gb407, 1, none⟩ = some (.int .u64 t404)) (ds := []) #[false, false, false, false, false, false, false, false] (by kernel_rfl) rfl rfl ⟨(blk_cell BK408.out 0).trans rfl, (blk_cell BK408.out 1).trans rfl, (blk_cell BK407.out 0).trans rfl, (blk_cell BK407.out 1).trans rfl⟩ (fun hHeld => ?_); refine with_tabW brindlewoodlaw4_RandomDraws.tab8 brindlewoodlaw4_RandomDraws.bits8 (fun HT_ HW_ => ?_)
      generalize w86.drew = w96 at BK402 BK407 BK408 BK414 BK415 BK420 BK421 BK426 BK427 HB hHeld ⊢
      refine take_ (i := 0) (N := some 60) (v := ?_) (a' := ?_) #[true, false, false, false, false, false, false, false] rfl rfl (take_ofW HT_.out HW_.out (by kernel_rfl)) (fun _ _ _ h => h) (Or.inl ⟨by rfl, ?_⟩) hHeld ?_ ?_
      rotate_left
      ·rintro w' ⟨s0, s1, s2, s3⟩
       go_simp
       with_reducible rfl
      rotate_left
      ·simp only [Act.put, zS, z0, z1, i64_w, i32_w]
       rfl
      refine one_ (i := 1) (N := some 61) #[true, true, false, false, false, false, false, false] rfl rfl (one_of HT_.out (by kernel_rfl)) (by decide) (fun K hK => ?_)
      refine goes_ Try.func13 (by kernel_rfl) rfl #[.int .i64 6, .int .i64 (-1)] (by rfl) rfl rfl (by (try simp only [zT, zC, zN]); first | done | rfl | (simp only [zR, zL]; rfl)) ?_
      with_reducible refine (brindlewoodref4_At.calls 6 (-1) t432 t433 _ A93.out).mono ?_
      rintro e w97 ⟨rfl, hb⟩
      refine ⟨_, rfl, ?_⟩
      replace BK402 := pzb BK402 hb
      replace BK407 := pzb BK407 hb
      replace BK408 := pzb BK408 hb
      replace BK414 := pzb BK414 hb
      replace BK415 := pzb BK415 hb
      replace BK420 := pzb BK420 hb
      replace BK421 := pzb BK421 hb
      replace BK426 := pzb BK426 hb
      replace BK427 := pzb BK427 hb
      replace HB := zM (below_step (by repeat (first | (with_reducible first | exact HB.out | apply pzA | apply pzD | apply pz1 | apply pzs | assumption) | exact HB.out)) hb)
      (try clear hb)
      (try clear hb2)
      (try clear hk)
      (try clear hi)
      refine hK.out _ _ ⟨(blk_cell BK408.out 0).trans rfl, (blk_cell BK408.out 1).trans rfl, (blk_cell BK407.out 0).trans rfl, (blk_cell BK407.out 1).trans rfl⟩ (fun hHeld => ?_)
      clear hK K
      refine norm_ (a' := ?_) ?_ ?_
      rotate_left
      ·show Act.put _ (some 61) _ = _
       simp only [Act.put, zS, z0, z1, i64_w, i32_w]
       rfl
      refine pure_ (i := 2) (N := some 62) (v := ?_) (a' := ?_) #[true, true, true, false, false, false, false, false] rfl rfl (any_of HT_.out (by kernel_rfl)) (fun _ _ _ h => h) (Or.inl ⟨by rfl, ?_⟩) ?_ ?_
      rotate_left
      ·intro w'
       go_simp
       with_reducible rfl
      rotate_left
      ·simp only [Act.put, zS, z0, z1, i64_w, i32_w]
       rfl
      refine pure_ (i := 3) (N := some 63) (v := ?_) (a' := ?_) #[true, true, true, true, false, false, false, false] rfl rfl (any_of HT_.out (by kernel_rfl)) (fun _ _ _ h => h) (Or.inl ⟨by rfl, ?_⟩) ?_ ?_
      rotate_left
      ·intro w'
       go_simp
       with_reducible rfl
      rotate_left
      ·simp only [Act.put, zS, z0, z1, i64_w, i32_w]
       rfl
      refine pure_ (i := 5) (N := some 65) (v := ?_) (a' := ?_) #[true, true, true, true, false, true, false, false] rfl rfl (any_of HT_.out (by kernel_rfl)) (fun _ _ _ h => h) (Or.inl ⟨by rfl, ?_⟩) ?_ ?_
      rotate_left
      ·intro w'
       go_simp
       with_reducible rfl
      rotate_left
      ·simp only [Act.put, zS, z0, z1, i64_w, i32_w]
       rfl
      refine take_ (i := 4) (N := some 64) (v := ?_) (a' := ?_) #[true, true, true, true, true, true, false, false] rfl rfl (take_ofW HT_.out HW_.out (by kernel_rfl)) (fun _ _ _ h => h) (Or.inl ⟨by rfl, ?_⟩) hHeld ?_ ?_
      rotate_left
      ·rintro w' ⟨s0, s1, s2, s3⟩
       go_simp
       with_reducible rfl
      rotate_left
      ·simp only [Act.put, zS, z0, z1, i64_w, i32_w]
       rfl
      refine pure_ (i := 6) (N := some 66) (v := ?_) (a' := ?_) #[true, true, true, true, true, true, true, false] rfl rfl (any_of HT_.out (by kernel_rfl)) (fun _ _ _ h => h) (Or.inl ⟨by rfl, ?_⟩) ?_ ?_
      rotate_left
      ·intro w'
       go_simp
       with_reducible rfl
      rotate_left
      ·simp only [Act.put, zS, z0, z1, i64_w, i32_w]
       rfl
      refine pure_ (i := 7) (N := some 67) (v := ?_) (a' := ?_) #[true, true, true, true, true, true, true, true] rfl rfl (any_of HT_.out (by kernel_rfl)) (fun _ _ _ h => h) (Or.inl ⟨by rfl, ?_⟩) ?_ ?_
      rotate_left
      ·intro w'
       go_simp
       with_reducible rfl
      rotate_left
      ·simp only [Act.put, zS, z0, z1, i64_w, i32_w]
       rfl
      refine done_ (done_of HT_.out (by kernel_rfl)) ?_
      try go_wp2
      go_meet
      case rel => exact ⟨_, H', ⟨by first | omega | exact Nat.le_refl _⟩, ⟨by (with_reducible repeat (first | apply pzN | apply pzd | apply pza)); exact BK402.out⟩, ⟨by (with_reducible repeat (first | apply pzN | apply pzd | apply pza)); exact BK414.out⟩, ⟨by (with_reducible repeat (first | apply pzN | apply pzd | apply pza)); exact BK415.out⟩, ⟨by (with_reducible repeat (first | apply pzN | apply pzd | apply pza)); exact BK420.out⟩, ⟨by (with_reducible repeat (first | apply pzN | apply pzd | apply pza)); exact BK421.out⟩, ⟨by (with_reducible repeat (first | apply pzN | apply pzd | apply pza)); exact BK426.out⟩, ⟨by (with_reducible repeat (first | apply pzN | apply pzd | apply pza)); exact BK427.out⟩, ⟨by repeat (first | (with_reducible first | exact HB.out | apply pzA | apply pzD | apply pz1 | apply pzs | assumption) | exact HB.out)⟩⟩
  case rest =>
   clear HC12
   try clear c1
   try clear c2
   try clear p2
   try clear c3
   try clear c4
   try clear c5
   try clear c6
   try clear c7
   try clear c8
   try clear c9
   try clear c10
   try clear c11
   try clear c12
   try clear c13
   try clear c14
   try clear c15
   try clear c20
   try clear c21
   try clear c22
   try clear c24
   try clear c25
   try clear c31
   try clear c32
   try clear c33
   try clear c34
   try clear c35
   try clear c37
   try clear c38
   try clear c39
   try clear c40
   try clear c46
   try clear c47
   try clear c48
   try clear c49
   try clear c50
   try clear c51
   try clear c52
   try clear c54
   try clear c55
   try clear c56
   try clear c57
   try clear c58
   try clear c59
   try clear c65
   try clear c66
   try clear c67
   try clear c68
   try clear c69
   try clear c70
   try clear c71
   try clear c72
   try clear c73
   try clear c75
   try clear c76
   try clear c77
   try clear c78
   try clear c79
   try clear c80
   try clear c81
   try clear c82
   try clear c87
   try clear c88
   try clear c88b0
   try clear c88b1
   try clear c90
   try clear c90b0
   try clear c94
   try clear c94b0
   try clear c95
   try clear c95b0
   try clear hcz16_0
   try clear hcz16_1
   try clear hcz23_0
   try clear hcz23_1
   try clear hcz26_0
   try clear hcz26_1
   try clear hcz27_0
   try clear hcz27_1
   try clear hcz36_0
   try clear hcz36_1
   try clear hcz41_0
   try clear hcz41_1
   try clear hcz42_0
   try clear hcz42_1
   try clear hcz53_0
   try clear hcz53_1
   try clear hcz60_0
   try clear hcz60_1
   try clear hcz61_0
   try clear hcz61_1
   try clear hcz74_0
   try clear hcz74_1
   try clear hcz83_0
   try clear hcz83_1
   try clear hcz85_0
   try clear hcz85_1
   try clear hfz16_0
   try clear hfz16_1
   try clear hfz23_0
   try clear hfz23_1
   try clear hfz26_0
   try clear hfz26_1
   try clear hfz27_0
   try clear hfz27_1
   try clear hfz36_0
   try clear hfz36_1
   try clear hfz41_0
   try clear hfz41_1
   try clear hfz42_0
   try clear hfz42_1
   try clear hfz53_0
   try clear hfz53_1
   try clear hfz60_0
   try clear hfz60_1
   try clear hfz61_0
   try clear hfz61_1
   try clear hfz74_0
   try clear hfz74_1
   try clear hfz83_0
   try clear hfz83_1
   try clear hfz85_0
   try clear hfz85_1
   obtain ⟨kq, HA, HJ11, BK402, BK414, BK415, BK420, BK421, BK426, BK427, HB⟩ := hcut
   cases kq with
   | zero => exact absurd HA.out (by simp [brindlewoodlaw4_RandomDraws.j0])
   | succ kj11 =>
    have H := HA.out
    clear HA
    simp only [brindlewoodlaw4_RandomDraws.j0] at H
    by_cases c98 : (Int.tmod a1_1 2) = 0
    ·rw [if_pos c98] at H
     have c98b0 : ((Int.tmod a1_1 2) == 0) = true := beq_iff_eq.mpr c98
     have c98b1 : ((Int.tmod a1_1 2) != 0) = false := bne_eq_false_iff_eq.mpr c98
     clear c98
     replace H := zB H
     obtain ⟨⟨t434, t435⟩, A990, H⟩ := H
     replace H : (if (t412 == t434 && (t413 == t435)) = true then (if (t418 == t434 && (t419 == t435)) = true then (if (t424 == t434 && (t425 == t435)) = true then (if t409 = 0 then (if (t410 == 0 && (t411 == 0)) = true then (if (t416 == t410 && (t417 == t411)) = true then (some (t422 == t410 && (t423 == t411))) else (none)) else (none)) else (none)) else (none)) else (none)) else (none)) = some r := H
     have A99 := zM A990
     clear A990
     by_cases c100 : (t412 == t434 && (t413 == t435)) = true
     ·rw [if_pos c100] at H
      have c100b0 : (t412 == t434 && (t413 == t435)) = true := c100
      (try (have c100b1 : decide (t412 = t434 && (t413 == t435)) = true := by simpa using c100))
      (try (have c100b2 : (t412 == t434 && (t413 == t435)) = true := by simpa using c100))
      clear c100
      by_cases c101 : (t418 == t434 && (t419 == t435)) = true
      ·rw [if_pos c101] at H
       have c101b0 : (t418 == t434 && (t419 == t435)) = true := c101
       (try (have c101b1 : decide (t418 = t434 && (t419 == t435)) = true := by simpa using c101))
       (try (have c101b2 : (t418 == t434 && (t419 == t435)) = true := by simpa using c101))
       clear c101
       by_cases c102 : (t424 == t434 && (t425 == t435)) = true
       ·rw [if_pos c102] at H
        have c102b0 : (t424 == t434 && (t425 == t435)) = true := c102
        (try (have c102b1 : decide (t424 = t434 && (t425 == t435)) = true := by simpa using c102))
        (try (have c102b2 : (t424 == t434 && (t425 == t435)) = true := by simpa using c102))
        clear c102
        by_cases c103 : t409 = 0
        ·rw [if_pos c103] at H
         have c103b0 : (t409 == 0) = true := beq_iff_eq.mpr c103
         have c103b1 : (t409 != 0) = false := bne_eq_false_iff_eq.mpr c103
         clear c103
         by_cases c104 : (t410 == 0 && (t411 == 0)) = true
         ·rw [if_pos c104] at H
          have c104b0 : (t410 == 0 && (t411 == 0)) = true := c104
          (try (have c104b1 : decide (t410 = 0 && (t411 == 0)) = true := by simpa using c104))
          (try (have c104b2 : (t410 == 0 && (t411 == 0)) = true := by simpa using c104))
          clear c104
          by_cases c105 : (t416 == t410 && (t417 == t411)) = true
          ·rw [if_pos c105] at H
           have c105b0 : (t416 == t410 && (t417 == t411)) = true := c105
           (try (have c105b1 : decide (t416 = t410 && (t417 == t411)) = true := by simpa using c105))
           (try (have c105b2 : (t416 == t410 && (t417 == t411)) = true := by simpa using c105))
           clear c105
           obtain rfl := Option.some.inj H
           have hnb106 := NB402_414.out
           have hnc106 := NB414_402.out
           have hnb107 := NB402_415.out
           have hnc107 := NB415_402.out
           have hnb108 := NB402_420.out
           have hnc108 := NB420_402.out
           have hnb109 := NB402_421.out
           have hnc109 := NB421_402.out
           have hnb110 := NB402_426.out
           have hnc110 := NB426_402.out
           have hnb111 := NB402_427.out
           have hnc111 := NB427_402.out
           have hcz112_0 := pzc (v := .int .u64 a1_0) BK402 0 rfl
           have hcz112_1 := pzc (v := .int .u64 a1_1) BK402 1 rfl
           have hfz112_0 := zF BK402.out 0
           have hfz112_1 := zF BK402.out 1
           go_wp2_with (first | ((with_reducible refine gate_callee (f := 13) rfl ?_); refine goesL_ (some 81) rfl rfl Try.func13 (by kernel_rfl) rfl #[.int .i64 6, .int .i64 (-1)] rfl (by (try simp only [zT, zC, zN]); first | done | rfl | (simp only [zR, zL]; rfl)) ?_; (with_reducible refine (brindlewoodref4_At.calls 6 (-1) t434 t435 _ A99.out).mono ?_); rintro e w113 ⟨rfl, hb⟩; refine ⟨_, rfl, ?_⟩; have n0_ := pzb BK402 hb; have n1_ := pzb BK414 hb; have n2_ := pzb BK415 hb; have n3_ := pzb BK420 hb; have n4_ := pzb BK421 hb; have n5_ := pzb BK426 hb; have n6_ := pzb BK427 hb; have n7_ := zM (below_step (by repeat (first | (with_reducible first | exact HB.out | apply pzA | apply pzD | apply pz1 | apply pzs | assumption) | exact HB.out)) hb); clear BK402; clear BK414; clear BK415; clear BK420; clear BK421; clear BK426; clear BK427; clear HB; have BK402 := n0_; have BK414 := n1_; have BK415 := n2_; have BK420 := n3_; have BK421 := n4_; have BK426 := n5_; have BK427 := n6_; have HB := n7_; clear n0_ n1_ n2_ n3_ n4_ n5_ n6_ n7_; (try clear hb); (try clear hb2); (try clear hk); (try clear hi)) | ((with_reducible refine gate_dst (N := 18) rfl ?_); refine box_event ?hg (N := 18) ?hd (cs := #[.int .i64 0, .int .i64 0]) (t := 29) ?hr ?_; (case hd => rfl); (case hg => rfl); (case hr => first | (go_simp; done) | (go_simp; rfl)); intro gb436 hg w114 hbox hb; have BK436 := zM (hbox); have GW436 := zM ((by rw [hg]; exact (below_size (by repeat (first | (with_reducible first | exact HB.out | apply pzA | apply pzD | apply pz1 | apply pzs | assumption) | exact HB.out))) : w.heap.size ≤ gb436)); have GE436 := GW436; have NB414_436 := pzf BK414 hg; have NB436_414 := pzg BK414 hg; have NB415_436 := pzf BK415 hg; have NB436_415 := pzg BK415 hg; have NB420_436 := pzf BK420 hg; have NB436_420 := pzg BK420 hg; have NB421_436 := pzf BK421 hg; have NB436_421 := pzg BK421 hg; have NB426_436 := pzf BK426 hg; have NB436_426 := pzg BK426 hg; have NB427_436 := pzf BK427 hg; have NB436_427 := pzg BK427 hg; replace BK414 := pzb BK414 hb; replace BK415 := pzb BK415 hb; replace BK420 := pzb BK420 hb; replace BK421 := pzb BK421 hb; replace BK426 := pzb BK426 hb; replace BK427 := pzb BK427 hb; replace HB := zM (below_step (by repeat (first | (with_reducible first | exact HB.out | apply pzA | apply pzD | apply pz1 | apply pzs | assumption) | exact HB.out)) hb); clear hb hbox hg; have hnb116 := NB436_414.out; have hnc116 := NB414_436.out; have hnb117 := NB436_415.out; have hnc117 := NB415_436.out; have hnb118 := NB436_420.out; have hnc118 := NB420_436.out; have hnb119 := NB436_421.out; have hnc119 := NB421_436.out; have hnb120 := NB436_426.out; have hnc120 := NB426_436.out; have hnb121 := NB436_427.out; have hnc121 := NB427_436.out; have hcz122_0 := pzc (v := .int .i64 0) BK436 0 rfl; have hcz122_1 := pzc (v := .int .i64 0) BK436 1 rfl; have hfz122_0 := zF BK436.out 0; have hfz122_1 := zF BK436.out 1; have hnb123 := NB415_414.out; have hnc123 := NB414_415.out; have hnb124 := NB415_420.out; have hnc124 := NB420_415.out; have hnb125 := NB415_421.out; have hnc125 := NB421_415.out; have hnb126 := NB415_426.out; have hnc126 := NB426_415.out; have hnb127 := NB415_427.out; have hnc127 := NB427_415.out; have hcz128_0 := pzc (v := .int .i64 t412) BK415 0 rfl; have hcz128_1 := pzc (v := .int .i64 t413) BK415 1 rfl; have hfz128_0 := zF BK415.out 0; have hfz128_1 := zF BK415.out 1; have hnb129 := NB421_414.out; have hnc129 := NB414_421.out; have hnb130 := NB421_420.out; have hnc130 := NB420_421.out; have hnb131 := NB421_426.out; have hnc131 := NB426_421.out; have hnb132 := NB421_427.out; have hnc132 := NB427_421.out; have hcz133_0 := pzc (v := .int .i64 t418) BK421 0 rfl; have hcz133_1 := pzc (v := .int .i64 t419) BK421 1 rfl; have hfz133_0 := zF BK421.out 0; have hfz133_1 := zF BK421.out 1; have hnb134 := NB427_414.out; have hnc134 := NB414_427.out; have hnb135 := NB427_420.out; have hnc135 := NB420_427.out; have hnb136 := NB427_426.out; have hnc136 := NB426_427.out; have hcz137_0 := pzc (v := .int .i64 t424) BK427 0 rfl; have hcz137_1 := pzc (v := .int .i64 t425) BK427 1 rfl; have hfz137_0 := zF BK427.out 0; have hfz137_1 := zF BK427.out 1; have hnb138 := NB414_420.out; have hnc138 := NB420_414.out; have hnb139 := NB414_426.out; have hnc139 := NB426_414.out; have hcz140_0 := pzc (v := .int .u64 t410) BK414 0 rfl; have hcz140_1 := pzc (v := .int .u64 t411) BK414 1 rfl; have hfz140_0 := zF BK414.out 0; have hfz140_1 := zF BK414.out 1; have hnb141 := NB420_426.out; have hnc141 := NB426_420.out; have hcz142_0 := pzc (v := .int .u64 t416) BK420 0 rfl; have hcz142_1 := pzc (v := .int .u64 t417) BK420 1 rfl; have hfz142_0 := zF BK420.out 0; have hfz142_1 := zF BK420.out 1; have hcz143_0 := pzc (v := .int .u64 t422) BK426 0 rfl; have hcz143_1 := pzc (v := .int .u64 t423) BK426 1 rfl; have hfz143_0 := zF BK426.out 0; have hfz143_1 := zF BK426.out 1))
           go_ret
           exact ⟨by first | rfl | (simp [errW_none, errW_some] <;> rfl) | (simp [*, errW_none, errW_some] <;> rfl), by repeat (first | (with_reducible first | exact HB.out | apply pzA | apply pzD | apply pz1 | apply pzs | assumption) | exact HB.out)⟩
          ·rw [if_neg c105] at H
           exact absurd H (by simp)
         ·rw [if_neg c104] at H
          exact absurd H (by simp)
        ·rw [if_neg c103] at H
         exact absurd H (by simp)
       ·rw [if_neg c102] at H
        exact absurd H (by simp)
      ·rw [if_neg c101] at H
       exact absurd H (by simp)
     ·rw [if_neg c100] at H
      exact absurd H (by simp)
    ·rw [if_neg c98] at H
     have c98b0 : ((Int.tmod a1_1 2) == 0) = false := beq_eq_false_iff_ne.mpr c98
     have c98b1 : ((Int.tmod a1_1 2) != 0) = true := bne_iff_ne.mpr c98
     replace H := zB H
     obtain ⟨⟨t438, t439, t440⟩, A1440, H⟩ := H
     replace H : (if t412 = 0 then (if t418 = 0 then (if t424 = 0 then (if t409 = t438 then (if (!(t410 == t439) || (!(t411 == t440))) = true then (none) else (brindlewoodlaw4_RandomDraws.l0 kj11 a2 a3 (Int.tmod a2 5000) a1_0 a1_1 t416 t417 t422 t423 a1_0 a1_1)) else (none)) else (none)) else (none)) else (none)) = some r := H
     have A144 := zM A1440
     clear A1440
     by_cases c145 : t412 = 0
     ·rw [if_pos c145] at H
      have c145b0 : (t412 == 0) = true := beq_iff_eq.mpr c145
      have c145b1 : (t412 != 0) = false := bne_eq_false_iff_eq.mpr c145
      clear c145
      by_cases c146 : t418 = 0
      ·rw [if_pos c146] at H
       have c146b0 : (t418 == 0) = true := beq_iff_eq.mpr c146
       have c146b1 : (t418 != 0) = false := bne_eq_false_iff_eq.mpr c146
       clear c146
       by_cases c147 : t424 = 0
       ·rw [if_pos c147] at H
        have c147b0 : (t424 == 0) = true := beq_iff_eq.mpr c147
        have c147b1 : (t424 != 0) = false := bne_eq_false_iff_eq.mpr c147
        clear c147
        by_cases c148 : t409 = t438
        ·rw [if_pos c148] at H
         have c148b0 : (t409 == t438) = true := beq_iff_eq.mpr c148
         have c148b1 : (t409 != t438) = false := bne_eq_false_iff_eq.mpr c148
         clear c148
         by_cases c149 : (!(t410 == t439) || (!(t411 == t440))) = true
         ·rw [if_pos c149] at H
          exact absurd H (by simp)
         ·rw [if_neg c149] at H
          have c149b0 : (!(t410 == t439) || (!(t411 == t440))) = false := by simpa using c149
          clear c149
          have H' := zM H
          clear H
          have hnb150 := NB402_414.out
          have hnc150 := NB414_402.out
          have hnb151 := NB402_415.out
          have hnc151 := NB415_402.out
          have hnb152 := NB402_420.out
          have hnc152 := NB420_402.out
          have hnb153 := NB402_421.out
          have hnc153 := NB421_402.out
          have hnb154 := NB402_426.out
          have hnc154 := NB426_402.out
          have hnb155 := NB402_427.out
          have hnc155 := NB427_402.out
          have hcz156_0 := pzc (v := .int .u64 a1_0) BK402 0 rfl
          have hcz156_1 := pzc (v := .int .u64 a1_1) BK402 1 rfl
          have hfz156_0 := zF BK402.out 0
          have hfz156_1 := zF BK402.out 1
          go_wp2_with (first | ((with_reducible refine gate_dst (N := 19) rfl ?_); refine box_event ?hg (N := 19) ?hd (cs := #[.int .u64 0, .int .u64 0]) (t := 40) ?hr ?_; (case hd => rfl); (case hg => rfl); (case hr => first | (go_simp; done) | (go_simp; rfl)); intro gb437 hg w157 hbox hb; have BK437 := zM (hbox); have GW437 := zM ((by rw [hg]; exact (below_size (by repeat (first | (with_reducible first | exact HB.out | apply pzA | apply pzD | apply pz1 | apply pzs | assumption) | exact HB.out))) : w.heap.size ≤ gb437)); have GE437 := GW437; have NB402_437 := pzf BK402 hg; have NB437_402 := pzg BK402 hg; have NB414_437 := pzf BK414 hg; have NB437_414 := pzg BK414 hg; have NB415_437 := pzf BK415 hg; have NB437_415 := pzg BK415 hg; have NB420_437 := pzf BK420 hg; have NB437_420 := pzg BK420 hg; have NB421_437 := pzf BK421 hg; have NB437_421 := pzg BK421 hg; have NB426_437 := pzf BK426 hg; have NB437_426 := pzg BK426 hg; have NB427_437 := pzf BK427 hg; have NB437_427 := pzg BK427 hg; replace BK402 := pzb BK402 hb; replace BK414 := pzb BK414 hb; replace BK415 := pzb BK415 hb; replace BK420 := pzb BK420 hb; replace BK421 := pzb BK421 hb; replace BK426 := pzb BK426 hb; replace BK427 := pzb BK427 hb; replace HB := zM (below_step (by repeat (first | (with_reducible first | exact HB.out | apply pzA | apply pzD | apply pz1 | apply pzs | assumption) | exact HB.out)) hb); clear hb hbox hg; have hnb158 := NB437_402.out; have hnc158 := NB402_437.out; have hnb159 := NB437_414.out; have hnc159 := NB414_437.out; have hnb160 := NB437_415.out; have hnc160 := NB415_437.out; have hnb161 := NB437_420.out; have hnc161 := NB420_437.out; have hnb162 := NB437_421.out; have hnc162 := NB421_437.out; have hnb163 := NB437_426.out; have hnc163 := NB426_437.out; have hnb164 := NB437_427.out; have hnc164 := NB427_437.out; have hcz165_0 := pzc (v := .int .u64 0) BK437 0 rfl; have hcz165_1 := pzc (v := .int .u64 0) BK437 1 rfl; have hfz165_0 := zF BK437.out 0; have hfz165_1 := zF BK437.out 1) | ((with_reducible refine gate_callee (f := 15) rfl ?_); refine goesL_ (some 116) rfl rfl Try.func15 (by kernel_rfl) rfl #[.pointer (some ⟨gb437, 0, none⟩)] rfl (by (try simp only [zT, zC, zN]); first | done | rfl | (simp only [zR, zL]; rfl)) ?_; (with_reducible refine (brindlewoodref4_Random_Draw.calls gb437 a1_0 a1_1 t438 t439 t440 w _ ?side1 ?side2 A144.out).mono ?_); (case side1 => exact (zM (show IsS40 w _ gb437 a1_0 a1_1 from ⟨(by (with_reducible repeat (first | apply pzN | apply pzd | apply pza)); refine blk_put (cs := #[.int .u64 a1_0, .int .u64 0]) ?_ 1 _ rfl; (with_reducible repeat (first | apply pzN | apply pzd | apply pza)); refine blk_put (cs := #[.int .u64 0, .int .u64 0]) ?_ 0 _ rfl; (with_reducible repeat (first | apply pzN | apply pzd | apply pza)); exact BK437.out), GE437.out⟩)).out); (case side2 => repeat (first | (with_reducible first | exact HB.out | apply pzA | apply pzD | apply pz1 | apply pzs | assumption) | exact HB.out)); rintro e w166 ⟨rfl, hi, hb, hk⟩; refine ⟨_, rfl, ?_⟩; replace BK402 := zM (KeepBut.blk hk (g' := gb402) (o := .cells #[.int .u64 a1_0, .int .u64 a1_1] 27 (0, 0)) (by (with_reducible repeat (first | apply pzN | apply pzd | apply pza)); refine blk_far ?_ NB402_437.out _; (with_reducible repeat (first | apply pzN | apply pzd | apply pza)); refine blk_far ?_ NB402_437.out _; (with_reducible repeat (first | apply pzN | apply pzd | apply pza)); exact BK402.out) NB402_437.out (by simp)); replace BK414 := zM (KeepBut.blk hk (g' := gb414) (o := .cells #[.int .u64 t410, .int .u64 t411] 27 (0, 0)) (by (with_reducible repeat (first | apply pzN | apply pzd | apply pza)); refine blk_far ?_ NB414_437.out _; (with_reducible repeat (first | apply pzN | apply pzd | apply pza)); refine blk_far ?_ NB414_437.out _; (with_reducible repeat (first | apply pzN | apply pzd | apply pza)); exact BK414.out) NB414_437.out (by simp)); replace BK415 := zM (KeepBut.blk hk (g' := gb415) (o := .cells #[.int .i64 t412, .int .i64 t413] 29 (0, 0)) (by (with_reducible repeat (first | apply pzN | apply pzd | apply pza)); refine blk_far ?_ NB415_437.out _; (with_reducible repeat (first | apply pzN | apply pzd | apply pza)); refine blk_far ?_ NB415_437.out _; (with_reducible repeat (first | apply pzN | apply pzd | apply pza)); exact BK415.out) NB415_437.out (by simp)); replace BK420 := zM (KeepBut.blk hk (g' := gb420) (o := .cells #[.int .u64 t416, .int .u64 t417] 27 (0, 0)) (by (with_reducible repeat (first | apply pzN | apply pzd | apply pza)); refine blk_far ?_ NB420_437.out _; (with_reducible repeat (first | apply pzN | apply pzd | apply pza)); refine blk_far ?_ NB420_437.out _; (with_reducible repeat (first | apply pzN | apply pzd | apply pza)); exact BK420.out) NB420_437.out (by simp)); replace BK421 := zM (KeepBut.blk hk (g' := gb421) (o := .cells #[.int .i64 t418, .int .i64 t419] 29 (0, 0)) (by (with_reducible repeat (first | apply pzN | apply pzd | apply pza)); refine blk_far ?_ NB421_437.out _; (with_reducible repeat (first | apply pzN | apply pzd | apply pza)); refine blk_far ?_ NB421_437.out _; (with_reducible repeat (first | apply pzN | apply pzd | apply pza)); exact BK421.out) NB421_437.out (by simp)); replace BK426 := zM (KeepBut.blk hk (g' := gb426) (o := .cells #[.int .u64 t422, .int .u64 t423] 27 (0, 0)) (by (with_reducible repeat (first | apply pzN | apply pzd | apply pza)); refine blk_far ?_ NB426_437.out _; (with_reducible repeat (first | apply pzN | apply pzd | apply pza)); refine blk_far ?_ NB426_437.out _; (with_reducible repeat (first | apply pzN | apply pzd | apply pza)); exact BK426.out) NB426_437.out (by simp)); replace BK427 := zM (KeepBut.blk hk (g' := gb427) (o := .cells #[.int .i64 t424, .int .i64 t425] 29 (0, 0)) (by (with_reducible repeat (first | apply pzN | apply pzd | apply pza)); refine blk_far ?_ NB427_437.out _; (with_reducible repeat (first | apply pzN | apply pzd | apply pza)); refine blk_far ?_ NB427_437.out _; (with_reducible repeat (first | apply pzN | apply pzd | apply pza)); exact BK427.out) NB427_437.out (by simp)); replace HB := zM (hb); replace BK437 := zM (hi.1); (try clear hb); (try clear hb2); (try clear hk); (try clear hi); have hnb167 := NB415_414.out; have hnc167 := NB414_415.out; have hnb168 := NB415_420.out; have hnc168 := NB420_415.out; have hnb169 := NB415_421.out; have hnc169 := NB421_415.out; have hnb170 := NB415_426.out; have hnc170 := NB426_415.out; have hnb171 := NB415_427.out; have hnc171 := NB427_415.out; have hcz172_0 := pzc (v := .int .i64 t412) BK415 0 rfl; have hcz172_1 := pzc (v := .int .i64 t413) BK415 1 rfl; have hfz172_0 := zF BK415.out 0; have hfz172_1 := zF BK415.out 1; have hnb173 := NB421_414.out; have hnc173 := NB414_421.out; have hnb174 := NB421_420.out; have hnc174 := NB420_421.out; have hnb175 := NB421_426.out; have hnc175 := NB426_421.out; have hnb176 := NB421_427.out; have hnc176 := NB427_421.out; have hcz177_0 := pzc (v := .int .i64 t418) BK421 0 rfl; have hcz177_1 := pzc (v := .int .i64 t419) BK421 1 rfl; have hfz177_0 := zF BK421.out 0; have hfz177_1 := zF BK421.out 1; have hnb178 := NB427_414.out; have hnc178 := NB414_427.out; have hnb179 := NB427_420.out; have hnc179 := NB420_427.out; have hnb180 := NB427_426.out; have hnc180 := NB426_427.out; have hcz181_0 := pzc (v := .int .i64 t424) BK427 0 rfl; have hcz181_1 := pzc (v := .int .i64 t425) BK427 1 rfl; have hfz181_0 := zF BK427.out 0; have hfz181_1 := zF BK427.out 1; have hnb182 := NB414_420.out; have hnc182 := NB420_414.out; have hnb183 := NB414_426.out; have hnc183 := NB426_414.out; have hcz184_0 := pzc (v := .int .u64 t410) BK414 0 rfl; have hcz184_1 := pzc (v := .int .u64 t411) BK414 1 rfl; have hfz184_0 := zF BK414.out 0; have hfz184_1 := zF BK414.out 1; have hcz185_0 := pzc (v := .int .u64 t439) BK437 0 rfl; have hcz185_1 := pzc (v := .int .u64 t440) BK437 1 rfl; have hfz185_0 := zF BK437.out 0; have hfz185_1 := zF BK437.out 1; have hcz186_0 := pzc (v := .int .u64 a1_0) BK402 0 rfl; have hcz186_1 := pzc (v := .int .u64 a1_1) BK402 1 rfl; have hfz186_0 := zF BK402.out 0; have hfz186_1 := zF BK402.out 1))
          go_loopg [21] kj11 (fun kq v21 w' => ∃ (x21_2 : Int) (x438000_2 : Int) (x438001_2 : Int), v21 = .int .u64 x21_2 ∧ Aside0 (brindlewoodlaw4_RandomDraws.l0 kq a2 a3 x21_2 a1_0 a1_1 t416 t417 t422 t423 x438000_2 x438001_2 = some r) ∧ Aside0 (kq ≤ kj11) ∧ Aside0 (w'.heap[gb402]? = some (.cells #[.int .u64 a1_0, .int .u64 a1_1] 27 (0, 0))) ∧ Aside0 (w'.heap[gb420]? = some (.cells #[.int .u64 t416, .int .u64 t417] 27 (0, 0))) ∧ Aside0 (w'.heap[gb426]? = some (.cells #[.int .u64 t422, .int .u64 t423] 27 (0, 0))) ∧ Aside0 (w'.heap[gb437]? = some (.cells #[.int .u64 x438000_2, .int .u64 x438001_2] 40 (0, 0))) ∧ Aside0 (Below w.heap.size w w'))
          case atStart => exact ⟨(Int.tmod a2 5000), (a1_0), (a1_1), (by first | rfl | (simp; done) | (simp [*]; done)), H', ⟨Nat.le_refl _⟩, ⟨by (with_reducible repeat (first | apply pzN | apply pzd | apply pza)); refine blk_far ?_ NB402_437.out _; (with_reducible repeat (first | apply pzN | apply pzd | apply pza)); refine blk_far ?_ NB402_437.out _; (with_reducible repeat (first | apply pzN | apply pzd | apply pza)); exact BK402.out⟩, ⟨by (with_reducible repeat (first | apply pzN | apply pzd | apply pza)); refine blk_far ?_ NB420_437.out _; (with_reducible repeat (first | apply pzN | apply pzd | apply pza)); refine blk_far ?_ NB420_437.out _; (with_reducible repeat (first | apply pzN | apply pzd | apply pza)); exact BK420.out⟩, ⟨by (with_reducible repeat (first | apply pzN | apply pzd | apply pza)); refine blk_far ?_ NB426_437.out _; (with_reducible repeat (first | apply pzN | apply pzd | apply pza)); refine blk_far ?_ NB426_437.out _; (with_reducible repeat (first | apply pzN | apply pzd | apply pza)); exact BK426.out⟩, ⟨by (with_reducible repeat (first | apply pzN | apply pzd | apply pza)); refine blk_put (cs := #[.int .u64 a1_0, .int .u64 t440]) ?_ 1 _ rfl; (with_reducible repeat (first | apply pzN | apply pzd | apply pza)); refine blk_put (cs := #[.int .u64 t439, .int .u64 t440]) ?_ 0 _ rfl; (with_reducible repeat (first | apply pzN | apply pzd | apply pza)); exact BK437.out⟩, ⟨by repeat (first | (with_reducible first | exact HB.out | apply pzA | apply pzD | apply pz1 | apply pzs | assumption) | exact HB.out)⟩⟩
          case round =>
           clear H'
           try clear c1
           try clear c2
           try clear p2
           try clear c3
           try clear c4
           try clear c5
           try clear c6
           try clear c7
           try clear c8
           try clear c9
           try clear c10
           try clear c11
           try clear c12
           try clear c13
           try clear c14
           try clear c15
           try clear c16
           try clear c17
           try clear c18
           try clear c20
           try clear c21
           try clear c22
           try clear c24
           try clear c25
           try clear c31
           try clear c32
           try clear c33
           try clear c34
           try clear c35
           try clear c37
           try clear c38
           try clear c39
           try clear c40
           try clear c46
           try clear c47
           try clear c48
           try clear c49
           try clear c50
           try clear c51
           try clear c52
           try clear c54
           try clear c55
           try clear c56
           try clear c57
           try clear c58
           try clear c59
           try clear c65
           try clear c66
           try clear c67
           try clear c68
           try clear c69
           try clear c70
           try clear c71
           try clear c72
           try clear c73
           try clear c75
           try clear c76
           try clear c77
           try clear c78
           try clear c79
           try clear c80
           try clear c81
           try clear c82
           try clear c87
           try clear c88
           try clear c88b0
           try clear c88b1
           try clear c90
           try clear c90b0
           try clear c94
           try clear c94b0
           try clear c95
           try clear c95b0
           try clear c98
           try clear c98b0
           try clear c98b1
           try clear c100
           try clear c100b0
           try clear c100b1
           try clear c100b2
           try clear c101
           try clear c101b0
           try clear c101b1
           try clear c101b2
           try clear c102
           try clear c102b0
           try clear c102b1
           try clear c102b2
           try clear c103
           try clear c103b0
           try clear c103b1
           try clear c104
           try clear c104b0
           try clear c104b1
           try clear c104b2
           try clear c105
           try clear c105b0
           try clear c105b1
           try clear c105b2
           try clear c106
           try clear c107
           try clear c108
           try clear c109
           try clear c110
           try clear c111
           try clear c115
           try clear c116
           try clear c117
           try clear c118
           try clear c119
           try clear c120
           try clear c121
           try clear c123
           try clear c124
           try clear c125
           try clear c126
           try clear c127
           try clear c129
           try clear c130
           try clear c131
           try clear c132
           try clear c134
           try clear c135
           try clear c136
           try clear c138
           try clear c139
           try clear c141
           try clear c145
           try clear c145b0
           try clear c145b1
           try clear c146
           try clear c146b0
           try clear c146b1
           try clear c147
           try clear c147b0
           try clear c147b1
           try clear c148
           try clear c148b0
           try clear c148b1
           try clear c149
           try clear c149b0
           try clear c150
           try clear c151
           try clear c152
           try clear c153
           try clear c154
           try clear c155
           try clear c158
           try clear c159
           try clear c160
           try clear c161
           try clear c162
           try clear c163
           try clear c164
           try clear c167
           try clear c168
           try clear c169
           try clear c170
           try clear c171
           try clear c173
           try clear c174
           try clear c175
           try clear c176
           try clear c178
           try clear c179
           try clear c180
           try clear c182
           try clear c183
           try clear hcz112_0
           try clear hcz112_1
           try clear hcz122_0
           try clear hcz122_1
           try clear hcz128_0
           try clear hcz128_1
           try clear hcz133_0
           try clear hcz133_1
           try clear hcz137_0
           try clear hcz137_1
           try clear hcz140_0
           try clear hcz140_1
           try clear hcz142_0
           try clear hcz142_1
           try clear hcz143_0
           try clear hcz143_1
           try clear hcz156_0
           try clear hcz156_1
           try clear hcz165_0
           try clear hcz165_1
           try clear hcz16_0
           try clear hcz16_1
           try clear hcz172_0
           try clear hcz172_1
           try clear hcz177_0
           try clear hcz177_1
           try clear hcz181_0
           try clear hcz181_1
           try clear hcz184_0
           try clear hcz184_1
           try clear hcz185_0
           try clear hcz185_1
           try clear hcz186_0
           try clear hcz186_1
           try clear hcz23_0
           try clear hcz23_1
           try clear hcz26_0
           try clear hcz26_1
           try clear hcz27_0
           try clear hcz27_1
           try clear hcz36_0
           try clear hcz36_1
           try clear hcz41_0
           try clear hcz41_1
           try clear hcz42_0
           try clear hcz42_1
           try clear hcz53_0
           try clear hcz53_1
           try clear hcz60_0
           try clear hcz60_1
           try clear hcz61_0
           try clear hcz61_1
           try clear hcz74_0
           try clear hcz74_1
           try clear hcz83_0
           try clear hcz83_1
           try clear hcz85_0
           try clear hcz85_1
           try clear hfz112_0
           try clear hfz112_1
           try clear hfz122_0
           try clear hfz122_1
           try clear hfz128_0
           try clear hfz128_1
           try clear hfz133_0
           try clear hfz133_1
           try clear hfz137_0
           try clear hfz137_1
           try clear hfz140_0
           try clear hfz140_1
           try clear hfz142_0
           try clear hfz142_1
           try clear hfz143_0
           try clear hfz143_1
           try clear hfz156_0
           try clear hfz156_1
           try clear hfz165_0
           try clear hfz165_1
           try clear hfz16_0
           try clear hfz16_1
           try clear hfz172_0
           try clear hfz172_1
           try clear hfz177_0
           try clear hfz177_1
           try clear hfz181_0
           try clear hfz181_1
           try clear hfz184_0
           try clear hfz184_1
           try clear hfz185_0
           try clear hfz185_1
           try clear hfz186_0
           try clear hfz186_1
           try clear hfz23_0
           try clear hfz23_1
           try clear hfz26_0
           try clear hfz26_1
           try clear hfz27_0
           try clear hfz27_1
           try clear hfz36_0
           try clear hfz36_1
           try clear hfz41_0
           try clear hfz41_1
           try clear hfz42_0
           try clear hfz42_1
           try clear hfz53_0
           try clear hfz53_1
           try clear hfz60_0
           try clear hfz60_1
           try clear hfz61_0
           try clear hfz61_1
           try clear hfz74_0
           try clear hfz74_1
           try clear hfz83_0
           try clear hfz83_1
           try clear hfz85_0
           try clear hfz85_1
           try clear p2
           obtain ⟨x21_2, x438000_2, x438001_2, rfl, HA, HK2, BK402, BK420, BK426, BK437, HB⟩ := hrel
           cases gk with
           | zero => exact absurd HA.out (by simp [brindlewoodlaw4_RandomDraws.l0])
           | succ k2 =>
            have H := HA.out
            clear HA
            simp only [brindlewoodlaw4_RandomDraws.l0] at H
            by_cases c187 : x21_2 > 0
            ·rw [if_pos c187] at H
             have c187b0 : decide (0 < x21_2) = true := zE c187
             clear c187
             replace H := zB H
             obtain ⟨⟨t441, t442, t443⟩, A1880, H⟩ := H
             replace H : (brindlewoodlaw4_RandomDraws.l0 k2 a2 a3 (IntKind.u64.wrap (x21_2 - 1)) a1_0 a1_1 t416 t417 t422 t423 t442 t443) = some r := H
             have A188 := zM A1880
             clear A1880
             have H' := zM H
             clear H
             go_wp2_with (first | ((with_reducible refine gate_callee (f := 15) rfl ?_); refine goesL_ (some 149) rfl rfl Try.func15 (by kernel_rfl) rfl #[.pointer (some ⟨gb437, 0, none⟩)] rfl (by (try simp only [zT, zC, zN]); first | done | rfl | (simp only [zR, zL]; rfl)) ?_; (with_reducible refine (brindlewoodref4_Random_Draw.calls gb437 x438000_2 x438001_2 t441 t442 t443 w _ ?side1 ?side2 A188.out).mono ?_); (case side1 => exact (zM (show IsS40 w _ gb437 x438000_2 x438001_2 from ⟨BK437.out, GE437.out⟩)).out); (case side2 => repeat (first | (with_reducible first | exact HB.out | apply pzA | apply pzD | apply pz1 | apply pzs | assumption) | exact HB.out)); rintro e w189 ⟨rfl, hi, hb, hk⟩; refine ⟨_, rfl, ?_⟩; replace BK402 := zM (KeepBut.blk hk (g' := gb402) (o := .cells #[.int .u64 a1_0, .int .u64 a1_1] 27 (0, 0)) BK402.out NB402_437.out (by simp)); replace BK420 := zM (KeepBut.blk hk (g' := gb420) (o := .cells #[.int .u64 t416, .int .u64 t417] 27 (0, 0)) BK420.out NB420_437.out (by simp)); replace BK426 := zM (KeepBut.blk hk (g' := gb426) (o := .cells #[.int .u64 t422, .int .u64 t423] 27 (0, 0)) BK426.out NB426_437.out (by simp)); replace HB := zM (hb); replace BK437 := zM (hi.1); (try clear hb); (try clear hb2); (try clear hk); (try clear hi)))
             go_roundg k2
             case measure => have := HJ11.out; have := HK2.out; omega
             case rel => exact ⟨(IntKind.u64.wrap (x21_2 - 1)), (t442), (t443), (by first | rfl | (simp; done) | (simp [*]; done)), H', ⟨by have := HJ11.out; have := HK2.out; omega⟩, ⟨by (with_reducible repeat (first | apply pzN | apply pzd | apply pza)); exact BK402.out⟩, ⟨by (with_reducible repeat (first | apply pzN | apply pzd | apply pza)); exact BK420.out⟩, ⟨by (with_reducible repeat (first | apply pzN | apply pzd | apply pza)); exact BK426.out⟩, ⟨by (with_reducible repeat (first | apply pzN | apply pzd | apply pza)); exact BK437.out⟩, ⟨by repeat (first | (with_reducible first | exact HB.out | apply pzA | apply pzD | apply pz1 | apply pzs | assumption) | exact HB.out)⟩⟩
            ·rw [if_neg c187] at H
             have c187b0 : decide (0 < x21_2) = false := decide_eq_false c187
             clear c187
             by_cases c190 : (!(t416 == x438000_2) || (!(t417 == x438001_2))) = true
             ·rw [if_pos c190] at H
              exact absurd H (by simp)
             ·rw [if_neg c190] at H
              have c190b0 : (!(t416 == x438000_2) || (!(t417 == x438001_2))) = false := by simpa using c190
              clear c190
              replace H := zB H
              obtain ⟨⟨t444, t445, t446, t447⟩, A1910, H⟩ := H
              replace H : ((random_Skip.f k2 a1_0 a1_1 (IntKind.u64.wrap (a2 + a3))).bind fun bt450 => ((random_Skip.f k2 a1_0 a1_1 (IntKind.u64.wrap (a2 + 1))).bind fun bt456 => ((random_Next.f t422 t423).bind fun bt462 => (if t446 = 0 then (if bt450.2.2.1 = 0 then (if bt456.2.2.1 = 0 then (if bt462.2.2.2.1 = 0 then (if (IntKind.u64.wrap (a2 + a3)) < a2 then (if (IntKind.u64.wrap (a2 + 1)) = 0 then (some true) else (some (bt456.1 == bt462.2.1 && (bt456.2.1 == bt462.2.2.1)))) else (if (t444 == bt450.1 && (t445 == bt450.2.1)) = true then (if (IntKind.u64.wrap (a2 + 1)) = 0 then (some true) else (some (bt456.1 == bt462.2.1 && (bt456.2.1 == bt462.2.2.1)))) else (none))) else (none)) else (none)) else (none)) else (none))))) = some r := H
              have A191 := zM A1910
              clear A1910
              replace H := zB H
              obtain ⟨⟨t450, t451, t452, t453⟩, A1920, H⟩ := H
              replace H : ((random_Skip.f k2 a1_0 a1_1 (IntKind.u64.wrap (a2 + 1))).bind fun bt456 => ((random_Next.f t422 t423).bind fun bt462 => (if t446 = 0 then (if t452 = 0 then (if bt456.2.2.1 = 0 then (if bt462.2.2.2.1 = 0 then (if (IntKind.u64.wrap (a2 + a3)) < a2 then (if (IntKind.u64.wrap (a2 + 1)) = 0 then (some true) else (some (bt456.1 == bt462.2.1 && (bt456.2.1 == bt462.2.2.1)))) else (if (t444 == t450 && (t445 == t451)) = true then (if (IntKind.u64.wrap (a2 + 1)) = 0 then (some true) else (some (bt456.1 == bt462.2.1 && (bt456.2.1 == bt462.2.2.1)))) else (none))) else (none)) else (none)) else (none)) else (none)))) = some r := H
              have A192 := zM A1920
              clear A1920
              replace H := zB H
              obtain ⟨⟨t456, t457, t458, t459⟩, A1930, H⟩ := H
              replace H : ((random_Next.f t422 t423).bind fun bt462 => (if t446 = 0 then (if t452 = 0 then (if t458 = 0 then (if bt462.2.2.2.1 = 0 then (if (IntKind.u64.wrap (a2 + a3)) < a2 then (if (IntKind.u64.wrap (a2 + 1)) = 0 then (some true) else (some (t456 == bt462.2.1 && (t457 == bt462.2.2.1)))) else (if (t444 == t450 && (t445 == t451)) = true then (if (IntKind.u64.wrap (a2 + 1)) = 0 then (some true) else (some (t456 == bt462.2.1 && (t457 == bt462.2.2.1)))) else (none))) else (none)) else (none)) else (none)) else (none))) = some r := H
              have A193 := zM A1930
              clear A1930
              replace H := zB H
              obtain ⟨⟨t462, t463, t464, t465, t466⟩, A1940, H⟩ := H
              replace H : (if t446 = 0 then (if t452 = 0 then (if t458 = 0 then (if t465 = 0 then (if (IntKind.u64.wrap (a2 + a3)) < a2 then (if (IntKind.u64.wrap (a2 + 1)) = 0 then (some true) else (some (t456 == t463 && (t457 == t464)))) else (if (t444 == t450 && (t445 == t451)) = true then (if (IntKind.u64.wrap (a2 + 1)) = 0 then (some true) else (some (t456 == t463 && (t457 == t464)))) else (none))) else (none)) else (none)) else (none)) else (none)) = some r := H
              have A194 := zM A1940
              clear A1940
              by_cases c195 : t446 = 0
              ·rw [if_pos c195] at H
               have c195b0 : (t446 == 0) = true := beq_iff_eq.mpr c195
               have c195b1 : (t446 != 0) = false := bne_eq_false_iff_eq.mpr c195
               clear c195
               by_cases c196 : t452 = 0
               ·rw [if_pos c196] at H
                have c196b0 : (t452 == 0) = true := beq_iff_eq.mpr c196
                have c196b1 : (t452 != 0) = false := bne_eq_false_iff_eq.mpr c196
                clear c196
                by_cases c197 : t458 = 0
                ·rw [if_pos c197] at H
                 have c197b0 : (t458 == 0) = true := beq_iff_eq.mpr c197
                 have c197b1 : (t458 != 0) = false := bne_eq_false_iff_eq.mpr c197
                 clear c197
                 by_cases c198 : t465 = 0
                 ·rw [if_pos c198] at H
                  have c198b0 : (t465 == 0) = true := beq_iff_eq.mpr c198
                  have c198b1 : (t465 != 0) = false := bne_eq_false_iff_eq.mpr c198
                  clear c198
                  by_cases c199 : (IntKind.u64.wrap (a2 + a3)) < a2
                  ·rw [if_pos c199] at H
                   have c199b0 : decide ((IntKind.u64.wrap (a2 + a3)) < a2) = true := zE c199
                   clear c199
                   by_cases c200 : (IntKind.u64.wrap (a2 + 1)) = 0
                   ·rw [if_pos c200] at H
                    have c200b0 : ((IntKind.u64.wrap (a2 + 1)) == 0) = true := beq_iff_eq.mpr c200
                    have c200b1 : ((IntKind.u64.wrap (a2 + 1)) != 0) = false := bne_eq_false_iff_eq.mpr c200
                    clear c200
                    obtain rfl := Option.some.inj H
                    have hnb201 := NB420_402.out
                    have hnc201 := NB402_420.out
                    have hnb202 := NB420_426.out
                    have hnc202 := NB426_420.out
                    have hnb203 := NB420_437.out
                    have hnc203 := NB437_420.out
                    have hcz204_0 := pzc (v := .int .u64 t416) BK420 0 rfl
                    have hcz204_1 := pzc (v := .int .u64 t417) BK420 1 rfl
                    have hfz204_0 := zF BK420.out 0
                    have hfz204_1 := zF BK420.out 1
                    have hnb205 := NB437_402.out
                    have hnc205 := NB402_437.out
                    have hnb206 := NB437_426.out
                    have hnc206 := NB426_437.out
                    have hcz207_0 := pzc (v := .int .u64 x438000_2) BK437 0 rfl
                    have hcz207_1 := pzc (v := .int .u64 x438001_2) BK437 1 rfl
                    have hfz207_0 := zF BK437.out 0
                    have hfz207_1 := zF BK437.out 1
                    have hnb208 := NB426_402.out
                    have hnc208 := NB402_426.out
                    have hcz209_0 := pzc (v := .int .u64 t422) BK426 0 rfl
                    have hcz209_1 := pzc (v := .int .u64 t423) BK426 1 rfl
                    have hfz209_0 := zF BK426.out 0
                    have hfz209_1 := zF BK426.out 1
                    go_wp2_with (first | ((with_reducible refine gate_callee (f := 10) rfl ?_); refine goesL_ (some 157) rfl rfl Try.func10 (by kernel_rfl) rfl #[.agg #[.int .u64 t422, .int .u64 t423], .int .u64 a3] rfl (by (try simp only [zT, zC, zN]); first | done | rfl | (simp only [zR, zL]; rfl)) ?_; (with_reducible refine (random_Skip.calls k2 t422 t423 a3 t444 t445 t446 t447 _ A191.out).mono ?_); rintro e w210 ⟨rfl, hb⟩; refine ⟨_, rfl, ?_⟩; replace BK402 := pzb BK402 hb; replace BK426 := pzb BK426 hb; replace HB := zM (below_step (by repeat (first | (with_reducible first | exact HB.out | apply pzA | apply pzD | apply pz1 | apply pzs | assumption) | exact HB.out)) hb); (try clear hb); (try clear hb2); (try clear hk); (try clear hi)) | ((with_reducible refine gate_dst (N := 22) rfl ?_); refine box_event ?hg (N := 22) ?hd (cs := #[.int .u64 0, .int .u64 0]) (t := 27) ?hr ?_; (case hd => rfl); (case hg => rfl); (case hr => first | (go_simp; done) | (go_simp; rfl)); intro gb448 hg w211 hbox hb; have BK448 := zM (hbox); have GW448 := zM ((by rw [hg]; exact (below_size (by repeat (first | (with_reducible first | exact HB.out | apply pzA | apply pzD | apply pz1 | apply pzs | assumption) | exact HB.out))) : w.heap.size ≤ gb448)); have GE448 := GW448; have NB402_448 := pzf BK402 hg; have NB448_402 := pzg BK402 hg; have NB426_448 := pzf BK426 hg; have NB448_426 := pzg BK426 hg; replace BK402 := pzb BK402 hb; replace BK426 := pzb BK426 hb; replace HB := zM (below_step (by repeat (first | (with_reducible first | exact HB.out | apply pzA | apply pzD | apply pz1 | apply pzs | assumption) | exact HB.out)) hb); clear hb hbox hg) | ((with_reducible refine gate_dst (N := 23) rfl ?_); refine box_event ?hg (N := 23) ?hd (cs := #[.int .i64 0, .int .i64 0]) (t := 29) ?hr ?_; (case hd => rfl); (case hg => rfl); (case hr => first | (go_simp; done) | (go_simp; rfl)); intro gb449 hg w212 hbox hb; have BK449 := zM (hbox); have GW449 := zM ((by rw [hg]; exact (below_size (by repeat (first | (with_reducible first | exact HB.out | apply pzA | apply pzD | apply pz1 | apply pzs | assumption) | exact HB.out))) : w.heap.size ≤ gb449)); have GE449 := GW449; have NB402_449 := pzf BK402 hg; have NB449_402 := pzg BK402 hg; have NB426_449 := pzf BK426 hg; have NB449_426 := pzg BK426 hg; have NB448_449 := pzf BK448 hg; have NB449_448 := pzg BK448 hg; replace BK402 := pzb BK402 hb; replace BK426 := pzb BK426 hb; replace BK448 := pzb BK448 hb; replace HB := zM (below_step (by repeat (first | (with_reducible first | exact HB.out | apply pzA | apply pzD | apply pz1 | apply pzs | assumption) | exact HB.out)) hb); clear hb hbox hg; have hnb213 := NB448_402.out; have hnc213 := NB402_448.out; have hnb215 := NB448_426.out; have hnc215 := NB426_448.out; have hnb217 := NB448_449.out; have hnc217 := NB449_448.out; have hcz218_0 := pzc (v := .int .u64 0) BK448 0 rfl; have hcz218_1 := pzc (v := .int .u64 0) BK448 1 rfl; have hfz218_0 := zF BK448.out 0; have hfz218_1 := zF BK448.out 1; have hnb219 := NB449_402.out; have hnc219 := NB402_449.out; have hnb221 := NB449_426.out; have hnc221 := NB426_449.out; have hcz223_0 := pzc (v := .int .i64 0) BK449 0 rfl; have hcz223_1 := pzc (v := .int .i64 0) BK449 1 rfl; have hfz223_0 := zF BK449.out 0; have hfz223_1 := zF BK449.out 1; have hcz224_0 := pzc (v := .int .u64 a1_0) BK402 0 rfl; have hcz224_1 := pzc (v := .int .u64 a1_1) BK402 1 rfl; have hfz224_0 := zF BK402.out 0; have hfz224_1 := zF BK402.out 1) | ((with_reducible refine gate_callee (f := 10) rfl ?_); refine goesL_ (some 165) rfl rfl Try.func10 (by kernel_rfl) rfl #[.agg #[.int .u64 a1_0, .int .u64 a1_1], .int .u64 (IntKind.u64.wrap (a2 + a3))] rfl (by (try simp only [zT, zC, zN]); first | done | rfl | (simp only [zR, zL]; rfl)) ?_; (with_reducible refine (random_Skip.calls k2 a1_0 a1_1 (IntKind.u64.wrap (a2 + a3)) t450 t451 t452 t453 _ A192.out).mono ?_); rintro e w225 ⟨rfl, hb⟩; refine ⟨_, rfl, ?_⟩; replace BK402 := zM (blk_below (g := gb402) (o := .cells #[.int .u64 a1_0, .int .u64 a1_1] 27 (0, 0)) (by (with_reducible repeat (first | apply pzN | apply pzd | apply pza)); refine blk_far ?_ NB402_449.out _; (with_reducible repeat (first | apply pzN | apply pzd | apply pza)); refine blk_far ?_ NB402_449.out _; (with_reducible repeat (first | apply pzN | apply pzd | apply pza)); refine blk_far ?_ NB402_448.out _; (with_reducible repeat (first | apply pzN | apply pzd | apply pza)); refine blk_far ?_ NB402_448.out _; (with_reducible repeat (first | apply pzN | apply pzd | apply pza)); exact BK402.out) hb); replace BK426 := zM (blk_below (g := gb426) (o := .cells #[.int .u64 t422, .int .u64 t423] 27 (0, 0)) (by (with_reducible repeat (first | apply pzN | apply pzd | apply pza)); refine blk_far ?_ NB426_449.out _; (with_reducible repeat (first | apply pzN | apply pzd | apply pza)); refine blk_far ?_ NB426_449.out _; (with_reducible repeat (first | apply pzN | apply pzd | apply pza)); refine blk_far ?_ NB426_448.out _; (with_reducible repeat (first | apply pzN | apply pzd | apply pza)); refine blk_far ?_ NB426_448.out _; (with_reducible repeat (first | apply pzN | apply pzd | apply pza)); exact BK426.out) hb); replace BK449 := zM (blk_below (g := gb449) (o := .cells #[.int .i64 t446, .int .i64 t447] 29 (0, 0)) (by (with_reducible repeat (first | apply pzN | apply pzd | apply pza)); refine blk_put (cs := #[.int .i64 t446, .int .i64 0]) ?_ 1 _ rfl; (with_reducible repeat (first | apply pzN | apply pzd | apply pza)); refine blk_put (cs := #[.int .i64 0, .int .i64 0]) ?_ 0 _ rfl; (with_reducible repeat (first | apply pzN | apply pzd | apply pza)); refine blk_far ?_ NB449_448.out _; (with_reducible repeat (first | apply pzN | apply pzd | apply pza)); refine blk_far ?_ NB449_448.out _; (with_reducible repeat (first | apply pzN | apply pzd | apply pza)); exact BK449.out) hb); replace HB := zM (below_step (by repeat (first | (with_reducible first | exact HB.out | apply pzA | apply pzD | apply pz1 | apply pzs | assumption) | exact HB.out)) hb); (try clear hb); (try clear hb2); (try clear hk); (try clear hi)) | ((with_reducible refine gate_dst (N := 24) rfl ?_); refine box_event ?hg (N := 24) ?hd (cs := #[.int .u64 0, .int .u64 0]) (t := 27) ?hr ?_; (case hd => rfl); (case hg => rfl); (case hr => first | (go_simp; done) | (go_simp; rfl)); intro gb454 hg w226 hbox hb; have BK454 := zM (hbox); have GW454 := zM ((by rw [hg]; exact (below_size (by repeat (first | (with_reducible first | exact HB.out | apply pzA | apply pzD | apply pz1 | apply pzs | assumption) | exact HB.out))) : w.heap.size ≤ gb454)); have GE454 := GW454; have NB402_454 := pzf BK402 hg; have NB454_402 := pzg BK402 hg; have NB426_454 := pzf BK426 hg; have NB454_426 := pzg BK426 hg; have NB449_454 := pzf BK449 hg; have NB454_449 := pzg BK449 hg; replace BK402 := pzb BK402 hb; replace BK426 := pzb BK426 hb; replace BK449 := pzb BK449 hb; replace HB := zM (below_step (by repeat (first | (with_reducible first | exact HB.out | apply pzA | apply pzD | apply pz1 | apply pzs | assumption) | exact HB.out)) hb); clear hb hbox hg) | ((with_reducible refine gate_dst (N := 25) rfl ?_); refine box_event ?hg (N := 25) ?hd (cs := #[.int .i64 0, .int .i64 0]) (t := 29) ?hr ?_; (case hd => rfl); (case hg => rfl); (case hr => first | (go_simp; done) | (go_simp; rfl)); intro gb455 hg w227 hbox hb; have BK455 := zM (hbox); have GW455 := zM ((by rw [hg]; exact (below_size (by repeat (first | (with_reducible first | exact HB.out | apply pzA | apply pzD | apply pz1 | apply pzs | assumption) | exact HB.out))) : w.heap.size ≤ gb455)); have GE455 := GW455; have NB402_455 := pzf BK402 hg; have NB455_402 := pzg BK402 hg; have NB426_455 := pzf BK426 hg; have NB455_426 := pzg BK426 hg; have NB449_455 := pzf BK449 hg; have NB455_449 := pzg BK449 hg; have NB454_455 := pzf BK454 hg; have NB455_454 := pzg BK454 hg; replace BK402 := pzb BK402 hb; replace BK426 := pzb BK426 hb; replace BK449 := pzb BK449 hb; replace BK454 := pzb BK454 hb; replace HB := zM (below_step (by repeat (first | (with_reducible first | exact HB.out | apply pzA | apply pzD | apply pz1 | apply pzs | assumption) | exact HB.out)) hb); clear hb hbox hg; have hnb228 := NB454_402.out; have hnc228 := NB402_454.out; have hnb230 := NB454_426.out; have hnc230 := NB426_454.out; have hnb233 := NB454_449.out; have hnc233 := NB449_454.out; have hnb234 := NB454_455.out; have hnc234 := NB455_454.out; have hcz235_0 := pzc (v := .int .u64 0) BK454 0 rfl; have hcz235_1 := pzc (v := .int .u64 0) BK454 1 rfl; have hfz235_0 := zF BK454.out 0; have hfz235_1 := zF BK454.out 1; have hnb236 := NB455_402.out; have hnc236 := NB402_455.out; have hnb238 := NB455_426.out; have hnc238 := NB426_455.out; have hnb241 := NB455_449.out; have hnc241 := NB449_455.out; have hcz242_0 := pzc (v := .int .i64 0) BK455 0 rfl; have hcz242_1 := pzc (v := .int .i64 0) BK455 1 rfl; have hfz242_0 := zF BK455.out 0; have hfz242_1 := zF BK455.out 1; have hcz243_0 := pzc (v := .int .u64 a1_0) BK402 0 rfl; have hcz243_1 := pzc (v := .int .u64 a1_1) BK402 1 rfl; have hfz243_0 := zF BK402.out 0; have hfz243_1 := zF BK402.out 1) | ((with_reducible refine gate_callee (f := 10) rfl ?_); refine goesL_ (some 172) rfl rfl Try.func10 (by kernel_rfl) rfl #[.agg #[.int .u64 a1_0, .int .u64 a1_1], .int .u64 (IntKind.u64.wrap (a2 + 1))] rfl (by (try simp only [zT, zC, zN]); first | done | rfl | (simp only [zR, zL]; rfl)) ?_; (with_reducible refine (random_Skip.calls k2 a1_0 a1_1 (IntKind.u64.wrap (a2 + 1)) t456 t457 t458 t459 _ A193.out).mono ?_); rintro e w244 ⟨rfl, hb⟩; refine ⟨_, rfl, ?_⟩; replace BK426 := zM (blk_below (g := gb426) (o := .cells #[.int .u64 t422, .int .u64 t423] 27 (0, 0)) (by (with_reducible repeat (first | apply pzN | apply pzd | apply pza)); refine blk_far ?_ NB426_455.out _; (with_reducible repeat (first | apply pzN | apply pzd | apply pza)); refine blk_far ?_ NB426_455.out _; (with_reducible repeat (first | apply pzN | apply pzd | apply pza)); refine blk_far ?_ NB426_454.out _; (with_reducible repeat (first | apply pzN | apply pzd | apply pza)); refine blk_far ?_ NB426_454.out _; (with_reducible repeat (first | apply pzN | apply pzd | apply pza)); exact BK426.out) hb); replace BK449 := zM (blk_below (g := gb449) (o := .cells #[.int .i64 t446, .int .i64 t447] 29 (0, 0)) (by (with_reducible repeat (first | apply pzN | apply pzd | apply pza)); refine blk_far ?_ NB449_455.out _; (with_reducible repeat (first | apply pzN | apply pzd | apply pza)); refine blk_far ?_ NB449_455.out _; (with_reducible repeat (first | apply pzN | apply pzd | apply pza)); refine blk_far ?_ NB449_454.out _; (with_reducible repeat (first | apply pzN | apply pzd | apply pza)); refine blk_far ?_ NB449_454.out _; (with_reducible repeat (first | apply pzN | apply pzd | apply pza)); exact BK449.out) hb); replace BK455 := zM (blk_below (g := gb455) (o := .cells #[.int .i64 t452, .int .i64 t453] 29 (0, 0)) (by (with_reducible repeat (first | apply pzN | apply pzd | apply pza)); refine blk_put (cs := #[.int .i64 t452, .int .i64 0]) ?_ 1 _ rfl; (with_reducible repeat (first | apply pzN | apply pzd | apply pza)); refine blk_put (cs := #[.int .i64 0, .int .i64 0]) ?_ 0 _ rfl; (with_reducible repeat (first | apply pzN | apply pzd | apply pza)); refine blk_far ?_ NB455_454.out _; (with_reducible repeat (first | apply pzN | apply pzd | apply pza)); refine blk_far ?_ NB455_454.out _; (with_reducible repeat (first | apply pzN | apply pzd | apply pza)); exact BK455.out) hb); replace HB := zM (below_step (by repeat (first | (with_reducible first | exact HB.out | apply pzA | apply pzD | apply pz1 | apply pzs | assumption) | exact HB.out)) hb); (try clear hb); (try clear hb2); (try clear hk); (try clear hi)) | ((with_reducible refine gate_dst (N := 26) rfl ?_); refine box_event ?hg (N := 26) ?hd (cs := #[.int .u64 0, .int .u64 0]) (t := 27) ?hr ?_; (case hd => rfl); (case hg => rfl); (case hr => first | (go_simp; done) | (go_simp; rfl)); intro gb460 hg w245 hbox hb; have BK460 := zM (hbox); have GW460 := zM ((by rw [hg]; exact (below_size (by repeat (first | (with_reducible first | exact HB.out | apply pzA | apply pzD | apply pz1 | apply pzs | assumption) | exact HB.out))) : w.heap.size ≤ gb460)); have GE460 := GW460; have NB426_460 := pzf BK426 hg; have NB460_426 := pzg BK426 hg; have NB449_460 := pzf BK449 hg; have NB460_449 := pzg BK449 hg; have NB455_460 := pzf BK455 hg; have NB460_455 := pzg BK455 hg; replace BK426 := pzb BK426 hb; replace BK449 := pzb BK449 hb; replace BK455 := pzb BK455 hb; replace HB := zM (below_step (by repeat (first | (with_reducible first | exact HB.out | apply pzA | apply pzD | apply pz1 | apply pzs | assumption) | exact HB.out)) hb); clear hb hbox hg) | ((with_reducible refine gate_dst (N := 27) rfl ?_); refine box_event ?hg (N := 27) ?hd (cs := #[.int .i64 0, .int .i64 0]) (t := 29) ?hr ?_; (case hd => rfl); (case hg => rfl); (case hr => first | (go_simp; done) | (go_simp; rfl)); intro gb461 hg w246 hbox hb; have BK461 := zM (hbox); have GW461 := zM ((by rw [hg]; exact (below_size (by repeat (first | (with_reducible first | exact HB.out | apply pzA | apply pzD | apply pz1 | apply pzs | assumption) | exact HB.out))) : w.heap.size ≤ gb461)); have GE461 := GW461; have NB426_461 := pzf BK426 hg; have NB461_426 := pzg BK426 hg; have NB449_461 := pzf BK449 hg; have NB461_449 := pzg BK449 hg; have NB455_461 := pzf BK455 hg; have NB461_455 := pzg BK455 hg; have NB460_461 := pzf BK460 hg; have NB461_460 := pzg BK460 hg; replace BK426 := pzb BK426 hb; replace BK449 := pzb BK449 hb; replace BK455 := pzb BK455 hb; replace BK460 := pzb BK460 hb; replace HB := zM (below_step (by repeat (first | (with_reducible first | exact HB.out | apply pzA | apply pzD | apply pz1 | apply pzs | assumption) | exact HB.out)) hb); clear hb hbox hg; have hnb249 := NB460_426.out; have hnc249 := NB426_460.out; have hnb252 := NB460_449.out; have hnc252 := NB449_460.out; have hnb254 := NB460_455.out; have hnc254 := NB455_460.out; have hnb255 := NB460_461.out; have hnc255 := NB461_460.out; have hcz256_0 := pzc (v := .int .u64 0) BK460 0 rfl; have hcz256_1 := pzc (v := .int .u64 0) BK460 1 rfl; have hfz256_0 := zF BK460.out 0; have hfz256_1 := zF BK460.out 1; have hnb259 := NB461_426.out; have hnc259 := NB426_461.out; have hnb262 := NB461_449.out; have hnc262 := NB449_461.out; have hnb264 := NB461_455.out; have hnc264 := NB455_461.out; have hcz265_0 := pzc (v := .int .i64 0) BK461 0 rfl; have hcz265_1 := pzc (v := .int .i64 0) BK461 1 rfl; have hfz265_0 := zF BK461.out 0; have hfz265_1 := zF BK461.out 1; have hcz266_0 := pzc (v := .int .u64 t422) BK426 0 rfl; have hcz266_1 := pzc (v := .int .u64 t423) BK426 1 rfl; have hfz266_0 := zF BK426.out 0; have hfz266_1 := zF BK426.out 1) | ((with_reducible refine gate_callee (f := 9) rfl ?_); refine goesL_ (some 177) rfl rfl Try.func9 (by kernel_rfl) rfl #[.agg #[.int .u64 t422, .int .u64 t423]] rfl (by (try simp only [zT, zC, zN]); first | done | rfl | (simp only [zR, zL]; rfl)) ?_; (with_reducible refine (random_Next.calls t422 t423 t462 t463 t464 t465 t466 _ A194.out).mono ?_); rintro e w267 ⟨rfl, hb⟩; refine ⟨_, rfl, ?_⟩; replace BK449 := zM (blk_below (g := gb449) (o := .cells #[.int .i64 t446, .int .i64 t447] 29 (0, 0)) (by (with_reducible repeat (first | apply pzN | apply pzd | apply pza)); refine blk_far ?_ NB449_461.out _; (with_reducible repeat (first | apply pzN | apply pzd | apply pza)); refine blk_far ?_ NB449_461.out _; (with_reducible repeat (first | apply pzN | apply pzd | apply pza)); refine blk_far ?_ NB449_460.out _; (with_reducible repeat (first | apply pzN | apply pzd | apply pza)); refine blk_far ?_ NB449_460.out _; (with_reducible repeat (first | apply pzN | apply pzd | apply pza)); exact BK449.out) hb); replace BK455 := zM (blk_below (g := gb455) (o := .cells #[.int .i64 t452, .int .i64 t453] 29 (0, 0)) (by (with_reducible repeat (first | apply pzN | apply pzd | apply pza)); refine blk_far ?_ NB455_461.out _; (with_reducible repeat (first | apply pzN | apply pzd | apply pza)); refine blk_far ?_ NB455_461.out _; (with_reducible repeat (first | apply pzN | apply pzd | apply pza)); refine blk_far ?_ NB455_460.out _; (with_reducible repeat (first | apply pzN | apply pzd | apply pza)); refine blk_far ?_ NB455_460.out _; (with_reducible repeat (first | apply pzN | apply pzd | apply pza)); exact BK455.out) hb); replace BK461 := zM (blk_below (g := gb461) (o := .cells #[.int .i64 t458, .int .i64 t459] 29 (0, 0)) (by (with_reducible repeat (first | apply pzN | apply pzd | apply pza)); refine blk_put (cs := #[.int .i64 t458, .int .i64 0]) ?_ 1 _ rfl; (with_reducible repeat (first | apply pzN | apply pzd | apply pza)); refine blk_put (cs := #[.int .i64 0, .int .i64 0]) ?_ 0 _ rfl; (with_reducible repeat (first | apply pzN | apply pzd | apply pza)); refine blk_far ?_ NB461_460.out _; (with_reducible repeat (first | apply pzN | apply pzd | apply pza)); refine blk_far ?_ NB461_460.out _; (with_reducible repeat (first | apply pzN | apply pzd | apply pza)); exact BK461.out) hb); replace HB := zM (below_step (by repeat (first | (with_reducible first | exact HB.out | apply pzA | apply pzD | apply pz1 | apply pzs | assumption) | exact HB.out)) hb); (try clear hb); (try clear hb2); (try clear hk); (try clear hi)) | ((with_reducible refine gate_dst (N := 29) rfl ?_); refine box_event ?hg (N := 29) ?hd (cs := #[.int .u64 0, .int .u64 0]) (t := 27) ?hr ?_; (case hd => rfl); (case hg => rfl); (case hr => first | (go_simp; done) | (go_simp; rfl)); intro gb467 hg w268 hbox hb; have BK467 := zM (hbox); have GW467 := zM ((by rw [hg]; exact (below_size (by repeat (first | (with_reducible first | exact HB.out | apply pzA | apply pzD | apply pz1 | apply pzs | assumption) | exact HB.out))) : w.heap.size ≤ gb467)); have GE467 := GW467; have NB449_467 := pzf BK449 hg; have NB467_449 := pzg BK449 hg; have NB455_467 := pzf BK455 hg; have NB467_455 := pzg BK455 hg; have NB461_467 := pzf BK461 hg; have NB467_461 := pzg BK461 hg; replace BK449 := pzb BK449 hb; replace BK455 := pzb BK455 hb; replace BK461 := pzb BK461 hb; replace HB := zM (below_step (by repeat (first | (with_reducible first | exact HB.out | apply pzA | apply pzD | apply pz1 | apply pzs | assumption) | exact HB.out)) hb); clear hb hbox hg) | ((with_reducible refine gate_dst (N := 30) rfl ?_); refine box_event ?hg (N := 30) ?hd (cs := #[.int .i64 0, .int .i64 0]) (t := 29) ?hr ?_; (case hd => rfl); (case hg => rfl); (case hr => first | (go_simp; done) | (go_simp; rfl)); intro gb468 hg w269 hbox hb; have BK468 := zM (hbox); have GW468 := zM ((by rw [hg]; exact (below_size (by repeat (first | (with_reducible first | exact HB.out | apply pzA | apply pzD | apply pz1 | apply pzs | assumption) | exact HB.out))) : w.heap.size ≤ gb468)); have GE468 := GW468; have NB449_468 := pzf BK449 hg; have NB468_449 := pzg BK449 hg; have NB455_468 := pzf BK455 hg; have NB468_455 := pzg BK455 hg; have NB461_468 := pzf BK461 hg; have NB468_461 := pzg BK461 hg; have NB467_468 := pzf BK467 hg; have NB468_467 := pzg BK467 hg; replace BK449 := pzb BK449 hb; replace BK455 := pzb BK455 hb; replace BK461 := pzb BK461 hb; replace BK467 := pzb BK467 hb; replace HB := zM (below_step (by repeat (first | (with_reducible first | exact HB.out | apply pzA | apply pzD | apply pz1 | apply pzs | assumption) | exact HB.out)) hb); clear hb hbox hg; have hnb275 := NB467_449.out; have hnc275 := NB449_467.out; have hnb277 := NB467_455.out; have hnc277 := NB455_467.out; have hnb279 := NB467_461.out; have hnc279 := NB461_467.out; have hnb280 := NB467_468.out; have hnc280 := NB468_467.out; have hcz281_0 := pzc (v := .int .u64 0) BK467 0 rfl; have hcz281_1 := pzc (v := .int .u64 0) BK467 1 rfl; have hfz281_0 := zF BK467.out 0; have hfz281_1 := zF BK467.out 1; have hnb287 := NB468_449.out; have hnc287 := NB449_468.out; have hnb289 := NB468_455.out; have hnc289 := NB455_468.out; have hnb291 := NB468_461.out; have hnc291 := NB461_468.out; have hcz292_0 := pzc (v := .int .i64 0) BK468 0 rfl; have hcz292_1 := pzc (v := .int .i64 0) BK468 1 rfl; have hfz292_0 := zF BK468.out 0; have hfz292_1 := zF BK468.out 1; have hcz293_0 := pzc (v := .int .i64 t446) BK449 0 rfl; have hcz293_1 := pzc (v := .int .i64 t447) BK449 1 rfl; have hfz293_0 := zF BK449.out 0; have hfz293_1 := zF BK449.out 1; have hcz294_0 := pzc (v := .int .i64 t452) BK455 0 rfl; have hcz294_1 := pzc (v := .int .i64 t453) BK455 1 rfl; have hfz294_0 := zF BK455.out 0; have hfz294_1 := zF BK455.out 1; have hcz295_0 := pzc (v := .int .i64 t458) BK461 0 rfl; have hcz295_1 := pzc (v := .int .i64 t459) BK461 1 rfl; have hfz295_0 := zF BK461.out 0; have hfz295_1 := zF BK461.out 1))
                    go_ret
                    exact ⟨by first | rfl | (simp [errW_none, errW_some] <;> rfl) | (simp [*, errW_none, errW_some] <;> rfl), by repeat (first | (with_reducible first | exact HB.out | apply pzA | apply pzD | apply pz1 | apply pzs | assumption) | exact HB.out)⟩
                   ·rw [if_neg c200] at H
                    have c200b0 : ((IntKind.u64.wrap (a2 + 1)) == 0) = false := beq_eq_false_iff_ne.mpr c200
                    have c200b1 : ((IntKind.u64.wrap (a2 + 1)) != 0) = true := bne_iff_ne.mpr c200
                    obtain rfl := Option.some.inj H
                    have hnb296 := NB420_402.out
                    have hnc296 := NB402_420.out
                    have hnb297 := NB420_426.out
                    have hnc297 := NB426_420.out
                    have hnb298 := NB420_437.out
                    have hnc298 := NB437_420.out
                    have hcz299_0 := pzc (v := .int .u64 t416) BK420 0 rfl
                    have hcz299_1 := pzc (v := .int .u64 t417) BK420 1 rfl
                    have hfz299_0 := zF BK420.out 0
                    have hfz299_1 := zF BK420.out 1
                    have hnb300 := NB437_402.out
                    have hnc300 := NB402_437.out
                    have hnb301 := NB437_426.out
                    have hnc301 := NB426_437.out
                    have hcz302_0 := pzc (v := .int .u64 x438000_2) BK437 0 rfl
                    have hcz302_1 := pzc (v := .int .u64 x438001_2) BK437 1 rfl
                    have hfz302_0 := zF BK437.out 0
                    have hfz302_1 := zF BK437.out 1
                    have hnb303 := NB426_402.out
                    have hnc303 := NB402_426.out
                    have hcz304_0 := pzc (v := .int .u64 t422) BK426 0 rfl
                    have hcz304_1 := pzc (v := .int .u64 t423) BK426 1 rfl
                    have hfz304_0 := zF BK426.out 0
                    have hfz304_1 := zF BK426.out 1
                    go_wp2_with (first | ((with_reducible refine gate_callee (f := 10) rfl ?_); refine goesL_ (some 157) rfl rfl Try.func10 (by kernel_rfl) rfl #[.agg #[.int .u64 t422, .int .u64 t423], .int .u64 a3] rfl (by (try simp only [zT, zC, zN]); first | done | rfl | (simp only [zR, zL]; rfl)) ?_; (with_reducible refine (random_Skip.calls k2 t422 t423 a3 t444 t445 t446 t447 _ A191.out).mono ?_); rintro e w305 ⟨rfl, hb⟩; refine ⟨_, rfl, ?_⟩; replace BK402 := pzb BK402 hb; replace BK426 := pzb BK426 hb; replace HB := zM (below_step (by repeat (first | (with_reducible first | exact HB.out | apply pzA | apply pzD | apply pz1 | apply pzs | assumption) | exact HB.out)) hb); (try clear hb); (try clear hb2); (try clear hk); (try clear hi)) | ((with_reducible refine gate_dst (N := 22) rfl ?_); refine box_event ?hg (N := 22) ?hd (cs := #[.int .u64 0, .int .u64 0]) (t := 27) ?hr ?_; (case hd => rfl); (case hg => rfl); (case hr => first | (go_simp; done) | (go_simp; rfl)); intro gb448 hg w306 hbox hb; have BK448 := zM (hbox); have GW448 := zM ((by rw [hg]; exact (below_size (by repeat (first | (with_reducible first | exact HB.out | apply pzA | apply pzD | apply pz1 | apply pzs | assumption) | exact HB.out))) : w.heap.size ≤ gb448)); have GE448 := GW448; have NB402_448 := pzf BK402 hg; have NB448_402 := pzg BK402 hg; have NB426_448 := pzf BK426 hg; have NB448_426 := pzg BK426 hg; replace BK402 := pzb BK402 hb; replace BK426 := pzb BK426 hb; replace HB := zM (below_step (by repeat (first | (with_reducible first | exact HB.out | apply pzA | apply pzD | apply pz1 | apply pzs | assumption) | exact HB.out)) hb); clear hb hbox hg) | ((with_reducible refine gate_dst (N := 23) rfl ?_); refine box_event ?hg (N := 23) ?hd (cs := #[.int .i64 0, .int .i64 0]) (t := 29) ?hr ?_; (case hd => rfl); (case hg => rfl); (case hr => first | (go_simp; done) | (go_simp; rfl)); intro gb449 hg w307 hbox hb; have BK449 := zM (hbox); have GW449 := zM ((by rw [hg]; exact (below_size (by repeat (first | (with_reducible first | exact HB.out | apply pzA | apply pzD | apply pz1 | apply pzs | assumption) | exact HB.out))) : w.heap.size ≤ gb449)); have GE449 := GW449; have NB402_449 := pzf BK402 hg; have NB449_402 := pzg BK402 hg; have NB426_449 := pzf BK426 hg; have NB449_426 := pzg BK426 hg; have NB448_449 := pzf BK448 hg; have NB449_448 := pzg BK448 hg; replace BK402 := pzb BK402 hb; replace BK426 := pzb BK426 hb; replace BK448 := pzb BK448 hb; replace HB := zM (below_step (by repeat (first | (with_reducible first | exact HB.out | apply pzA | apply pzD | apply pz1 | apply pzs | assumption) | exact HB.out)) hb); clear hb hbox hg; have hnb308 := NB448_402.out; have hnc308 := NB402_448.out; have hnb310 := NB448_426.out; have hnc310 := NB426_448.out; have hnb312 := NB448_449.out; have hnc312 := NB449_448.out; have hcz313_0 := pzc (v := .int .u64 0) BK448 0 rfl; have hcz313_1 := pzc (v := .int .u64 0) BK448 1 rfl; have hfz313_0 := zF BK448.out 0; have hfz313_1 := zF BK448.out 1; have hnb314 := NB449_402.out; have hnc314 := NB402_449.out; have hnb316 := NB449_426.out; have hnc316 := NB426_449.out; have hcz318_0 := pzc (v := .int .i64 0) BK449 0 rfl; have hcz318_1 := pzc (v := .int .i64 0) BK449 1 rfl; have hfz318_0 := zF BK449.out 0; have hfz318_1 := zF BK449.out 1; have hcz319_0 := pzc (v := .int .u64 a1_0) BK402 0 rfl; have hcz319_1 := pzc (v := .int .u64 a1_1) BK402 1 rfl; have hfz319_0 := zF BK402.out 0; have hfz319_1 := zF BK402.out 1) | ((with_reducible refine gate_callee (f := 10) rfl ?_); refine goesL_ (some 165) rfl rfl Try.func10 (by kernel_rfl) rfl #[.agg #[.int .u64 a1_0, .int .u64 a1_1], .int .u64 (IntKind.u64.wrap (a2 + a3))] rfl (by (try simp only [zT, zC, zN]); first | done | rfl | (simp only [zR, zL]; rfl)) ?_; (with_reducible refine (random_Skip.calls k2 a1_0 a1_1 (IntKind.u64.wrap (a2 + a3)) t450 t451 t452 t453 _ A192.out).mono ?_); rintro e w320 ⟨rfl, hb⟩; refine ⟨_, rfl, ?_⟩; replace BK402 := zM (blk_below (g := gb402) (o := .cells #[.int .u64 a1_0, .int .u64 a1_1] 27 (0, 0)) (by (with_reducible repeat (first | apply pzN | apply pzd | apply pza)); refine blk_far ?_ NB402_449.out _; (with_reducible repeat (first | apply pzN | apply pzd | apply pza)); refine blk_far ?_ NB402_449.out _; (with_reducible repeat (first | apply pzN | apply pzd | apply pza)); refine blk_far ?_ NB402_448.out _; (with_reducible repeat (first | apply pzN | apply pzd | apply pza)); refine blk_far ?_ NB402_448.out _; (with_reducible repeat (first | apply pzN | apply pzd | apply pza)); exact BK402.out) hb); replace BK426 := zM (blk_below (g := gb426) (o := .cells #[.int .u64 t422, .int .u64 t423] 27 (0, 0)) (by (with_reducible repeat (first | apply pzN | apply pzd | apply pza)); refine blk_far ?_ NB426_449.out _; (with_reducible repeat (first | apply pzN | apply pzd | apply pza)); refine blk_far ?_ NB426_449.out _; (with_reducible repeat (first | apply pzN | apply pzd | apply pza)); refine blk_far ?_ NB426_448.out _; (with_reducible repeat (first | apply pzN | apply pzd | apply pza)); refine blk_far ?_ NB426_448.out _; (with_reducible repeat (first | apply pzN | apply pzd | apply pza)); exact BK426.out) hb); replace BK449 := zM (blk_below (g := gb449) (o := .cells #[.int .i64 t446, .int .i64 t447] 29 (0, 0)) (by (with_reducible repeat (first | apply pzN | apply pzd | apply pza)); refine blk_put (cs := #[.int .i64 t446, .int .i64 0]) ?_ 1 _ rfl; (with_reducible repeat (first | apply pzN | apply pzd | apply pza)); refine blk_put (cs := #[.int .i64 0, .int .i64 0]) ?_ 0 _ rfl; (with_reducible repeat (first | apply pzN | apply pzd | apply pza)); refine blk_far ?_ NB449_448.out _; (with_reducible repeat (first | apply pzN | apply pzd | apply pza)); refine blk_far ?_ NB449_448.out _; (with_reducible repeat (first | apply pzN | apply pzd | apply pza)); exact BK449.out) hb); replace HB := zM (below_step (by repeat (first | (with_reducible first | exact HB.out | apply pzA | apply pzD | apply pz1 | apply pzs | assumption) | exact HB.out)) hb); (try clear hb); (try clear hb2); (try clear hk); (try clear hi)) | ((with_reducible refine gate_dst (N := 24) rfl ?_); refine box_event ?hg (N := 24) ?hd (cs := #[.int .u64 0, .int .u64 0]) (t := 27) ?hr ?_; (case hd => rfl); (case hg => rfl); (case hr => first | (go_simp; done) | (go_simp; rfl)); intro gb454 hg w321 hbox hb; have BK454 := zM (hbox); have GW454 := zM ((by rw [hg]; exact (below_size (by repeat (first | (with_reducible first | exact HB.out | apply pzA | apply pzD | apply pz1 | apply pzs | assumption) | exact HB.out))) : w.heap.size ≤ gb454)); have GE454 := GW454; have NB402_454 := pzf BK402 hg; have NB454_402 := pzg BK402 hg; have NB426_454 := pzf BK426 hg; have NB454_426 := pzg BK426 hg; have NB449_454 := pzf BK449 hg; have NB454_449 := pzg BK449 hg; replace BK402 := pzb BK402 hb; replace BK426 := pzb BK426 hb; replace BK449 := pzb BK449 hb; replace HB := zM (below_step (by repeat (first | (with_reducible first | exact HB.out | apply pzA | apply pzD | apply pz1 | apply pzs | assumption) | exact HB.out)) hb); clear hb hbox hg) | ((with_reducible refine gate_dst (N := 25) rfl ?_); refine box_event ?hg (N := 25) ?hd (cs := #[.int .i64 0, .int .i64 0]) (t := 29) ?hr ?_; (case hd => rfl); (case hg => rfl); (case hr => first | (go_simp; done) | (go_simp; rfl)); intro gb455 hg w322 hbox hb; have BK455 := zM (hbox); have GW455 := zM ((by rw [hg]; exact (below_size (by repeat (first | (with_reducible first | exact HB.out | apply pzA | apply pzD | apply pz1 | apply pzs | assumption) | exact HB.out))) : w.heap.size ≤ gb455)); have GE455 := GW455; have NB402_455 := pzf BK402 hg; have NB455_402 := pzg BK402 hg; have NB426_455 := pzf BK426 hg; have NB455_426 := pzg BK426 hg; have NB449_455 := pzf BK449 hg; have NB455_449 := pzg BK449 hg; have NB454_455 := pzf BK454 hg; have NB455_454 := pzg BK454 hg; replace BK402 := pzb BK402 hb; replace BK426 := pzb BK426 hb; replace BK449 := pzb BK449 hb; replace BK454 := pzb BK454 hb; replace HB := zM (below_step (by repeat (first | (with_reducible first | exact HB.out | apply pzA | apply pzD | apply pz1 | apply pzs | assumption) | exact HB.out)) hb); clear hb hbox hg; have hnb323 := NB454_402.out; have hnc323 := NB402_454.out; have hnb325 := NB454_426.out; have hnc325 := NB426_454.out; have hnb328 := NB454_449.out; have hnc328 := NB449_454.out; have hnb329 := NB454_455.out; have hnc329 := NB455_454.out; have hcz330_0 := pzc (v := .int .u64 0) BK454 0 rfl; have hcz330_1 := pzc (v := .int .u64 0) BK454 1 rfl; have hfz330_0 := zF BK454.out 0; have hfz330_1 := zF BK454.out 1; have hnb331 := NB455_402.out; have hnc331 := NB402_455.out; have hnb333 := NB455_426.out; have hnc333 := NB426_455.out; have hnb336 := NB455_449.out; have hnc336 := NB449_455.out; have hcz337_0 := pzc (v := .int .i64 0) BK455 0 rfl; have hcz337_1 := pzc (v := .int .i64 0) BK455 1 rfl; have hfz337_0 := zF BK455.out 0; have hfz337_1 := zF BK455.out 1; have hcz338_0 := pzc (v := .int .u64 a1_0) BK402 0 rfl; have hcz338_1 := pzc (v := .int .u64 a1_1) BK402 1 rfl; have hfz338_0 := zF BK402.out 0; have hfz338_1 := zF BK402.out 1) | ((with_reducible refine gate_callee (f := 10) rfl ?_); refine goesL_ (some 172) rfl rfl Try.func10 (by kernel_rfl) rfl #[.agg #[.int .u64 a1_0, .int .u64 a1_1], .int .u64 (IntKind.u64.wrap (a2 + 1))] rfl (by (try simp only [zT, zC, zN]); first | done | rfl | (simp only [zR, zL]; rfl)) ?_; (with_reducible refine (random_Skip.calls k2 a1_0 a1_1 (IntKind.u64.wrap (a2 + 1)) t456 t457 t458 t459 _ A193.out).mono ?_); rintro e w339 ⟨rfl, hb⟩; refine ⟨_, rfl, ?_⟩; replace BK426 := zM (blk_below (g := gb426) (o := .cells #[.int .u64 t422, .int .u64 t423] 27 (0, 0)) (by (with_reducible repeat (first | apply pzN | apply pzd | apply pza)); refine blk_far ?_ NB426_455.out _; (with_reducible repeat (first | apply pzN | apply pzd | apply pza)); refine blk_far ?_ NB426_455.out _; (with_reducible repeat (first | apply pzN | apply pzd | apply pza)); refine blk_far ?_ NB426_454.out _; (with_reducible repeat (first | apply pzN | apply pzd | apply pza)); refine blk_far ?_ NB426_454.out _; (with_reducible repeat (first | apply pzN | apply pzd | apply pza)); exact BK426.out) hb); replace BK449 := zM (blk_below (g := gb449) (o := .cells #[.int .i64 t446, .int .i64 t447] 29 (0, 0)) (by (with_reducible repeat (first | apply pzN | apply pzd | apply pza)); refine blk_far ?_ NB449_455.out _; (with_reducible repeat (first | apply pzN | apply pzd | apply pza)); refine blk_far ?_ NB449_455.out _; (with_reducible repeat (first | apply pzN | apply pzd | apply pza)); refine blk_far ?_ NB449_454.out _; (with_reducible repeat (first | apply pzN | apply pzd | apply pza)); refine blk_far ?_ NB449_454.out _; (with_reducible repeat (first | apply pzN | apply pzd | apply pza)); exact BK449.out) hb); replace BK455 := zM (blk_below (g := gb455) (o := .cells #[.int .i64 t452, .int .i64 t453] 29 (0, 0)) (by (with_reducible repeat (first | apply pzN | apply pzd | apply pza)); refine blk_put (cs := #[.int .i64 t452, .int .i64 0]) ?_ 1 _ rfl; (with_reducible repeat (first | apply pzN | apply pzd | apply pza)); refine blk_put (cs := #[.int .i64 0, .int .i64 0]) ?_ 0 _ rfl; (with_reducible repeat (first | apply pzN | apply pzd | apply pza)); refine blk_far ?_ NB455_454.out _; (with_reducible repeat (first | apply pzN | apply pzd | apply pza)); refine blk_far ?_ NB455_454.out _; (with_reducible repeat (first | apply pzN | apply pzd | apply pza)); exact BK455.out) hb); replace HB := zM (below_step (by repeat (first | (with_reducible first | exact HB.out | apply pzA | apply pzD | apply pz1 | apply pzs | assumption) | exact HB.out)) hb); (try clear hb); (try clear hb2); (try clear hk); (try clear hi)) | ((with_reducible refine gate_dst (N := 26) rfl ?_); refine box_event ?hg (N := 26) ?hd (cs := #[.int .u64 0, .int .u64 0]) (t := 27) ?hr ?_; (case hd => rfl); (case hg => rfl); (case hr => first | (go_simp; done) | (go_simp; rfl)); intro gb460 hg w340 hbox hb; have BK460 := zM (hbox); have GW460 := zM ((by rw [hg]; exact (below_size (by repeat (first | (with_reducible first | exact HB.out | apply pzA | apply pzD | apply pz1 | apply pzs | assumption) | exact HB.out))) : w.heap.size ≤ gb460)); have GE460 := GW460; have NB426_460 := pzf BK426 hg; have NB460_426 := pzg BK426 hg; have NB449_460 := pzf BK449 hg; have NB460_449 := pzg BK449 hg; have NB455_460 := pzf BK455 hg; have NB460_455 := pzg BK455 hg; replace BK426 := pzb BK426 hb; replace BK449 := pzb BK449 hb; replace BK455 := pzb BK455 hb; replace HB := zM (below_step (by repeat (first | (with_reducible first | exact HB.out | apply pzA | apply pzD | apply pz1 | apply pzs | assumption) | exact HB.out)) hb); clear hb hbox hg) | ((with_reducible refine gate_dst (N := 27) rfl ?_); refine box_event ?hg (N := 27) ?hd (cs := #[.int .i64 0, .int .i64 0]) (t := 29) ?hr ?_; (case hd => rfl); (case hg => rfl); (case hr => first | (go_simp; done) | (go_simp; rfl)); intro gb461 hg w341 hbox hb; have BK461 := zM (hbox); have GW461 := zM ((by rw [hg]; exact (below_size (by repeat (first | (with_reducible first | exact HB.out | apply pzA | apply pzD | apply pz1 | apply pzs | assumption) | exact HB.out))) : w.heap.size ≤ gb461)); have GE461 := GW461; have NB426_461 := pzf BK426 hg; have NB461_426 := pzg BK426 hg; have NB449_461 := pzf BK449 hg; have NB461_449 := pzg BK449 hg; have NB455_461 := pzf BK455 hg; have NB461_455 := pzg BK455 hg; have NB460_461 := pzf BK460 hg; have NB461_460 := pzg BK460 hg; replace BK426 := pzb BK426 hb; replace BK449 := pzb BK449 hb; replace BK455 := pzb BK455 hb; replace BK460 := pzb BK460 hb; replace HB := zM (below_step (by repeat (first | (with_reducible first | exact HB.out | apply pzA | apply pzD | apply pz1 | apply pzs | assumption) | exact HB.out)) hb); clear hb hbox hg; have hnb344 := NB460_426.out; have hnc344 := NB426_460.out; have hnb347 := NB460_449.out; have hnc347 := NB449_460.out; have hnb349 := NB460_455.out; have hnc349 := NB455_460.out; have hnb350 := NB460_461.out; have hnc350 := NB461_460.out; have hcz351_0 := pzc (v := .int .u64 0) BK460 0 rfl; have hcz351_1 := pzc (v := .int .u64 0) BK460 1 rfl; have hfz351_0 := zF BK460.out 0; have hfz351_1 := zF BK460.out 1; have hnb354 := NB461_426.out; have hnc354 := NB426_461.out; have hnb357 := NB461_449.out; have hnc357 := NB449_461.out; have hnb359 := NB461_455.out; have hnc359 := NB455_461.out; have hcz360_0 := pzc (v := .int .i64 0) BK461 0 rfl; have hcz360_1 := pzc (v := .int .i64 0) BK461 1 rfl; have hfz360_0 := zF BK461.out 0; have hfz360_1 := zF BK461.out 1; have hcz361_0 := pzc (v := .int .u64 t422) BK426 0 rfl; have hcz361_1 := pzc (v := .int .u64 t423) BK426 1 rfl; have hfz361_0 := zF BK426.out 0; have hfz361_1 := zF BK426.out 1) | ((with_reducible refine gate_callee (f := 9) rfl ?_); refine goesL_ (some 177) rfl rfl Try.func9 (by kernel_rfl) rfl #[.agg #[.int .u64 t422, .int .u64 t423]] rfl (by (try simp only [zT, zC, zN]); first | done | rfl | (simp only [zR, zL]; rfl)) ?_; (with_reducible refine (random_Next.calls t422 t423 t462 t463 t464 t465 t466 _ A194.out).mono ?_); rintro e w362 ⟨rfl, hb⟩; refine ⟨_, rfl, ?_⟩; replace BK449 := zM (blk_below (g := gb449) (o := .cells #[.int .i64 t446, .int .i64 t447] 29 (0, 0)) (by (with_reducible repeat (first | apply pzN | apply pzd | apply pza)); refine blk_far ?_ NB449_461.out _; (with_reducible repeat (first | apply pzN | apply pzd | apply pza)); refine blk_far ?_ NB449_461.out _; (with_reducible repeat (first | apply pzN | apply pzd | apply pza)); refine blk_far ?_ NB449_460.out _; (with_reducible repeat (first | apply pzN | apply pzd | apply pza)); refine blk_far ?_ NB449_460.out _; (with_reducible repeat (first | apply pzN | apply pzd | apply pza)); exact BK449.out) hb); replace BK455 := zM (blk_below (g := gb455) (o := .cells #[.int .i64 t452, .int .i64 t453] 29 (0, 0)) (by (with_reducible repeat (first | apply pzN | apply pzd | apply pza)); refine blk_far ?_ NB455_461.out _; (with_reducible repeat (first | apply pzN | apply pzd | apply pza)); refine blk_far ?_ NB455_461.out _; (with_reducible repeat (first | apply pzN | apply pzd | apply pza)); refine blk_far ?_ NB455_460.out _; (with_reducible repeat (first | apply pzN | apply pzd | apply pza)); refine blk_far ?_ NB455_460.out _; (with_reducible repeat (first | apply pzN | apply pzd | apply pza)); exact BK455.out) hb); replace BK460 := zM (blk_below (g := gb460) (o := .cells #[.int .u64 t456, .int .u64 t457] 27 (0, 0)) (by (with_reducible repeat (first | apply pzN | apply pzd | apply pza)); refine blk_far ?_ NB460_461.out _; (with_reducible repeat (first | apply pzN | apply pzd | apply pza)); refine blk_far ?_ NB460_461.out _; (with_reducible repeat (first | apply pzN | apply pzd | apply pza)); refine blk_put (cs := #[.int .u64 t456, .int .u64 0]) ?_ 1 _ rfl; (with_reducible repeat (first | apply pzN | apply pzd | apply pza)); refine blk_put (cs := #[.int .u64 0, .int .u64 0]) ?_ 0 _ rfl; (with_reducible repeat (first | apply pzN | apply pzd | apply pza)); exact BK460.out) hb); replace BK461 := zM (blk_below (g := gb461) (o := .cells #[.int .i64 t458, .int .i64 t459] 29 (0, 0)) (by (with_reducible repeat (first | apply pzN | apply pzd | apply pza)); refine blk_put (cs := #[.int .i64 t458, .int .i64 0]) ?_ 1 _ rfl; (with_reducible repeat (first | apply pzN | apply pzd | apply pza)); refine blk_put (cs := #[.int .i64 0, .int .i64 0]) ?_ 0 _ rfl; (with_reducible repeat (first | apply pzN | apply pzd | apply pza)); refine blk_far ?_ NB461_460.out _; (with_reducible repeat (first | apply pzN | apply pzd | apply pza)); refine blk_far ?_ NB461_460.out _; (with_reducible repeat (first | apply pzN | apply pzd | apply pza)); exact BK461.out) hb); replace HB := zM (below_step (by repeat (first | (with_reducible first | exact HB.out | apply pzA | apply pzD | apply pz1 | apply pzs | assumption) | exact HB.out)) hb); (try clear hb); (try clear hb2); (try clear hk); (try clear hi)) | ((with_reducible refine gate_dst (N := 29) rfl ?_); refine box_event ?hg (N := 29) ?hd (cs := #[.int .u64 0, .int .u64 0]) (t := 27) ?hr ?_; (case hd => rfl); (case hg => rfl); (case hr => first | (go_simp; done) | (go_simp; rfl)); intro gb467 hg w363 hbox hb; have BK467 := zM (hbox); have GW467 := zM ((by rw [hg]; exact (below_size (by repeat (first | (with_reducible first | exact HB.out | apply pzA | apply pzD | apply pz1 | apply pzs | assumption) | exact HB.out))) : w.heap.size ≤ gb467)); have GE467 := GW467; have NB449_467 := pzf BK449 hg; have NB467_449 := pzg BK449 hg; have NB455_467 := pzf BK455 hg; have NB467_455 := pzg BK455 hg; have NB460_467 := pzf BK460 hg; have NB467_460 := pzg BK460 hg; have NB461_467 := pzf BK461 hg; have NB467_461 := pzg BK461 hg; replace BK449 := pzb BK449 hb; replace BK455 := pzb BK455 hb; replace BK460 := pzb BK460 hb; replace BK461 := pzb BK461 hb; replace HB := zM (below_step (by repeat (first | (with_reducible first | exact HB.out | apply pzA | apply pzD | apply pz1 | apply pzs | assumption) | exact HB.out)) hb); clear hb hbox hg) | ((with_reducible refine gate_dst (N := 30) rfl ?_); refine box_event ?hg (N := 30) ?hd (cs := #[.int .i64 0, .int .i64 0]) (t := 29) ?hr ?_; (case hd => rfl); (case hg => rfl); (case hr => first | (go_simp; done) | (go_simp; rfl)); intro gb468 hg w364 hbox hb; have BK468 := zM (hbox); have GW468 := zM ((by rw [hg]; exact (below_size (by repeat (first | (with_reducible first | exact HB.out | apply pzA | apply pzD | apply pz1 | apply pzs | assumption) | exact HB.out))) : w.heap.size ≤ gb468)); have GE468 := GW468; have NB449_468 := pzf BK449 hg; have NB468_449 := pzg BK449 hg; have NB455_468 := pzf BK455 hg; have NB468_455 := pzg BK455 hg; have NB460_468 := pzf BK460 hg; have NB468_460 := pzg BK460 hg; have NB461_468 := pzf BK461 hg; have NB468_461 := pzg BK461 hg; have NB467_468 := pzf BK467 hg; have NB468_467 := pzg BK467 hg; replace BK449 := pzb BK449 hb; replace BK455 := pzb BK455 hb; replace BK460 := pzb BK460 hb; replace BK461 := pzb BK461 hb; replace BK467 := pzb BK467 hb; replace HB := zM (below_step (by repeat (first | (with_reducible first | exact HB.out | apply pzA | apply pzD | apply pz1 | apply pzs | assumption) | exact HB.out)) hb); clear hb hbox hg; have hnb370 := NB467_449.out; have hnc370 := NB449_467.out; have hnb372 := NB467_455.out; have hnc372 := NB455_467.out; have hnb373 := NB467_460.out; have hnc373 := NB460_467.out; have hnb374 := NB467_461.out; have hnc374 := NB461_467.out; have hnb375 := NB467_468.out; have hnc375 := NB468_467.out; have hcz376_0 := pzc (v := .int .u64 0) BK467 0 rfl; have hcz376_1 := pzc (v := .int .u64 0) BK467 1 rfl; have hfz376_0 := zF BK467.out 0; have hfz376_1 := zF BK467.out 1; have hnb382 := NB468_449.out; have hnc382 := NB449_468.out; have hnb384 := NB468_455.out; have hnc384 := NB455_468.out; have hnb385 := NB468_460.out; have hnc385 := NB460_468.out; have hnb386 := NB468_461.out; have hnc386 := NB461_468.out; have hcz387_0 := pzc (v := .int .i64 0) BK468 0 rfl; have hcz387_1 := pzc (v := .int .i64 0) BK468 1 rfl; have hfz387_0 := zF BK468.out 0; have hfz387_1 := zF BK468.out 1; have hcz388_0 := pzc (v := .int .i64 t446) BK449 0 rfl; have hcz388_1 := pzc (v := .int .i64 t447) BK449 1 rfl; have hfz388_0 := zF BK449.out 0; have hfz388_1 := zF BK449.out 1; have hcz389_0 := pzc (v := .int .i64 t452) BK455 0 rfl; have hcz389_1 := pzc (v := .int .i64 t453) BK455 1 rfl; have hfz389_0 := zF BK455.out 0; have hfz389_1 := zF BK455.out 1; have hcz390_0 := pzc (v := .int .i64 t458) BK461 0 rfl; have hcz390_1 := pzc (v := .int .i64 t459) BK461 1 rfl; have hfz390_0 := zF BK461.out 0; have hfz390_1 := zF BK461.out 1; have hcz391_0 := pzc (v := .int .u64 t456) BK460 0 rfl; have hcz391_1 := pzc (v := .int .u64 t457) BK460 1 rfl; have hfz391_0 := zF BK460.out 0; have hfz391_1 := zF BK460.out 1))
                    go_ret
                    exact ⟨by first | rfl | (simp [errW_none, errW_some] <;> rfl) | (simp [*, errW_none, errW_some] <;> rfl), by repeat (first | (with_reducible first | exact HB.out | apply pzA | apply pzD | apply pz1 | apply pzs | assumption) | exact HB.out)⟩
                  ·rw [if_neg c199] at H
                   have c199b0 : decide ((IntKind.u64.wrap (a2 + a3)) < a2) = false := decide_eq_false c199
                   clear c199
                   by_cases c392 : (t444 == t450 && (t445 == t451)) = true
                   ·rw [if_pos c392] at H
                    have c392b0 : (t444 == t450 && (t445 == t451)) = true := c392
                    (try (have c392b1 : decide (t444 = t450 && (t445 == t451)) = true := by simpa using c392))
                    (try (have c392b2 : (t444 == t450 && (t445 == t451)) = true := by simpa using c392))
                    clear c392
                    by_cases c393 : (IntKind.u64.wrap (a2 + 1)) = 0
                    ·rw [if_pos c393] at H
                     have c393b0 : ((IntKind.u64.wrap (a2 + 1)) == 0) = true := beq_iff_eq.mpr c393
                     have c393b1 : ((IntKind.u64.wrap (a2 + 1)) != 0) = false := bne_eq_false_iff_eq.mpr c393
                     clear c393
                     obtain rfl := Option.some.inj H
                     have hnb394 := NB420_402.out
                     have hnc394 := NB402_420.out
                     have hnb395 := NB420_426.out
                     have hnc395 := NB426_420.out
                     have hnb396 := NB420_437.out
                     have hnc396 := NB437_420.out
                     have hcz397_0 := pzc (v := .int .u64 t416) BK420 0 rfl
                     have hcz397_1 := pzc (v := .int .u64 t417) BK420 1 rfl
                     have hfz397_0 := zF BK420.out 0
                     have hfz397_1 := zF BK420.out 1
                     have hnb398 := NB437_402.out
                     have hnc398 := NB402_437.out
                     have hnb399 := NB437_426.out
                     have hnc399 := NB426_437.out
                     have hcz400_0 := pzc (v := .int .u64 x438000_2) BK437 0 rfl
                     have hcz400_1 := pzc (v := .int .u64 x438001_2) BK437 1 rfl
                     have hfz400_0 := zF BK437.out 0
                     have hfz400_1 := zF BK437.out 1
                     have hnb401 := NB426_402.out
                     have hnc401 := NB402_426.out
                     have hcz402_0 := pzc (v := .int .u64 t422) BK426 0 rfl
                     have hcz402_1 := pzc (v := .int .u64 t423) BK426 1 rfl
                     have hfz402_0 := zF BK426.out 0
                     have hfz402_1 := zF BK426.out 1
                     go_wp2_with (first | ((with_reducible refine gate_callee (f := 10) rfl ?_); refine goesL_ (some 157) rfl rfl Try.func10 (by kernel_rfl) rfl #[.agg #[.int .u64 t422, .int .u64 t423], .int .u64 a3] rfl (by (try simp only [zT, zC, zN]); first | done | rfl | (simp only [zR, zL]; rfl)) ?_; (with_reducible refine (random_Skip.calls k2 t422 t423 a3 t444 t445 t446 t447 _ A191.out).mono ?_); rintro e w403 ⟨rfl, hb⟩; refine ⟨_, rfl, ?_⟩; replace BK402 := pzb BK402 hb; replace BK426 := pzb BK426 hb; replace HB := zM (below_step (by repeat (first | (with_reducible first | exact HB.out | apply pzA | apply pzD | apply pz1 | apply pzs | assumption) | exact HB.out)) hb); (try clear hb); (try clear hb2); (try clear hk); (try clear hi)) | ((with_reducible refine gate_dst (N := 22) rfl ?_); refine box_event ?hg (N := 22) ?hd (cs := #[.int .u64 0, .int .u64 0]) (t := 27) ?hr ?_; (case hd => rfl); (case hg => rfl); (case hr => first | (go_simp; done) | (go_simp; rfl)); intro gb448 hg w404 hbox hb; have BK448 := zM (hbox); have GW448 := zM ((by rw [hg]; exact (below_size (by repeat (first | (with_reducible first | exact HB.out | apply pzA | apply pzD | apply pz1 | apply pzs | assumption) | exact HB.out))) : w.heap.size ≤ gb448)); have GE448 := GW448; have NB402_448 := pzf BK402 hg; have NB448_402 := pzg BK402 hg; have NB426_448 := pzf BK426 hg; have NB448_426 := pzg BK426 hg; replace BK402 := pzb BK402 hb; replace BK426 := pzb BK426 hb; replace HB := zM (below_step (by repeat (first | (with_reducible first | exact HB.out | apply pzA | apply pzD | apply pz1 | apply pzs | assumption) | exact HB.out)) hb); clear hb hbox hg) | ((with_reducible refine gate_dst (N := 23) rfl ?_); refine box_event ?hg (N := 23) ?hd (cs := #[.int .i64 0, .int .i64 0]) (t := 29) ?hr ?_; (case hd => rfl); (case hg => rfl); (case hr => first | (go_simp; done) | (go_simp; rfl)); intro gb449 hg w405 hbox hb; have BK449 := zM (hbox); have GW449 := zM ((by rw [hg]; exact (below_size (by repeat (first | (with_reducible first | exact HB.out | apply pzA | apply pzD | apply pz1 | apply pzs | assumption) | exact HB.out))) : w.heap.size ≤ gb449)); have GE449 := GW449; have NB402_449 := pzf BK402 hg; have NB449_402 := pzg BK402 hg; have NB426_449 := pzf BK426 hg; have NB449_426 := pzg BK426 hg; have NB448_449 := pzf BK448 hg; have NB449_448 := pzg BK448 hg; replace BK402 := pzb BK402 hb; replace BK426 := pzb BK426 hb; replace BK448 := pzb BK448 hb; replace HB := zM (below_step (by repeat (first | (with_reducible first | exact HB.out | apply pzA | apply pzD | apply pz1 | apply pzs | assumption) | exact HB.out)) hb); clear hb hbox hg; have hnb406 := NB448_402.out; have hnc406 := NB402_448.out; have hnb408 := NB448_426.out; have hnc408 := NB426_448.out; have hnb410 := NB448_449.out; have hnc410 := NB449_448.out; have hcz411_0 := pzc (v := .int .u64 0) BK448 0 rfl; have hcz411_1 := pzc (v := .int .u64 0) BK448 1 rfl; have hfz411_0 := zF BK448.out 0; have hfz411_1 := zF BK448.out 1; have hnb412 := NB449_402.out; have hnc412 := NB402_449.out; have hnb414 := NB449_426.out; have hnc414 := NB426_449.out; have hcz416_0 := pzc (v := .int .i64 0) BK449 0 rfl; have hcz416_1 := pzc (v := .int .i64 0) BK449 1 rfl; have hfz416_0 := zF BK449.out 0; have hfz416_1 := zF BK449.out 1; have hcz417_0 := pzc (v := .int .u64 a1_0) BK402 0 rfl; have hcz417_1 := pzc (v := .int .u64 a1_1) BK402 1 rfl; have hfz417_0 := zF BK402.out 0; have hfz417_1 := zF BK402.out 1) | ((with_reducible refine gate_callee (f := 10) rfl ?_); refine goesL_ (some 165) rfl rfl Try.func10 (by kernel_rfl) rfl #[.agg #[.int .u64 a1_0, .int .u64 a1_1], .int .u64 (IntKind.u64.wrap (a2 + a3))] rfl (by (try simp only [zT, zC, zN]); first | done | rfl | (simp only [zR, zL]; rfl)) ?_; (with_reducible refine (random_Skip.calls k2 a1_0 a1_1 (IntKind.u64.wrap (a2 + a3)) t450 t451 t452 t453 _ A192.out).mono ?_); rintro e w418 ⟨rfl, hb⟩; refine ⟨_, rfl, ?_⟩; replace BK402 := zM (blk_below (g := gb402) (o := .cells #[.int .u64 a1_0, .int .u64 a1_1] 27 (0, 0)) (by (with_reducible repeat (first | apply pzN | apply pzd | apply pza)); refine blk_far ?_ NB402_449.out _; (with_reducible repeat (first | apply pzN | apply pzd | apply pza)); refine blk_far ?_ NB402_449.out _; (with_reducible repeat (first | apply pzN | apply pzd | apply pza)); refine blk_far ?_ NB402_448.out _; (with_reducible repeat (first | apply pzN | apply pzd | apply pza)); refine blk_far ?_ NB402_448.out _; (with_reducible repeat (first | apply pzN | apply pzd | apply pza)); exact BK402.out) hb); replace BK426 := zM (blk_below (g := gb426) (o := .cells #[.int .u64 t422, .int .u64 t423] 27 (0, 0)) (by (with_reducible repeat (first | apply pzN | apply pzd | apply pza)); refine blk_far ?_ NB426_449.out _; (with_reducible repeat (first | apply pzN | apply pzd | apply pza)); refine blk_far ?_ NB426_449.out _; (with_reducible repeat (first | apply pzN | apply pzd | apply pza)); refine blk_far ?_ NB426_448.out _; (with_reducible repeat (first | apply pzN | apply pzd | apply pza)); refine blk_far ?_ NB426_448.out _; (with_reducible repeat (first | apply pzN | apply pzd | apply pza)); exact BK426.out) hb); replace BK448 := zM (blk_below (g := gb448) (o := .cells #[.int .u64 t444, .int .u64 t445] 27 (0, 0)) (by (with_reducible repeat (first | apply pzN | apply pzd | apply pza)); refine blk_far ?_ NB448_449.out _; (with_reducible repeat (first | apply pzN | apply pzd | apply pza)); refine blk_far ?_ NB448_449.out _; (with_reducible repeat (first | apply pzN | apply pzd | apply pza)); refine blk_put (cs := #[.int .u64 t444, .int .u64 0]) ?_ 1 _ rfl; (with_reducible repeat (first | apply pzN | apply pzd | apply pza)); refine blk_put (cs := #[.int .u64 0, .int .u64 0]) ?_ 0 _ rfl; (with_reducible repeat (first | apply pzN | apply pzd | apply pza)); exact BK448.out) hb); replace BK449 := zM (blk_below (g := gb449) (o := .cells #[.int .i64 t446, .int .i64 t447] 29 (0, 0)) (by (with_reducible repeat (first | apply pzN | apply pzd | apply pza)); refine blk_put (cs := #[.int .i64 t446, .int .i64 0]) ?_ 1 _ rfl; (with_reducible repeat (first | apply pzN | apply pzd | apply pza)); refine blk_put (cs := #[.int .i64 0, .int .i64 0]) ?_ 0 _ rfl; (with_reducible repeat (first | apply pzN | apply pzd | apply pza)); refine blk_far ?_ NB449_448.out _; (with_reducible repeat (first | apply pzN | apply pzd | apply pza)); refine blk_far ?_ NB449_448.out _; (with_reducible repeat (first | apply pzN | apply pzd | apply pza)); exact BK449.out) hb); replace HB := zM (below_step (by repeat (first | (with_reducible first | exact HB.out | apply pzA | apply pzD | apply pz1 | apply pzs | assumption) | exact HB.out)) hb); (try clear hb); (try clear hb2); (try clear hk); (try clear hi)) | ((with_reducible refine gate_dst (N := 24) rfl ?_); refine box_event ?hg (N := 24) ?hd (cs := #[.int .u64 0, .int .u64 0]) (t := 27) ?hr ?_; (case hd => rfl); (case hg => rfl); (case hr => first | (go_simp; done) | (go_simp; rfl)); intro gb454 hg w419 hbox hb; have BK454 := zM (hbox); have GW454 := zM ((by rw [hg]; exact (below_size (by repeat (first | (with_reducible first | exact HB.out | apply pzA | apply pzD | apply pz1 | apply pzs | assumption) | exact HB.out))) : w.heap.size ≤ gb454)); have GE454 := GW454; have NB402_454 := pzf BK402 hg; have NB454_402 := pzg BK402 hg; have NB426_454 := pzf BK426 hg; have NB454_426 := pzg BK426 hg; have NB448_454 := pzf BK448 hg; have NB454_448 := pzg BK448 hg; have NB449_454 := pzf BK449 hg; have NB454_449 := pzg BK449 hg; replace BK402 := pzb BK402 hb; replace BK426 := pzb BK426 hb; replace BK448 := pzb BK448 hb; replace BK449 := pzb BK449 hb; replace HB := zM (below_step (by repeat (first | (with_reducible first | exact HB.out | apply pzA | apply pzD | apply pz1 | apply pzs | assumption) | exact HB.out)) hb); clear hb hbox hg) | ((with_reducible refine gate_dst (N := 25) rfl ?_); refine box_event ?hg (N := 25) ?hd (cs := #[.int .i64 0, .int .i64 0]) (t := 29) ?hr ?_; (case hd => rfl); (case hg => rfl); (case hr => first | (go_simp; done) | (go_simp; rfl)); intro gb455 hg w420 hbox hb; have BK455 := zM (hbox); have GW455 := zM ((by rw [hg]; exact (below_size (by repeat (first | (with_reducible first | exact HB.out | apply pzA | apply pzD | apply pz1 | apply pzs | assumption) | exact HB.out))) : w.heap.size ≤ gb455)); have GE455 := GW455; have NB402_455 := pzf BK402 hg; have NB455_402 := pzg BK402 hg; have NB426_455 := pzf BK426 hg; have NB455_426 := pzg BK426 hg; have NB448_455 := pzf BK448 hg; have NB455_448 := pzg BK448 hg; have NB449_455 := pzf BK449 hg; have NB455_449 := pzg BK449 hg; have NB454_455 := pzf BK454 hg; have NB455_454 := pzg BK454 hg; replace BK402 := pzb BK402 hb; replace BK426 := pzb BK426 hb; replace BK448 := pzb BK448 hb; replace BK449 := pzb BK449 hb; replace BK454 := pzb BK454 hb; replace HB := zM (below_step (by repeat (first | (with_reducible first | exact HB.out | apply pzA | apply pzD | apply pz1 | apply pzs | assumption) | exact HB.out)) hb); clear hb hbox hg; have hnb421 := NB454_402.out; have hnc421 := NB402_454.out; have hnb423 := NB454_426.out; have hnc423 := NB426_454.out; have hnb425 := NB454_448.out; have hnc425 := NB448_454.out; have hnb426 := NB454_449.out; have hnc426 := NB449_454.out; have hnb427 := NB454_455.out; have hnc427 := NB455_454.out; have hcz428_0 := pzc (v := .int .u64 0) BK454 0 rfl; have hcz428_1 := pzc (v := .int .u64 0) BK454 1 rfl; have hfz428_0 := zF BK454.out 0; have hfz428_1 := zF BK454.out 1; have hnb429 := NB455_402.out; have hnc429 := NB402_455.out; have hnb431 := NB455_426.out; have hnc431 := NB426_455.out; have hnb433 := NB455_448.out; have hnc433 := NB448_455.out; have hnb434 := NB455_449.out; have hnc434 := NB449_455.out; have hcz435_0 := pzc (v := .int .i64 0) BK455 0 rfl; have hcz435_1 := pzc (v := .int .i64 0) BK455 1 rfl; have hfz435_0 := zF BK455.out 0; have hfz435_1 := zF BK455.out 1; have hcz436_0 := pzc (v := .int .u64 a1_0) BK402 0 rfl; have hcz436_1 := pzc (v := .int .u64 a1_1) BK402 1 rfl; have hfz436_0 := zF BK402.out 0; have hfz436_1 := zF BK402.out 1) | ((with_reducible refine gate_callee (f := 10) rfl ?_); refine goesL_ (some 172) rfl rfl Try.func10 (by kernel_rfl) rfl #[.agg #[.int .u64 a1_0, .int .u64 a1_1], .int .u64 (IntKind.u64.wrap (a2 + 1))] rfl (by (try simp only [zT, zC, zN]); first | done | rfl | (simp only [zR, zL]; rfl)) ?_; (with_reducible refine (random_Skip.calls k2 a1_0 a1_1 (IntKind.u64.wrap (a2 + 1)) t456 t457 t458 t459 _ A193.out).mono ?_); rintro e w437 ⟨rfl, hb⟩; refine ⟨_, rfl, ?_⟩; replace BK426 := zM (blk_below (g := gb426) (o := .cells #[.int .u64 t422, .int .u64 t423] 27 (0, 0)) (by (with_reducible repeat (first | apply pzN | apply pzd | apply pza)); refine blk_far ?_ NB426_455.out _; (with_reducible repeat (first | apply pzN | apply pzd | apply pza)); refine blk_far ?_ NB426_455.out _; (with_reducible repeat (first | apply pzN | apply pzd | apply pza)); refine blk_far ?_ NB426_454.out _; (with_reducible repeat (first | apply pzN | apply pzd | apply pza)); refine blk_far ?_ NB426_454.out _; (with_reducible repeat (first | apply pzN | apply pzd | apply pza)); exact BK426.out) hb); replace BK448 := zM (blk_below (g := gb448) (o := .cells #[.int .u64 t444, .int .u64 t445] 27 (0, 0)) (by (with_reducible repeat (first | apply pzN | apply pzd | apply pza)); refine blk_far ?_ NB448_455.out _; (with_reducible repeat (first | apply pzN | apply pzd | apply pza)); refine blk_far ?_ NB448_455.out _; (with_reducible repeat (first | apply pzN | apply pzd | apply pza)); refine blk_far ?_ NB448_454.out _; (with_reducible repeat (first | apply pzN | apply pzd | apply pza)); refine blk_far ?_ NB448_454.out _; (with_reducible repeat (first | apply pzN | apply pzd | apply pza)); exact BK448.out) hb); replace BK449 := zM (blk_below (g := gb449) (o := .cells #[.int .i64 t446, .int .i64 t447] 29 (0, 0)) (by (with_reducible repeat (first | apply pzN | apply pzd | apply pza)); refine blk_far ?_ NB449_455.out _; (with_reducible repeat (first | apply pzN | apply pzd | apply pza)); refine blk_far ?_ NB449_455.out _; (with_reducible repeat (first | apply pzN | apply pzd | apply pza)); refine blk_far ?_ NB449_454.out _; (with_reducible repeat (first | apply pzN | apply pzd | apply pza)); refine blk_far ?_ NB449_454.out _; (with_reducible repeat (first | apply pzN | apply pzd | apply pza)); exact BK449.out) hb); replace BK454 := zM (blk_below (g := gb454) (o := .cells #[.int .u64 t450, .int .u64 t451] 27 (0, 0)) (by (with_reducible repeat (first | apply pzN | apply pzd | apply pza)); refine blk_far ?_ NB454_455.out _; (with_reducible repeat (first | apply pzN | apply pzd | apply pza)); refine blk_far ?_ NB454_455.out _; (with_reducible repeat (first | apply pzN | apply pzd | apply pza)); refine blk_put (cs := #[.int .u64 t450, .int .u64 0]) ?_ 1 _ rfl; (with_reducible repeat (first | apply pzN | apply pzd | apply pza)); refine blk_put (cs := #[.int .u64 0, .int .u64 0]) ?_ 0 _ rfl; (with_reducible repeat (first | apply pzN | apply pzd | apply pza)); exact BK454.out) hb); replace BK455 := zM (blk_below (g := gb455) (o := .cells #[.int .i64 t452, .int .i64 t453] 29 (0, 0)) (by (with_reducible repeat (first | apply pzN | apply pzd | apply pza)); refine blk_put (cs := #[.int .i64 t452, .int .i64 0]) ?_ 1 _ rfl; (with_reducible repeat (first | apply pzN | apply pzd | apply pza)); refine blk_put (cs := #[.int .i64 0, .int .i64 0]) ?_ 0 _ rfl; (with_reducible repeat (first | apply pzN | apply pzd | apply pza)); refine blk_far ?_ NB455_454.out _; (with_reducible repeat (first | apply pzN | apply pzd | apply pza)); refine blk_far ?_ NB455_454.out _; (with_reducible repeat (first | apply pzN | apply pzd | apply pza)); exact BK455.out) hb); replace HB := zM (below_step (by repeat (first | (with_reducible first | exact HB.out | apply pzA | apply pzD | apply pz1 | apply pzs | assumption) | exact HB.out)) hb); (try clear hb); (try clear hb2); (try clear hk); (try clear hi)) | ((with_reducible refine gate_dst (N := 26) rfl ?_); refine box_event ?hg (N := 26) ?hd (cs := #[.int .u64 0, .int .u64 0]) (t := 27) ?hr ?_; (case hd => rfl); (case hg => rfl); (case hr => first | (go_simp; done) | (go_simp; rfl)); intro gb460 hg w438 hbox hb; have BK460 := zM (hbox); have GW460 := zM ((by rw [hg]; exact (below_size (by repeat (first | (with_reducible first | exact HB.out | apply pzA | apply pzD | apply pz1 | apply pzs | assumption) | exact HB.out))) : w.heap.size ≤ gb460)); have GE460 := GW460; have NB426_460 := pzf BK426 hg; have NB460_426 := pzg BK426 hg; have NB448_460 := pzf BK448 hg; have NB460_448 := pzg BK448 hg; have NB449_460 := pzf BK449 hg; have NB460_449 := pzg BK449 hg; have NB454_460 := pzf BK454 hg; have NB460_454 := pzg BK454 hg; have NB455_460 := pzf BK455 hg; have NB460_455 := pzg BK455 hg; replace BK426 := pzb BK426 hb; replace BK448 := pzb BK448 hb; replace BK449 := pzb BK449 hb; replace BK454 := pzb BK454 hb; replace BK455 := pzb BK455 hb; replace HB := zM (below_step (by repeat (first | (with_reducible first | exact HB.out | apply pzA | apply pzD | apply pz1 | apply pzs | assumption) | exact HB.out)) hb); clear hb hbox hg) | ((with_reducible refine gate_dst (N := 27) rfl ?_); refine box_event ?hg (N := 27) ?hd (cs := #[.int .i64 0, .int .i64 0]) (t := 29) ?hr ?_; (case hd => rfl); (case hg => rfl); (case hr => first | (go_simp; done) | (go_simp; rfl)); intro gb461 hg w439 hbox hb; have BK461 := zM (hbox); have GW461 := zM ((by rw [hg]; exact (below_size (by repeat (first | (with_reducible first | exact HB.out | apply pzA | apply pzD | apply pz1 | apply pzs | assumption) | exact HB.out))) : w.heap.size ≤ gb461)); have GE461 := GW461; have NB426_461 := pzf BK426 hg; have NB461_426 := pzg BK426 hg; have NB448_461 := pzf BK448 hg; have NB461_448 := pzg BK448 hg; have NB449_461 := pzf BK449 hg; have NB461_449 := pzg BK449 hg; have NB454_461 := pzf BK454 hg; have NB461_454 := pzg BK454 hg; have NB455_461 := pzf BK455 hg; have NB461_455 := pzg BK455 hg; have NB460_461 := pzf BK460 hg; have NB461_460 := pzg BK460 hg; replace BK426 := pzb BK426 hb; replace BK448 := pzb BK448 hb; replace BK449 := pzb BK449 hb; replace BK454 := pzb BK454 hb; replace BK455 := pzb BK455 hb; replace BK460 := pzb BK460 hb; replace HB := zM (below_step (by repeat (first | (with_reducible first | exact HB.out | apply pzA | apply pzD | apply pz1 | apply pzs | assumption) | exact HB.out)) hb); clear hb hbox hg; have hnb442 := NB460_426.out; have hnc442 := NB426_460.out; have hnb444 := NB460_448.out; have hnc444 := NB448_460.out; have hnb445 := NB460_449.out; have hnc445 := NB449_460.out; have hnb446 := NB460_454.out; have hnc446 := NB454_460.out; have hnb447 := NB460_455.out; have hnc447 := NB455_460.out; have hnb448 := NB460_461.out; have hnc448 := NB461_460.out; have hcz449_0 := pzc (v := .int .u64 0) BK460 0 rfl; have hcz449_1 := pzc (v := .int .u64 0) BK460 1 rfl; have hfz449_0 := zF BK460.out 0; have hfz449_1 := zF BK460.out 1; have hnb452 := NB461_426.out; have hnc452 := NB426_461.out; have hnb454 := NB461_448.out; have hnc454 := NB448_461.out; have hnb455 := NB461_449.out; have hnc455 := NB449_461.out; have hnb456 := NB461_454.out; have hnc456 := NB454_461.out; have hnb457 := NB461_455.out; have hnc457 := NB455_461.out; have hcz458_0 := pzc (v := .int .i64 0) BK461 0 rfl; have hcz458_1 := pzc (v := .int .i64 0) BK461 1 rfl; have hfz458_0 := zF BK461.out 0; have hfz458_1 := zF BK461.out 1; have hcz459_0 := pzc (v := .int .u64 t422) BK426 0 rfl; have hcz459_1 := pzc (v := .int .u64 t423) BK426 1 rfl; have hfz459_0 := zF BK426.out 0; have hfz459_1 := zF BK426.out 1) | ((with_reducible refine gate_callee (f := 9) rfl ?_); refine goesL_ (some 177) rfl rfl Try.func9 (by kernel_rfl) rfl #[.agg #[.int .u64 t422, .int .u64 t423]] rfl (by (try simp only [zT, zC, zN]); first | done | rfl | (simp only [zR, zL]; rfl)) ?_; (with_reducible refine (random_Next.calls t422 t423 t462 t463 t464 t465 t466 _ A194.out).mono ?_); rintro e w460 ⟨rfl, hb⟩; refine ⟨_, rfl, ?_⟩; replace BK448 := zM (blk_below (g := gb448) (o := .cells #[.int .u64 t444, .int .u64 t445] 27 (0, 0)) (by (with_reducible repeat (first | apply pzN | apply pzd | apply pza)); refine blk_far ?_ NB448_461.out _; (with_reducible repeat (first | apply pzN | apply pzd | apply pza)); refine blk_far ?_ NB448_461.out _; (with_reducible repeat (first | apply pzN | apply pzd | apply pza)); refine blk_far ?_ NB448_460.out _; (with_reducible repeat (first | apply pzN | apply pzd | apply pza)); refine blk_far ?_ NB448_460.out _; (with_reducible repeat (first | apply pzN | apply pzd | apply pza)); exact BK448.out) hb); replace BK449 := zM (blk_below (g := gb449) (o := .cells #[.int .i64 t446, .int .i64 t447] 29 (0, 0)) (by (with_reducible repeat (first | apply pzN | apply pzd | apply pza)); refine blk_far ?_ NB449_461.out _; (with_reducible repeat (first | apply pzN | apply pzd | apply pza)); refine blk_far ?_ NB449_461.out _; (with_reducible repeat (first | apply pzN | apply pzd | apply pza)); refine blk_far ?_ NB449_460.out _; (with_reducible repeat (first | apply pzN | apply pzd | apply pza)); refine blk_far ?_ NB449_460.out _; (with_reducible repeat (first | apply pzN | apply pzd | apply pza)); exact BK449.out) hb); replace BK454 := zM (blk_below (g := gb454) (o := .cells #[.int .u64 t450, .int .u64 t451] 27 (0, 0)) (by (with_reducible repeat (first | apply pzN | apply pzd | apply pza)); refine blk_far ?_ NB454_461.out _; (with_reducible repeat (first | apply pzN | apply pzd | apply pza)); refine blk_far ?_ NB454_461.out _; (with_reducible repeat (first | apply pzN | apply pzd | apply pza)); refine blk_far ?_ NB454_460.out _; (with_reducible repeat (first | apply pzN | apply pzd | apply pza)); refine blk_far ?_ NB454_460.out _; (with_reducible repeat (first | apply pzN | apply pzd | apply pza)); exact BK454.out) hb); replace BK455 := zM (blk_below (g := gb455) (o := .cells #[.int .i64 t452, .int .i64 t453] 29 (0, 0)) (by (with_reducible repeat (first | apply pzN | apply pzd | apply pza)); refine blk_far ?_ NB455_461.out _; (with_reducible repeat (first | apply pzN | apply pzd | apply pza)); refine blk_far ?_ NB455_461.out _; (with_reducible repeat (first | apply pzN | apply pzd | apply pza)); refine blk_far ?_ NB455_460.out _; (with_reducible repeat (first | apply pzN | apply pzd | apply pza)); refine blk_far ?_ NB455_460.out _; (with_reducible repeat (first | apply pzN | apply pzd | apply pza)); exact BK455.out) hb); replace BK461 := zM (blk_below (g := gb461) (o := .cells #[.int .i64 t458, .int .i64 t459] 29 (0, 0)) (by (with_reducible repeat (first | apply pzN | apply pzd | apply pza)); refine blk_put (cs := #[.int .i64 t458, .int .i64 0]) ?_ 1 _ rfl; (with_reducible repeat (first | apply pzN | apply pzd | apply pza)); refine blk_put (cs := #[.int .i64 0, .int .i64 0]) ?_ 0 _ rfl; (with_reducible repeat (first | apply pzN | apply pzd | apply pza)); refine blk_far ?_ NB461_460.out _; (with_reducible repeat (first | apply pzN | apply pzd | apply pza)); refine blk_far ?_ NB461_460.out _; (with_reducible repeat (first | apply pzN | apply pzd | apply pza)); exact BK461.out) hb); replace HB := zM (below_step (by repeat (first | (with_reducible first | exact HB.out | apply pzA | apply pzD | apply pz1 | apply pzs | assumption) | exact HB.out)) hb); (try clear hb); (try clear hb2); (try clear hk); (try clear hi)) | ((with_reducible refine gate_dst (N := 29) rfl ?_); refine box_event ?hg (N := 29) ?hd (cs := #[.int .u64 0, .int .u64 0]) (t := 27) ?hr ?_; (case hd => rfl); (case hg => rfl); (case hr => first | (go_simp; done) | (go_simp; rfl)); intro gb467 hg w461 hbox hb; have BK467 := zM (hbox); have GW467 := zM ((by rw [hg]; exact (below_size (by repeat (first | (with_reducible first | exact HB.out | apply pzA | apply pzD | apply pz1 | apply pzs | assumption) | exact HB.out))) : w.heap.size ≤ gb467)); have GE467 := GW467; have NB448_467 := pzf BK448 hg; have NB467_448 := pzg BK448 hg; have NB449_467 := pzf BK449 hg; have NB467_449 := pzg BK449 hg; have NB454_467 := pzf BK454 hg; have NB467_454 := pzg BK454 hg; have NB455_467 := pzf BK455 hg; have NB467_455 := pzg BK455 hg; have NB461_467 := pzf BK461 hg; have NB467_461 := pzg BK461 hg; replace BK448 := pzb BK448 hb; replace BK449 := pzb BK449 hb; replace BK454 := pzb BK454 hb; replace BK455 := pzb BK455 hb; replace BK461 := pzb BK461 hb; replace HB := zM (below_step (by repeat (first | (with_reducible first | exact HB.out | apply pzA | apply pzD | apply pz1 | apply pzs | assumption) | exact HB.out)) hb); clear hb hbox hg) | ((with_reducible refine gate_dst (N := 30) rfl ?_); refine box_event ?hg (N := 30) ?hd (cs := #[.int .i64 0, .int .i64 0]) (t := 29) ?hr ?_; (case hd => rfl); (case hg => rfl); (case hr => first | (go_simp; done) | (go_simp; rfl)); intro gb468 hg w462 hbox hb; have BK468 := zM (hbox); have GW468 := zM ((by rw [hg]; exact (below_size (by repeat (first | (with_reducible first | exact HB.out | apply pzA | apply pzD | apply pz1 | apply pzs | assumption) | exact HB.out))) : w.heap.size ≤ gb468)); have GE468 := GW468; have NB448_468 := pzf BK448 hg; have NB468_448 := pzg BK448 hg; have NB449_468 := pzf BK449 hg; have NB468_449 := pzg BK449 hg; have NB454_468 := pzf BK454 hg; have NB468_454 := pzg BK454 hg; have NB455_468 := pzf BK455 hg; have NB468_455 := pzg BK455 hg; have NB461_468 := pzf BK461 hg; have NB468_461 := pzg BK461 hg; have NB467_468 := pzf BK467 hg; have NB468_467 := pzg BK467 hg; replace BK448 := pzb BK448 hb; replace BK449 := pzb BK449 hb; replace BK454 := pzb BK454 hb; replace BK455 := pzb BK455 hb; replace BK461 := pzb BK461 hb; replace BK467 := pzb BK467 hb; replace HB := zM (below_step (by repeat (first | (with_reducible first | exact HB.out | apply pzA | apply pzD | apply pz1 | apply pzs | assumption) | exact HB.out)) hb); clear hb hbox hg; have hnb467 := NB467_448.out; have hnc467 := NB448_467.out; have hnb468 := NB467_449.out; have hnc468 := NB449_467.out; have hnb469 := NB467_454.out; have hnc469 := NB454_467.out; have hnb470 := NB467_455.out; have hnc470 := NB455_467.out; have hnb472 := NB467_461.out; have hnc472 := NB461_467.out; have hnb473 := NB467_468.out; have hnc473 := NB468_467.out; have hcz474_0 := pzc (v := .int .u64 0) BK467 0 rfl; have hcz474_1 := pzc (v := .int .u64 0) BK467 1 rfl; have hfz474_0 := zF BK467.out 0; have hfz474_1 := zF BK467.out 1; have hnb479 := NB468_448.out; have hnc479 := NB448_468.out; have hnb480 := NB468_449.out; have hnc480 := NB449_468.out; have hnb481 := NB468_454.out; have hnc481 := NB454_468.out; have hnb482 := NB468_455.out; have hnc482 := NB455_468.out; have hnb484 := NB468_461.out; have hnc484 := NB461_468.out; have hcz485_0 := pzc (v := .int .i64 0) BK468 0 rfl; have hcz485_1 := pzc (v := .int .i64 0) BK468 1 rfl; have hfz485_0 := zF BK468.out 0; have hfz485_1 := zF BK468.out 1; have hcz486_0 := pzc (v := .int .i64 t446) BK449 0 rfl; have hcz486_1 := pzc (v := .int .i64 t447) BK449 1 rfl; have hfz486_0 := zF BK449.out 0; have hfz486_1 := zF BK449.out 1; have hcz487_0 := pzc (v := .int .i64 t452) BK455 0 rfl; have hcz487_1 := pzc (v := .int .i64 t453) BK455 1 rfl; have hfz487_0 := zF BK455.out 0; have hfz487_1 := zF BK455.out 1; have hcz488_0 := pzc (v := .int .i64 t458) BK461 0 rfl; have hcz488_1 := pzc (v := .int .i64 t459) BK461 1 rfl; have hfz488_0 := zF BK461.out 0; have hfz488_1 := zF BK461.out 1; have hcz489_0 := pzc (v := .int .u64 t444) BK448 0 rfl; have hcz489_1 := pzc (v := .int .u64 t445) BK448 1 rfl; have hfz489_0 := zF BK448.out 0; have hfz489_1 := zF BK448.out 1; have hcz490_0 := pzc (v := .int .u64 t450) BK454 0 rfl; have hcz490_1 := pzc (v := .int .u64 t451) BK454 1 rfl; have hfz490_0 := zF BK454.out 0; have hfz490_1 := zF BK454.out 1))
                     go_ret
                     exact ⟨by first | rfl | (simp [errW_none, errW_some] <;> rfl) | (simp [*, errW_none, errW_some] <;> rfl), by repeat (first | (with_reducible first | exact HB.out | apply pzA | apply pzD | apply pz1 | apply pzs | assumption) | exact HB.out)⟩
                    ·rw [if_neg c393] at H
                     have c393b0 : ((IntKind.u64.wrap (a2 + 1)) == 0) = false := beq_eq_false_iff_ne.mpr c393
                     have c393b1 : ((IntKind.u64.wrap (a2 + 1)) != 0) = true := bne_iff_ne.mpr c393
                     obtain rfl := Option.some.inj H
                     have hnb491 := NB420_402.out
                     have hnc491 := NB402_420.out
                     have hnb492 := NB420_426.out
                     have hnc492 := NB426_420.out
                     have hnb493 := NB420_437.out
                     have hnc493 := NB437_420.out
                     have hcz494_0 := pzc (v := .int .u64 t416) BK420 0 rfl
                     have hcz494_1 := pzc (v := .int .u64 t417) BK420 1 rfl
                     have hfz494_0 := zF BK420.out 0
                     have hfz494_1 := zF BK420.out 1
                     have hnb495 := NB437_402.out
                     have hnc495 := NB402_437.out
                     have hnb496 := NB437_426.out
                     have hnc496 := NB426_437.out
                     have hcz497_0 := pzc (v := .int .u64 x438000_2) BK437 0 rfl
                     have hcz497_1 := pzc (v := .int .u64 x438001_2) BK437 1 rfl
                     have hfz497_0 := zF BK437.out 0
                     have hfz497_1 := zF BK437.out 1
                     have hnb498 := NB426_402.out
                     have hnc498 := NB402_426.out
                     have hcz499_0 := pzc (v := .int .u64 t422) BK426 0 rfl
                     have hcz499_1 := pzc (v := .int .u64 t423) BK426 1 rfl
                     have hfz499_0 := zF BK426.out 0
                     have hfz499_1 := zF BK426.out 1
                     go_wp2_with (first | ((with_reducible refine gate_callee (f := 10) rfl ?_); refine goesL_ (some 157) rfl rfl Try.func10 (by kernel_rfl) rfl #[.agg #[.int .u64 t422, .int .u64 t423], .int .u64 a3] rfl (by (try simp only [zT, zC, zN]); first | done | rfl | (simp only [zR, zL]; rfl)) ?_; (with_reducible refine (random_Skip.calls k2 t422 t423 a3 t444 t445 t446 t447 _ A191.out).mono ?_); rintro e w500 ⟨rfl, hb⟩; refine ⟨_, rfl, ?_⟩; replace BK402 := pzb BK402 hb; replace BK426 := pzb BK426 hb; replace HB := zM (below_step (by repeat (first | (with_reducible first | exact HB.out | apply pzA | apply pzD | apply pz1 | apply pzs | assumption) | exact HB.out)) hb); (try clear hb); (try clear hb2); (try clear hk); (try clear hi)) | ((with_reducible refine gate_dst (N := 22) rfl ?_); refine box_event ?hg (N := 22) ?hd (cs := #[.int .u64 0, .int .u64 0]) (t := 27) ?hr ?_; (case hd => rfl); (case hg => rfl); (case hr => first | (go_simp; done) | (go_simp; rfl)); intro gb448 hg w501 hbox hb; have BK448 := zM (hbox); have GW448 := zM ((by rw [hg]; exact (below_size (by repeat (first | (with_reducible first | exact HB.out | apply pzA | apply pzD | apply pz1 | apply pzs | assumption) | exact HB.out))) : w.heap.size ≤ gb448)); have GE448 := GW448; have NB402_448 := pzf BK402 hg; have NB448_402 := pzg BK402 hg; have NB426_448 := pzf BK426 hg; have NB448_426 := pzg BK426 hg; replace BK402 := pzb BK402 hb; replace BK426 := pzb BK426 hb; replace HB := zM (below_step (by repeat (first | (with_reducible first | exact HB.out | apply pzA | apply pzD | apply pz1 | apply pzs | assumption) | exact HB.out)) hb); clear hb hbox hg) | ((with_reducible refine gate_dst (N := 23) rfl ?_); refine box_event ?hg (N := 23) ?hd (cs := #[.int .i64 0, .int .i64 0]) (t := 29) ?hr ?_; (case hd => rfl); (case hg => rfl); (case hr => first | (go_simp; done) | (go_simp; rfl)); intro gb449 hg w502 hbox hb; have BK449 := zM (hbox); have GW449 := zM ((by rw [hg]; exact (below_size (by repeat (first | (with_reducible first | exact HB.out | apply pzA | apply pzD | apply pz1 | apply pzs | assumption) | exact HB.out))) : w.heap.size ≤ gb449)); have GE449 := GW449; have NB402_449 := pzf BK402 hg; have NB449_402 := pzg BK402 hg; have NB426_449 := pzf BK426 hg; have NB449_426 := pzg BK426 hg; have NB448_449 := pzf BK448 hg; have NB449_448 := pzg BK448 hg; replace BK402 := pzb BK402 hb; replace BK426 := pzb BK426 hb; replace BK448 := pzb BK448 hb; replace HB := zM (below_step (by repeat (first | (with_reducible first | exact HB.out | apply pzA | apply pzD | apply pz1 | apply pzs | assumption) | exact HB.out)) hb); clear hb hbox hg; have hnb503 := NB448_402.out; have hnc503 := NB402_448.out; have hnb505 := NB448_426.out; have hnc505 := NB426_448.out; have hnb507 := NB448_449.out; have hnc507 := NB449_448.out; have hcz508_0 := pzc (v := .int .u64 0) BK448 0 rfl; have hcz508_1 := pzc (v := .int .u64 0) BK448 1 rfl; have hfz508_0 := zF BK448.out 0; have hfz508_1 := zF BK448.out 1; have hnb509 := NB449_402.out; have hnc509 := NB402_449.out; have hnb511 := NB449_426.out; have hnc511 := NB426_449.out; have hcz513_0 := pzc (v := .int .i64 0) BK449 0 rfl; have hcz513_1 := pzc (v := .int .i64 0) BK449 1 rfl; have hfz513_0 := zF BK449.out 0; have hfz513_1 := zF BK449.out 1; have hcz514_0 := pzc (v := .int .u64 a1_0) BK402 0 rfl; have hcz514_1 := pzc (v := .int .u64 a1_1) BK402 1 rfl; have hfz514_0 := zF BK402.out 0; have hfz514_1 := zF BK402.out 1) | ((with_reducible refine gate_callee (f := 10) rfl ?_); refine goesL_ (some 165) rfl rfl Try.func10 (by kernel_rfl) rfl #[.agg #[.int .u64 a1_0, .int .u64 a1_1], .int .u64 (IntKind.u64.wrap (a2 + a3))] rfl (by (try simp only [zT, zC, zN]); first | done | rfl | (simp only [zR, zL]; rfl)) ?_; (with_reducible refine (random_Skip.calls k2 a1_0 a1_1 (IntKind.u64.wrap (a2 + a3)) t450 t451 t452 t453 _ A192.out).mono ?_); rintro e w515 ⟨rfl, hb⟩; refine ⟨_, rfl, ?_⟩; replace BK402 := zM (blk_below (g := gb402) (o := .cells #[.int .u64 a1_0, .int .u64 a1_1] 27 (0, 0)) (by (with_reducible repeat (first | apply pzN | apply pzd | apply pza)); refine blk_far ?_ NB402_449.out _; (with_reducible repeat (first | apply pzN | apply pzd | apply pza)); refine blk_far ?_ NB402_449.out _; (with_reducible repeat (first | apply pzN | apply pzd | apply pza)); refine blk_far ?_ NB402_448.out _; (with_reducible repeat (first | apply pzN | apply pzd | apply pza)); refine blk_far ?_ NB402_448.out _; (with_reducible repeat (first | apply pzN | apply pzd | apply pza)); exact BK402.out) hb); replace BK426 := zM (blk_below (g := gb426) (o := .cells #[.int .u64 t422, .int .u64 t423] 27 (0, 0)) (by (with_reducible repeat (first | apply pzN | apply pzd | apply pza)); refine blk_far ?_ NB426_449.out _; (with_reducible repeat (first | apply pzN | apply pzd | apply pza)); refine blk_far ?_ NB426_449.out _; (with_reducible repeat (first | apply pzN | apply pzd | apply pza)); refine blk_far ?_ NB426_448.out _; (with_reducible repeat (first | apply pzN | apply pzd | apply pza)); refine blk_far ?_ NB426_448.out _; (with_reducible repeat (first | apply pzN | apply pzd | apply pza)); exact BK426.out) hb); replace BK448 := zM (blk_below (g := gb448) (o := .cells #[.int .u64 t444, .int .u64 t445] 27 (0, 0)) (by (with_reducible repeat (first | apply pzN | apply pzd | apply pza)); refine blk_far ?_ NB448_449.out _; (with_reducible repeat (first | apply pzN | apply pzd | apply pza)); refine blk_far ?_ NB448_449.out _; (with_reducible repeat (first | apply pzN | apply pzd | apply pza)); refine blk_put (cs := #[.int .u64 t444, .int .u64 0]) ?_ 1 _ rfl; (with_reducible repeat (first | apply pzN | apply pzd | apply pza)); refine blk_put (cs := #[.int .u64 0, .int .u64 0]) ?_ 0 _ rfl; (with_reducible repeat (first | apply pzN | apply pzd | apply pza)); exact BK448.out) hb); replace BK449 := zM (blk_below (g := gb449) (o := .cells #[.int .i64 t446, .int .i64 t447] 29 (0, 0)) (by (with_reducible repeat (first | apply pzN | apply pzd | apply pza)); refine blk_put (cs := #[.int .i64 t446, .int .i64 0]) ?_ 1 _ rfl; (with_reducible repeat (first | apply pzN | apply pzd | apply pza)); refine blk_put (cs := #[.int .i64 0, .int .i64 0]) ?_ 0 _ rfl; (with_reducible repeat (first | apply pzN | apply pzd | apply pza)); refine blk_far ?_ NB449_448.out _; (with_reducible repeat (first | apply pzN | apply pzd | apply pza)); refine blk_far ?_ NB449_448.out _; (with_reducible repeat (first | apply pzN | apply pzd | apply pza)); exact BK449.out) hb); replace HB := zM (below_step (by repeat (first | (with_reducible first | exact HB.out | apply pzA | apply pzD | apply pz1 | apply pzs | assumption) | exact HB.out)) hb); (try clear hb); (try clear hb2); (try clear hk); (try clear hi)) | ((with_reducible refine gate_dst (N := 24) rfl ?_); refine box_event ?hg (N := 24) ?hd (cs := #[.int .u64 0, .int .u64 0]) (t := 27) ?hr ?_; (case hd => rfl); (case hg => rfl); (case hr => first | (go_simp; done) | (go_simp; rfl)); intro gb454 hg w516 hbox hb; have BK454 := zM (hbox); have GW454 := zM ((by rw [hg]; exact (below_size (by repeat (first | (with_reducible first | exact HB.out | apply pzA | apply pzD | apply pz1 | apply pzs | assumption) | exact HB.out))) : w.heap.size ≤ gb454)); have GE454 := GW454; have NB402_454 := pzf BK402 hg; have NB454_402 := pzg BK402 hg; have NB426_454 := pzf BK426 hg; have NB454_426 := pzg BK426 hg; have NB448_454 := pzf BK448 hg; have NB454_448 := pzg BK448 hg; have NB449_454 := pzf BK449 hg; have NB454_449 := pzg BK449 hg; replace BK402 := pzb BK402 hb; replace BK426 := pzb BK426 hb; replace BK448 := pzb BK448 hb; replace BK449 := pzb BK449 hb; replace HB := zM (below_step (by repeat (first | (with_reducible first | exact HB.out | apply pzA | apply pzD | apply pz1 | apply pzs | assumption) | exact HB.out)) hb); clear hb hbox hg) | ((with_reducible refine gate_dst (N := 25) rfl ?_); refine box_event ?hg (N := 25) ?hd (cs := #[.int .i64 0, .int .i64 0]) (t := 29) ?hr ?_; (case hd => rfl); (case hg => rfl); (case hr => first | (go_simp; done) | (go_simp; rfl)); intro gb455 hg w517 hbox hb; have BK455 := zM (hbox); have GW455 := zM ((by rw [hg]; exact (below_size (by repeat (first | (with_reducible first | exact HB.out | apply pzA | apply pzD | apply pz1 | apply pzs | assumption) | exact HB.out))) : w.heap.size ≤ gb455)); have GE455 := GW455; have NB402_455 := pzf BK402 hg; have NB455_402 := pzg BK402 hg; have NB426_455 := pzf BK426 hg; have NB455_426 := pzg BK426 hg; have NB448_455 := pzf BK448 hg; have NB455_448 := pzg BK448 hg; have NB449_455 := pzf BK449 hg; have NB455_449 := pzg BK449 hg; have NB454_455 := pzf BK454 hg; have NB455_454 := pzg BK454 hg; replace BK402 := pzb BK402 hb; replace BK426 := pzb BK426 hb; replace BK448 := pzb BK448 hb; replace BK449 := pzb BK449 hb; replace BK454 := pzb BK454 hb; replace HB := zM (below_step (by repeat (first | (with_reducible first | exact HB.out | apply pzA | apply pzD | apply pz1 | apply pzs | assumption) | exact HB.out)) hb); clear hb hbox hg; have hnb518 := NB454_402.out; have hnc518 := NB402_454.out; have hnb520 := NB454_426.out; have hnc520 := NB426_454.out; have hnb522 := NB454_448.out; have hnc522 := NB448_454.out; have hnb523 := NB454_449.out; have hnc523 := NB449_454.out; have hnb524 := NB454_455.out; have hnc524 := NB455_454.out; have hcz525_0 := pzc (v := .int .u64 0) BK454 0 rfl; have hcz525_1 := pzc (v := .int .u64 0) BK454 1 rfl; have hfz525_0 := zF BK454.out 0; have hfz525_1 := zF BK454.out 1; have hnb526 := NB455_402.out; have hnc526 := NB402_455.out; have hnb528 := NB455_426.out; have hnc528 := NB426_455.out; have hnb530 := NB455_448.out; have hnc530 := NB448_455.out; have hnb531 := NB455_449.out; have hnc531 := NB449_455.out; have hcz532_0 := pzc (v := .int .i64 0) BK455 0 rfl; have hcz532_1 := pzc (v := .int .i64 0) BK455 1 rfl; have hfz532_0 := zF BK455.out 0; have hfz532_1 := zF BK455.out 1; have hcz533_0 := pzc (v := .int .u64 a1_0) BK402 0 rfl; have hcz533_1 := pzc (v := .int .u64 a1_1) BK402 1 rfl; have hfz533_0 := zF BK402.out 0; have hfz533_1 := zF BK402.out 1) | ((with_reducible refine gate_callee (f := 10) rfl ?_); refine goesL_ (some 172) rfl rfl Try.func10 (by kernel_rfl) rfl #[.agg #[.int .u64 a1_0, .int .u64 a1_1], .int .u64 (IntKind.u64.wrap (a2 + 1))] rfl (by (try simp only [zT, zC, zN]); first | done | rfl | (simp only [zR, zL]; rfl)) ?_; (with_reducible refine (random_Skip.calls k2 a1_0 a1_1 (IntKind.u64.wrap (a2 + 1)) t456 t457 t458 t459 _ A193.out).mono ?_); rintro e w534 ⟨rfl, hb⟩; refine ⟨_, rfl, ?_⟩; replace BK426 := zM (blk_below (g := gb426) (o := .cells #[.int .u64 t422, .int .u64 t423] 27 (0, 0)) (by (with_reducible repeat (first | apply pzN | apply pzd | apply pza)); refine blk_far ?_ NB426_455.out _; (with_reducible repeat (first | apply pzN | apply pzd | apply pza)); refine blk_far ?_ NB426_455.out _; (with_reducible repeat (first | apply pzN | apply pzd | apply pza)); refine blk_far ?_ NB426_454.out _; (with_reducible repeat (first | apply pzN | apply pzd | apply pza)); refine blk_far ?_ NB426_454.out _; (with_reducible repeat (first | apply pzN | apply pzd | apply pza)); exact BK426.out) hb); replace BK448 := zM (blk_below (g := gb448) (o := .cells #[.int .u64 t444, .int .u64 t445] 27 (0, 0)) (by (with_reducible repeat (first | apply pzN | apply pzd | apply pza)); refine blk_far ?_ NB448_455.out _; (with_reducible repeat (first | apply pzN | apply pzd | apply pza)); refine blk_far ?_ NB448_455.out _; (with_reducible repeat (first | apply pzN | apply pzd | apply pza)); refine blk_far ?_ NB448_454.out _; (with_reducible repeat (first | apply pzN | apply pzd | apply pza)); refine blk_far ?_ NB448_454.out _; (with_reducible repeat (first | apply pzN | apply pzd | apply pza)); exact BK448.out) hb); replace BK449 := zM (blk_below (g := gb449) (o := .cells #[.int .i64 t446, .int .i64 t447] 29 (0, 0)) (by (with_reducible repeat (first | apply pzN | apply pzd | apply pza)); refine blk_far ?_ NB449_455.out _; (with_reducible repeat (first | apply pzN | apply pzd | apply pza)); refine blk_far ?_ NB449_455.out _; (with_reducible repeat (first | apply pzN | apply pzd | apply pza)); refine blk_far ?_ NB449_454.out _; (with_reducible repeat (first | apply pzN | apply pzd | apply pza)); refine blk_far ?_ NB449_454.out _; (with_reducible repeat (first | apply pzN | apply pzd | apply pza)); exact BK449.out) hb); replace BK454 := zM (blk_below (g := gb454) (o := .cells #[.int .u64 t450, .int .u64 t451] 27 (0, 0)) (by (with_reducible repeat (first | apply pzN | apply pzd | apply pza)); refine blk_far ?_ NB454_455.out _; (with_reducible repeat (first | apply pzN | apply pzd | apply pza)); refine blk_far ?_ NB454_455.out _; (with_reducible repeat (first | apply pzN | apply pzd | apply pza)); refine blk_put (cs := #[.int .u64 t450, .int .u64 0]) ?_ 1 _ rfl; (with_reducible repeat (first | apply pzN | apply pzd | apply pza)); refine blk_put (cs := #[.int .u64 0, .int .u64 0]) ?_ 0 _ rfl; (with_reducible repeat (first | apply pzN | apply pzd | apply pza)); exact BK454.out) hb); replace BK455 := zM (blk_below (g := gb455) (o := .cells #[.int .i64 t452, .int .i64 t453] 29 (0, 0)) (by (with_reducible repeat (first | apply pzN | apply pzd | apply pza)); refine blk_put (cs := #[.int .i64 t452, .int .i64 0]) ?_ 1 _ rfl; (with_reducible repeat (first | apply pzN | apply pzd | apply pza)); refine blk_put (cs := #[.int .i64 0, .int .i64 0]) ?_ 0 _ rfl; (with_reducible repeat (first | apply pzN | apply pzd | apply pza)); refine blk_far ?_ NB455_454.out _; (with_reducible repeat (first | apply pzN | apply pzd | apply pza)); refine blk_far ?_ NB455_454.out _; (with_reducible repeat (first | apply pzN | apply pzd | apply pza)); exact BK455.out) hb); replace HB := zM (below_step (by repeat (first | (with_reducible first | exact HB.out | apply pzA | apply pzD | apply pz1 | apply pzs | assumption) | exact HB.out)) hb); (try clear hb); (try clear hb2); (try clear hk); (try clear hi)) | ((with_reducible refine gate_dst (N := 26) rfl ?_); refine box_event ?hg (N := 26) ?hd (cs := #[.int .u64 0, .int .u64 0]) (t := 27) ?hr ?_; (case hd => rfl); (case hg => rfl); (case hr => first | (go_simp; done) | (go_simp; rfl)); intro gb460 hg w535 hbox hb; have BK460 := zM (hbox); have GW460 := zM ((by rw [hg]; exact (below_size (by repeat (first | (with_reducible first | exact HB.out | apply pzA | apply pzD | apply pz1 | apply pzs | assumption) | exact HB.out))) : w.heap.size ≤ gb460)); have GE460 := GW460; have NB426_460 := pzf BK426 hg; have NB460_426 := pzg BK426 hg; have NB448_460 := pzf BK448 hg; have NB460_448 := pzg BK448 hg; have NB449_460 := pzf BK449 hg; have NB460_449 := pzg BK449 hg; have NB454_460 := pzf BK454 hg; have NB460_454 := pzg BK454 hg; have NB455_460 := pzf BK455 hg; have NB460_455 := pzg BK455 hg; replace BK426 := pzb BK426 hb; replace BK448 := pzb BK448 hb; replace BK449 := pzb BK449 hb; replace BK454 := pzb BK454 hb; replace BK455 := pzb BK455 hb; replace HB := zM (below_step (by repeat (first | (with_reducible first | exact HB.out | apply pzA | apply pzD | apply pz1 | apply pzs | assumption) | exact HB.out)) hb); clear hb hbox hg) | ((with_reducible refine gate_dst (N := 27) rfl ?_); refine box_event ?hg (N := 27) ?hd (cs := #[.int .i64 0, .int .i64 0]) (t := 29) ?hr ?_; (case hd => rfl); (case hg => rfl); (case hr => first | (go_simp; done) | (go_simp; rfl)); intro gb461 hg w536 hbox hb; have BK461 := zM (hbox); have GW461 := zM ((by rw [hg]; exact (below_size (by repeat (first | (with_reducible first | exact HB.out | apply pzA | apply pzD | apply pz1 | apply pzs | assumption) | exact HB.out))) : w.heap.size ≤ gb461)); have GE461 := GW461; have NB426_461 := pzf BK426 hg; have NB461_426 := pzg BK426 hg; have NB448_461 := pzf BK448 hg; have NB461_448 := pzg BK448 hg; have NB449_461 := pzf BK449 hg; have NB461_449 := pzg BK449 hg; have NB454_461 := pzf BK454 hg; have NB461_454 := pzg BK454 hg; have NB455_461 := pzf BK455 hg; have NB461_455 := pzg BK455 hg; have NB460_461 := pzf BK460 hg; have NB461_460 := pzg BK460 hg; replace BK426 := pzb BK426 hb; replace BK448 := pzb BK448 hb; replace BK449 := pzb BK449 hb; replace BK454 := pzb BK454 hb; replace BK455 := pzb BK455 hb; replace BK460 := pzb BK460 hb; replace HB := zM (below_step (by repeat (first | (with_reducible first | exact HB.out | apply pzA | apply pzD | apply pz1 | apply pzs | assumption) | exact HB.out)) hb); clear hb hbox hg; have hnb539 := NB460_426.out; have hnc539 := NB426_460.out; have hnb541 := NB460_448.out; have hnc541 := NB448_460.out; have hnb542 := NB460_449.out; have hnc542 := NB449_460.out; have hnb543 := NB460_454.out; have hnc543 := NB454_460.out; have hnb544 := NB460_455.out; have hnc544 := NB455_460.out; have hnb545 := NB460_461.out; have hnc545 := NB461_460.out; have hcz546_0 := pzc (v := .int .u64 0) BK460 0 rfl; have hcz546_1 := pzc (v := .int .u64 0) BK460 1 rfl; have hfz546_0 := zF BK460.out 0; have hfz546_1 := zF BK460.out 1; have hnb549 := NB461_426.out; have hnc549 := NB426_461.out; have hnb551 := NB461_448.out; have hnc551 := NB448_461.out; have hnb552 := NB461_449.out; have hnc552 := NB449_461.out; have hnb553 := NB461_454.out; have hnc553 := NB454_461.out; have hnb554 := NB461_455.out; have hnc554 := NB455_461.out; have hcz555_0 := pzc (v := .int .i64 0) BK461 0 rfl; have hcz555_1 := pzc (v := .int .i64 0) BK461 1 rfl; have hfz555_0 := zF BK461.out 0; have hfz555_1 := zF BK461.out 1; have hcz556_0 := pzc (v := .int .u64 t422) BK426 0 rfl; have hcz556_1 := pzc (v := .int .u64 t423) BK426 1 rfl; have hfz556_0 := zF BK426.out 0; have hfz556_1 := zF BK426.out 1) | ((with_reducible refine gate_callee (f := 9) rfl ?_); refine goesL_ (some 177) rfl rfl Try.func9 (by kernel_rfl) rfl #[.agg #[.int .u64 t422, .int .u64 t423]] rfl (by (try simp only [zT, zC, zN]); first | done | rfl | (simp only [zR, zL]; rfl)) ?_; (with_reducible refine (random_Next.calls t422 t423 t462 t463 t464 t465 t466 _ A194.out).mono ?_); rintro e w557 ⟨rfl, hb⟩; refine ⟨_, rfl, ?_⟩; replace BK448 := zM (blk_below (g := gb448) (o := .cells #[.int .u64 t444, .int .u64 t445] 27 (0, 0)) (by (with_reducible repeat (first | apply pzN | apply pzd | apply pza)); refine blk_far ?_ NB448_461.out _; (with_reducible repeat (first | apply pzN | apply pzd | apply pza)); refine blk_far ?_ NB448_461.out _; (with_reducible repeat (first | apply pzN | apply pzd | apply pza)); refine blk_far ?_ NB448_460.out _; (with_reducible repeat (first | apply pzN | apply pzd | apply pza)); refine blk_far ?_ NB448_460.out _; (with_reducible repeat (first | apply pzN | apply pzd | apply pza)); exact BK448.out) hb); replace BK449 := zM (blk_below (g := gb449) (o := .cells #[.int .i64 t446, .int .i64 t447] 29 (0, 0)) (by (with_reducible repeat (first | apply pzN | apply pzd | apply pza)); refine blk_far ?_ NB449_461.out _; (with_reducible repeat (first | apply pzN | apply pzd | apply pza)); refine blk_far ?_ NB449_461.out _; (with_reducible repeat (first | apply pzN | apply pzd | apply pza)); refine blk_far ?_ NB449_460.out _; (with_reducible repeat (first | apply pzN | apply pzd | apply pza)); refine blk_far ?_ NB449_460.out _; (with_reducible repeat (first | apply pzN | apply pzd | apply pza)); exact BK449.out) hb); replace BK454 := zM (blk_below (g := gb454) (o := .cells #[.int .u64 t450, .int .u64 t451] 27 (0, 0)) (by (with_reducible repeat (first | apply pzN | apply pzd | apply pza)); refine blk_far ?_ NB454_461.out _; (with_reducible repeat (first | apply pzN | apply pzd | apply pza)); refine blk_far ?_ NB454_461.out _; (with_reducible repeat (first | apply pzN | apply pzd | apply pza)); refine blk_far ?_ NB454_460.out _; (with_reducible repeat (first | apply pzN | apply pzd | apply pza)); refine blk_far ?_ NB454_460.out _; (with_reducible repeat (first | apply pzN | apply pzd | apply pza)); exact BK454.out) hb); replace BK455 := zM (blk_below (g := gb455) (o := .cells #[.int .i64 t452, .int .i64 t453] 29 (0, 0)) (by (with_reducible repeat (first | apply pzN | apply pzd | apply pza)); refine blk_far ?_ NB455_461.out _; (with_reducible repeat (first | apply pzN | apply pzd | apply pza)); refine blk_far ?_ NB455_461.out _; (with_reducible repeat (first | apply pzN | apply pzd | apply pza)); refine blk_far ?_ NB455_460.out _; (with_reducible repeat (first | apply pzN | apply pzd | apply pza)); refine blk_far ?_ NB455_460.out _; (with_reducible repeat (first | apply pzN | apply pzd | apply pza)); exact BK455.out) hb); replace BK460 := zM (blk_below (g := gb460) (o := .cells #[.int .u64 t456, .int .u64 t457] 27 (0, 0)) (by (with_reducible repeat (first | apply pzN | apply pzd | apply pza)); refine blk_far ?_ NB460_461.out _; (with_reducible repeat (first | apply pzN | apply pzd | apply pza)); refine blk_far ?_ NB460_461.out _; (with_reducible repeat (first | apply pzN | apply pzd | apply pza)); refine blk_put (cs := #[.int .u64 t456, .int .u64 0]) ?_ 1 _ rfl; (with_reducible repeat (first | apply pzN | apply pzd | apply pza)); refine blk_put (cs := #[.int .u64 0, .int .u64 0]) ?_ 0 _ rfl; (with_reducible repeat (first | apply pzN | apply pzd | apply pza)); exact BK460.out) hb); replace BK461 := zM (blk_below (g := gb461) (o := .cells #[.int .i64 t458, .int .i64 t459] 29 (0, 0)) (by (with_reducible repeat (first | apply pzN | apply pzd | apply pza)); refine blk_put (cs := #[.int .i64 t458, .int .i64 0]) ?_ 1 _ rfl; (with_reducible repeat (first | apply pzN | apply pzd | apply pza)); refine blk_put (cs := #[.int .i64 0, .int .i64 0]) ?_ 0 _ rfl; (with_reducible repeat (first | apply pzN | apply pzd | apply pza)); refine blk_far ?_ NB461_460.out _; (with_reducible repeat (first | apply pzN | apply pzd | apply pza)); refine blk_far ?_ NB461_460.out _; (with_reducible repeat (first | apply pzN | apply pzd | apply pza)); exact BK461.out) hb); replace HB := zM (below_step (by repeat (first | (with_reducible first | exact HB.out | apply pzA | apply pzD | apply pz1 | apply pzs | assumption) | exact HB.out)) hb); (try clear hb); (try clear hb2); (try clear hk); (try clear hi)) | ((with_reducible refine gate_dst (N := 29) rfl ?_); refine box_event ?hg (N := 29) ?hd (cs := #[.int .u64 0, .int .u64 0]) (t := 27) ?hr ?_; (case hd => rfl); (case hg => rfl); (case hr => first | (go_simp; done) | (go_simp; rfl)); intro gb467 hg w558 hbox hb; have BK467 := zM (hbox); have GW467 := zM ((by rw [hg]; exact (below_size (by repeat (first | (with_reducible first | exact HB.out | apply pzA | apply pzD | apply pz1 | apply pzs | assumption) | exact HB.out))) : w.heap.size ≤ gb467)); have GE467 := GW467; have NB448_467 := pzf BK448 hg; have NB467_448 := pzg BK448 hg; have NB449_467 := pzf BK449 hg; have NB467_449 := pzg BK449 hg; have NB454_467 := pzf BK454 hg; have NB467_454 := pzg BK454 hg; have NB455_467 := pzf BK455 hg; have NB467_455 := pzg BK455 hg; have NB460_467 := pzf BK460 hg; have NB467_460 := pzg BK460 hg; have NB461_467 := pzf BK461 hg; have NB467_461 := pzg BK461 hg; replace BK448 := pzb BK448 hb; replace BK449 := pzb BK449 hb; replace BK454 := pzb BK454 hb; replace BK455 := pzb BK455 hb; replace BK460 := pzb BK460 hb; replace BK461 := pzb BK461 hb; replace HB := zM (below_step (by repeat (first | (with_reducible first | exact HB.out | apply pzA | apply pzD | apply pz1 | apply pzs | assumption) | exact HB.out)) hb); clear hb hbox hg) | ((with_reducible refine gate_dst (N := 30) rfl ?_); refine box_event ?hg (N := 30) ?hd (cs := #[.int .i64 0, .int .i64 0]) (t := 29) ?hr ?_; (case hd => rfl); (case hg => rfl); (case hr => first | (go_simp; done) | (go_simp; rfl)); intro gb468 hg w559 hbox hb; have BK468 := zM (hbox); have GW468 := zM ((by rw [hg]; exact (below_size (by repeat (first | (with_reducible first | exact HB.out | apply pzA | apply pzD | apply pz1 | apply pzs | assumption) | exact HB.out))) : w.heap.size ≤ gb468)); have GE468 := GW468; have NB448_468 := pzf BK448 hg; have NB468_448 := pzg BK448 hg; have NB449_468 := pzf BK449 hg; have NB468_449 := pzg BK449 hg; have NB454_468 := pzf BK454 hg; have NB468_454 := pzg BK454 hg; have NB455_468 := pzf BK455 hg; have NB468_455 := pzg BK455 hg; have NB460_468 := pzf BK460 hg; have NB468_460 := pzg BK460 hg; have NB461_468 := pzf BK461 hg; have NB468_461 := pzg BK461 hg; have NB467_468 := pzf BK467 hg; have NB468_467 := pzg BK467 hg; replace BK448 := pzb BK448 hb; replace BK449 := pzb BK449 hb; replace BK454 := pzb BK454 hb; replace BK455 := pzb BK455 hb; replace BK460 := pzb BK460 hb; replace BK461 := pzb BK461 hb; replace BK467 := pzb BK467 hb; replace HB := zM (below_step (by repeat (first | (with_reducible first | exact HB.out | apply pzA | apply pzD | apply pz1 | apply pzs | assumption) | exact HB.out)) hb); clear hb hbox hg; have hnb564 := NB467_448.out; have hnc564 := NB448_467.out; have hnb565 := NB467_449.out; have hnc565 := NB449_467.out; have hnb566 := NB467_454.out; have hnc566 := NB454_467.out; have hnb567 := NB467_455.out; have hnc567 := NB455_467.out; have hnb568 := NB467_460.out; have hnc568 := NB460_467.out; have hnb569 := NB467_461.out; have hnc569 := NB461_467.out; have hnb570 := NB467_468.out; have hnc570 := NB468_467.out; have hcz571_0 := pzc (v := .int .u64 0) BK467 0 rfl; have hcz571_1 := pzc (v := .int .u64 0) BK467 1 rfl; have hfz571_0 := zF BK467.out 0; have hfz571_1 := zF BK467.out 1; have hnb576 := NB468_448.out; have hnc576 := NB448_468.out; have hnb577 := NB468_449.out; have hnc577 := NB449_468.out; have hnb578 := NB468_454.out; have hnc578 := NB454_468.out; have hnb579 := NB468_455.out; have hnc579 := NB455_468.out; have hnb580 := NB468_460.out; have hnc580 := NB460_468.out; have hnb581 := NB468_461.out; have hnc581 := NB461_468.out; have hcz582_0 := pzc (v := .int .i64 0) BK468 0 rfl; have hcz582_1 := pzc (v := .int .i64 0) BK468 1 rfl; have hfz582_0 := zF BK468.out 0; have hfz582_1 := zF BK468.out 1; have hcz583_0 := pzc (v := .int .i64 t446) BK449 0 rfl; have hcz583_1 := pzc (v := .int .i64 t447) BK449 1 rfl; have hfz583_0 := zF BK449.out 0; have hfz583_1 := zF BK449.out 1; have hcz584_0 := pzc (v := .int .i64 t452) BK455 0 rfl; have hcz584_1 := pzc (v := .int .i64 t453) BK455 1 rfl; have hfz584_0 := zF BK455.out 0; have hfz584_1 := zF BK455.out 1; have hcz585_0 := pzc (v := .int .i64 t458) BK461 0 rfl; have hcz585_1 := pzc (v := .int .i64 t459) BK461 1 rfl; have hfz585_0 := zF BK461.out 0; have hfz585_1 := zF BK461.out 1; have hcz586_0 := pzc (v := .int .u64 t444) BK448 0 rfl; have hcz586_1 := pzc (v := .int .u64 t445) BK448 1 rfl; have hfz586_0 := zF BK448.out 0; have hfz586_1 := zF BK448.out 1; have hcz587_0 := pzc (v := .int .u64 t450) BK454 0 rfl; have hcz587_1 := pzc (v := .int .u64 t451) BK454 1 rfl; have hfz587_0 := zF BK454.out 0; have hfz587_1 := zF BK454.out 1; have hcz588_0 := pzc (v := .int .u64 t456) BK460 0 rfl; have hcz588_1 := pzc (v := .int .u64 t457) BK460 1 rfl; have hfz588_0 := zF BK460.out 0; have hfz588_1 := zF BK460.out 1))
                     go_ret
                     exact ⟨by first | rfl | (simp [errW_none, errW_some] <;> rfl) | (simp [*, errW_none, errW_some] <;> rfl), by repeat (first | (with_reducible first | exact HB.out | apply pzA | apply pzD | apply pz1 | apply pzs | assumption) | exact HB.out)⟩
                   ·rw [if_neg c392] at H
                    exact absurd H (by simp)
                 ·rw [if_neg c198] at H
                  exact absurd H (by simp)
                ·rw [if_neg c197] at H
                 exact absurd H (by simp)
               ·rw [if_neg c196] at H
                exact absurd H (by simp)
              ·rw [if_neg c195] at H
               exact absurd H (by simp)
        ·rw [if_neg c148] at H
         exact absurd H (by simp)
       ·rw [if_neg c147] at H
        exact absurd H (by simp)
      ·rw [if_neg c146] at H
       exact absurd H (by simp)
     ·rw [if_neg c145] at H
      exact absurd H (by simp)
 ·replace c10 := Bool.eq_false_iff.mpr c10
  subst c10
  have H1 : (none) = some r := by rw [if_neg (show ¬ (false = true) by decide)] at H; exact H
  clear H
  have H := H1
  clear H1
  exact absurd H (by simp)

end Go.Proofs.Ytkhiohlfdkkhdaa.P
