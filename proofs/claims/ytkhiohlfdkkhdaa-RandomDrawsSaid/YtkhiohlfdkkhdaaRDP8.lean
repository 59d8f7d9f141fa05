-- Written by the session's own program wip/tools/mp.py (over the kit's print) out of the translation. Not trusted: Lean checks it.
import Derived.Test.YtkhiohlfdkkhdaaRDP0
import Derived.Test.YtkhiohlfdkkhdaaRDP1
import Derived.Test.YtkhiohlfdkkhdaaRDP3
import Derived.Test.YtkhiohlfdkkhdaaRDP7
namespace Go.Proofs.Ytkhiohlfdkkhdaa.P
open Go.RowKit Go.Proofs.YtkhiohlfdkkhdaaW.PrintWords Go.Proofs.YtkhiohlfdkkhdaaW.PrintLast Go.Proofs.YtkhiohlfdkkhdaaW.PrintMore
attribute [local go_sem] max2_int min2_int max_two min_two max_three min_three max_four min_four   -- for this text's walks alone
set_option linter.unusedVariables false
set_option linter.unusedSimpArgs false

attribute [local go_sem high] eqA27
attribute [local go_sem] Instr.field run_asAgg
/-! ### brindlewoodlaw4_draws: function 11 -/
def brindlewoodlaw4_draws.f (k : Nat)  : Option (Bool) := (brindlewoodlaw4_whole.f k 0).bind fun bt333 => ((random_Seed.f k bt333.2.1 bt333.2.2.1).bind fun bt344 => ((random_Next.f bt344.1 bt344.2.1).bind fun bt350 => ((brindlewoodlaw4_whole.f k 1).bind fun bt357 => ((random_Below.f k bt344.1 bt344.2.1 bt357.2.1 bt357.2.2.1).bind fun bt368 => ((brindlewoodlaw4_whole.f k 0).bind fun bt379 => ((brindlewoodref4_Seeded.f k bt379.2.1 bt379.2.2.1).bind fun bt390 => ((brindlewoodref4_Random_Draw.f bt390.1 bt390.2).bind fun bt393 => (if bt344.2.2.1 = 0 then (if bt350.2.2.2.1 = 0 then (if bt368.2.2.2.2.1 = 0 then (if bt344.1 = 0 then (if bt350.1 = bt393.1 then (if (bt350.2.1 == bt393.2.1 && (bt350.2.2.1 == bt393.2.2)) = true then ((brindlewoodref3_NoInt.f bt368.1 bt368.2.1).bind fun t396 => (if t396 = true then (some (bt368.2.2.1 == bt344.1 && (bt368.2.2.2.1 == bt344.2.1))) else (none))) else (none)) else (none)) else (none)) else (none)) else (none)) else (none)))))))))
theorem brindlewoodlaw4_draws.mono : ∀ k, LeO (brindlewoodlaw4_draws.f k ) (brindlewoodlaw4_draws.f (k + 1) ) := by
 intro  k
 unfold brindlewoodlaw4_draws.f
 repeat' first
   | (with_reducible exact brindlewoodlaw4_whole.mono _ _)
   | (with_reducible exact brindlewoodref4_Seeded.mono _ _ _)
   | (with_reducible exact random_Below.mono _ _ _ _ _)
   | (with_reducible exact random_Seed.mono _ _ _)
   | (with_reducible exact LeO.refl _)
   | (with_reducible exact LeO.none _)
   | (with_reducible refine LeO.ite ?_ ?_)
   | (with_reducible refine LeO.bind ?_ (fun _ => ?_))
   | exact brindlewoodlaw4_whole.mono _ _
   | exact brindlewoodref4_Seeded.mono _ _ _
   | exact random_Below.mono _ _ _ _ _
   | exact random_Seed.mono _ _ _
   | exact LeO.none _
   | refine LeO.ite ?_ ?_
   | refine LeO.bind ?_ (fun _ => ?_)
def brindlewoodlaw4_draws.T3 : Bool × List (List Nat × List Nat) := (true, [([], []), ([], []), ([1], [1]), ([0, 2, 1], [0, 2]), ([3], [3]), ([4], [4]), ([4], [4]), ([4], [4]), ([], []), ([], []), ([], []), ([8, 5, 3, 0, 1, 2, 3, 4, 5, 8, 9, 10], [5, 8]), ([9, 6, 11, 0, 1, 2, 3, 4, 5, 6, 8, 9, 10, 11], [6, 9]), ([10, 7, 12, 0, 1, 2, 3, 4, 5, 6, 7, 8, 9, 10, 11, 12], [7, 10])])
def brindlewoodlaw4_draws.B3 : List Nat := [0, 0, 2, 7, 15, 31, 31, 31, 0, 0, 0, 1855, 3967, 8191]
theorem brindlewoodlaw4_draws.tab3 : rtab .any (opsOf Try.f11 3) = brindlewoodlaw4_draws.T3 := by kernel_rfl
theorem brindlewoodlaw4_draws.bits3 : waitsOk brindlewoodlaw4_draws.T3.2 brindlewoodlaw4_draws.B3 = true := by kernel_rfl
set_option maxHeartbeats 60000000 in
set_option maxRecDepth 100000 in
theorem brindlewoodlaw4_draws.calls (k : Nat)  (r : Bool) (w : World) (h : brindlewoodlaw4_draws.f k  = some r) :
  Calls Try.prog 11 #[] w fun e w' => e = .returned (.bool r) ∧ Below w.heap.size w w' := by
 have hu27 := Try.underlying27
 have hu29 := Try.underlying29
 have hu24 := Try.underlying24
 have hu40 := Try.underlying40
 have HB := zM (Below.refl w.heap.size w)
 have H : ((brindlewoodlaw4_whole.f k 0).bind fun bt333 => ((random_Seed.f k bt333.2.1 bt333.2.2.1).bind fun bt344 => ((random_Next.f bt344.1 bt344.2.1).bind fun bt350 => ((brindlewoodlaw4_whole.f k 1).bind fun bt357 => ((random_Below.f k bt344.1 bt344.2.1 bt357.2.1 bt357.2.2.1).bind fun bt368 => ((brindlewoodlaw4_whole.f k 0).bind fun bt379 => ((brindlewoodref4_Seeded.f k bt379.2.1 bt379.2.2.1).bind fun bt390 => ((brindlewoodref4_Random_Draw.f bt390.1 bt390.2).bind fun bt393 => (if bt344.2.2.1 = 0 then (if bt350.2.2.2.1 = 0 then (if bt368.2.2.2.2.1 = 0 then (if bt344.1 = 0 then (if bt350.1 = bt393.1 then (if (bt350.2.1 == bt393.2.1 && (bt350.2.2.1 == bt393.2.2)) = true then ((brindlewoodref3_NoInt.f bt368.1 bt368.2.1).bind fun t396 => (if t396 = true then (some (bt368.2.2.1 == bt344.1 && (bt368.2.2.2.1 == bt344.2.1))) else (none))) else (none)) else (none)) else (none)) else (none)) else (none)) else (none)))))))))) = some r := h
 clear h
 replace H := zB H
 obtain ⟨⟨t333, t334, t335, t338, t339, t342, t343⟩, A10, H⟩ := H
 replace H : ((random_Seed.f k t334 t335).bind fun bt344 => ((random_Next.f bt344.1 bt344.2.1).bind fun bt350 => ((brindlewoodlaw4_whole.f k 1).bind fun bt357 => ((random_Below.f k bt344.1 bt344.2.1 bt357.2.1 bt357.2.2.1).bind fun bt368 => ((brindlewoodlaw4_whole.f k 0).bind fun bt379 => ((brindlewoodref4_Seeded.f k bt379.2.1 bt379.2.2.1).bind fun bt390 => ((brindlewoodref4_Random_Draw.f bt390.1 bt390.2).bind fun bt393 => (if bt344.2.2.1 = 0 then (if bt350.2.2.2.1 = 0 then (if bt368.2.2.2.2.1 = 0 then (if bt344.1 = 0 then (if bt350.1 = bt393.1 then (if (bt350.2.1 == bt393.2.1 && (bt350.2.2.1 == bt393.2.2)) = true then ((brindlewoodref3_NoInt.f bt368.1 bt368.2.1).bind fun t396 => (if t396 = true then (some (bt368.2.2.1 == bt344.1 && (bt368.2.2.2.1 == bt344.2.1))) else (none))) else (none)) else (none)) else (none)) else (none)) else (none)) else (none))))))))) = some r := H
 have A1 := zM A10
 clear A10
 replace H := zB H
 obtain ⟨⟨t344, t345, t346, t347⟩, A20, H⟩ := H
 replace H : ((random_Next.f t344 t345).bind fun bt350 => ((brindlewoodlaw4_whole.f k 1).bind fun bt357 => ((random_Below.f k t344 t345 bt357.2.1 bt357.2.2.1).bind fun bt368 => ((brindlewoodlaw4_whole.f k 0).bind fun bt379 => ((brindlewoodref4_Seeded.f k bt379.2.1 bt379.2.2.1).bind fun bt390 => ((brindlewoodref4_Random_Draw.f bt390.1 bt390.2).bind fun bt393 => (if t346 = 0 then (if bt350.2.2.2.1 = 0 then (if bt368.2.2.2.2.1 = 0 then (if t344 = 0 then (if bt350.1 = bt393.1 then (if (bt350.2.1 == bt393.2.1 && (bt350.2.2.1 == bt393.2.2)) = true then ((brindlewoodref3_NoInt.f bt368.1 bt368.2.1).bind fun t396 => (if t396 = true then (some (bt368.2.2.1 == t344 && (bt368.2.2.2.1 == t345))) else (none))) else (none)) else (none)) else (none)) else (none)) else (none)) else (none)))))))) = some r := H
 have A2 := zM A20
 clear A20
 replace H := zB H
 obtain ⟨⟨t350, t351, t352, t353, t354⟩, A30, H⟩ := H
 replace H : ((brindlewoodlaw4_whole.f k 1).bind fun bt357 => ((random_Below.f k t344 t345 bt357.2.1 bt357.2.2.1).bind fun bt368 => ((brindlewoodlaw4_whole.f k 0).bind fun bt379 => ((brindlewoodref4_Seeded.f k bt379.2.1 bt379.2.2.1).bind fun bt390 => ((brindlewoodref4_Random_Draw.f bt390.1 bt390.2).bind fun bt393 => (if t346 = 0 then (if t353 = 0 then (if bt368.2.2.2.2.1 = 0 then (if t344 = 0 then (if t350 = bt393.1 then (if (t351 == bt393.2.1 && (t352 == bt393.2.2)) = true then ((brindlewoodref3_NoInt.f bt368.1 bt368.2.1).bind fun t396 => (if t396 = true then (some (bt368.2.2.1 == t344 && (bt368.2.2.2.1 == t345))) else (none))) else (none)) else (none)) else (none)) else (none)) else (none)) else (none))))))) = some r := H
 have A3 := zM A30
 clear A30
 replace H := zB H
 obtain ⟨⟨t357, t358, t359, t362, t363, t366, t367⟩, A40, H⟩ := H
 replace H : ((random_Below.f k t344 t345 t358 t359).bind fun bt368 => ((brindlewoodlaw4_whole.f k 0).bind fun bt379 => ((brindlewoodref4_Seeded.f k bt379.2.1 bt379.2.2.1).bind fun bt390 => ((brindlewoodref4_Random_Draw.f bt390.1 bt390.2).bind fun bt393 => (if t346 = 0 then (if t353 = 0 then (if bt368.2.2.2.2.1 = 0 then (if t344 = 0 then (if t350 = bt393.1 then (if (t351 == bt393.2.1 && (t352 == bt393.2.2)) = true then ((brindlewoodref3_NoInt.f bt368.1 bt368.2.1).bind fun t396 => (if t396 = true then (some (bt368.2.2.1 == t344 && (bt368.2.2.2.1 == t345))) else (none))) else (none)) else (none)) else (none)) else (none)) else (none)) else (none)))))) = some r := H
 have A4 := zM A40
 clear A40
 replace H := zB H
 obtain ⟨⟨t368, t369, t372, t373, t374, t375⟩, A50, H⟩ := H
 replace H : ((brindlewoodlaw4_whole.f k 0).bind fun bt379 => ((brindlewoodref4_Seeded.f k bt379.2.1 bt379.2.2.1).bind fun bt390 => ((brindlewoodref4_Random_Draw.f bt390.1 bt390.2).bind fun bt393 => (if t346 = 0 then (if t353 = 0 then (if t374 = 0 then (if t344 = 0 then (if t350 = bt393.1 then (if (t351 == bt393.2.1 && (t352 == bt393.2.2)) = true then ((brindlewoodref3_NoInt.f t368 t369).bind fun t396 => (if t396 = true then (some (t372 == t344 && (t373 == t345))) else (none))) else (none)) else (none)) else (none)) else (none)) else (none)) else (none))))) = some r := H
 have A5 := zM A50
 clear A50
 replace H := zB H
 obtain ⟨⟨t379, t380, t381, t384, t385, t388, t389⟩, A60, H⟩ := H
 replace H : ((brindlewoodref4_Seeded.f k t380 t381).bind fun bt390 => ((brindlewoodref4_Random_Draw.f bt390.1 bt390.2).bind fun bt393 => (if t346 = 0 then (if t353 = 0 then (if t374 = 0 then (if t344 = 0 then (if t350 = bt393.1 then (if (t351 == bt393.2.1 && (t352 == bt393.2.2)) = true then ((brindlewoodref3_NoInt.f t368 t369).bind fun t396 => (if t396 = true then (some (t372 == t344 && (t373 == t345))) else (none))) else (none)) else (none)) else (none)) else (none)) else (none)) else (none)))) = some r := H
 have A6 := zM A60
 clear A60
 replace H := zB H
 obtain ⟨⟨t390, t391⟩, A70, H⟩ := H
 replace H : ((brindlewoodref4_Random_Draw.f t390 t391).bind fun bt393 => (if t346 = 0 then (if t353 = 0 then (if t374 = 0 then (if t344 = 0 then (if t350 = bt393.1 then (if (t351 == bt393.2.1 && (t352 == bt393.2.2)) = true then ((brindlewoodref3_NoInt.f t368 t369).bind fun t396 => (if t396 = true then (some (t372 == t344 && (t373 == t345))) else (none))) else (none)) else (none)) else (none)) else (none)) else (none)) else (none))) = some r := H
 have A7 := zM A70
 clear A70
 replace H := zB H
 obtain ⟨⟨t393, t394, t395⟩, A80, H⟩ := H
 replace H : (if t346 = 0 then (if t353 = 0 then (if t374 = 0 then (if t344 = 0 then (if t350 = t393 then (if (t351 == t394 && (t352 == t395)) = true then ((brindlewoodref3_NoInt.f t368 t369).bind fun t396 => (if t396 = true then (some (t372 == t344 && (t373 == t345))) else (none))) else (none)) else (none)) else (none)) else (none)) else (none)) else (none)) = some r := H
 have A8 := zM A80
 clear A80
 by_cases c9 : t346 = 0
 ·rw [if_pos c9] at H
  have c9b0 : (t346 == 0) = true := beq_iff_eq.mpr c9
  have c9b1 : (t346 != 0) = false := bne_eq_false_iff_eq.mpr c9
  clear c9
  by_cases c10 : t353 = 0
  ·rw [if_pos c10] at H
   have c10b0 : (t353 == 0) = true := beq_iff_eq.mpr c10
   have c10b1 : (t353 != 0) = false := bne_eq_false_iff_eq.mpr c10
   clear c10
   by_cases c11 : t374 = 0
   ·rw [if_pos c11] at H
    have c11b0 : (t374 == 0) = true := beq_iff_eq.mpr c11
    have c11b1 : (t374 != 0) = false := bne_eq_false_iff_eq.mpr c11
    clear c11
    by_cases c12 : t344 = 0
    ·rw [if_pos c12] at H
     have c12b0 : (t344 == 0) = true := beq_iff_eq.mpr c12
     have c12b1 : (t344 != 0) = false := bne_eq_false_iff_eq.mpr c12
     clear c12
     by_cases c13 : t350 = t393
     ·rw [if_pos c13] at H
      have c13b0 : (t350 == t393) = true := beq_iff_eq.mpr c13
      have c13b1 : (t350 != t393) = false := bne_eq_false_iff_eq.mpr c13
      clear c13
      by_cases c14 : (t351 == t394 && (t352 == t395)) = true
      ·rw [if_pos c14] at H
       have c14b0 : (t351 == t394 && (t352 == t395)) = true := c14
       (try (have c14b1 : decide (t351 = t394 && (t352 == t395)) = true := by simpa using c14))
       (try (have c14b2 : (t351 == t394 && (t352 == t395)) = true := by simpa using c14))
       clear c14
       replace H := zB H
       obtain ⟨t396, A150, H⟩ := H
       replace H : (if t396 = true then (some (t372 == t344 && (t373 == t345))) else (none)) = some r := H
       have A15 := zM A150
       clear A150
       by_cases c16 : t396 = true
       ·subst c16
        have H1 : (some (t372 == t344 && (t373 == t345))) = some r := by rw [if_pos rfl] at H; exact H
        clear H
        have H := H1
        clear H1
        obtain rfl := Option.some.inj H
        go_enter Try.func11, Try.ntmps11
        try go_wp2_with (first | ((with_reducible refine gate_callee (f := 41) rfl ?_); refine goesL_ (some 12) rfl rfl Try.func41 (by kernel_rfl) rfl #[.int .i64 0] rfl (by (try simp only [zT, zC, zN]); first | done | rfl | (simp only [zR, zL]; rfl)) ?_; (with_reducible refine (brindlewoodlaw4_whole.calls k 0 t333 t334 t335 t338 t339 t342 t343 _ A1.out).mono ?_); rintro e w17 ⟨v336, v340, rfl, ho0, ho1, hb⟩; refine ⟨_, rfl, ?_⟩; have HO337 := zM (Kd.R_lower ho0 (below_size (HB.out))); have HO341 := zM (Kd.R_lower ho1 (below_size (HB.out))); replace HB := zM (below_step (HB.out) hb); (try clear hb); (try clear hb2); (try clear hk); (try clear hi); (try clear ho0); (try clear ho1); obtain ⟨Ao18, co18, eo18⟩ := Kd.R_slice HO337.out; subst eo18) | ((with_reducible refine gate_callee (f := 8) rfl ?_); refine goesL_ (some 14) rfl rfl Try.func8 (by kernel_rfl) rfl #[.agg #[.bool t334, .slice Ao18 t335.length co18]] rfl (by (try simp only [zT, zC, zN]); first | done | rfl | (simp only [zR, zL]; rfl)) ?_; (with_reducible refine (random_Seed.calls k t334 _ _ t335 t344 t345 t346 t347 _ ?side1 ?side2 A2.out).mono ?_); (case side1 => repeat (first | exact (Kd.R_reads' HO337.out).2.2 | (with_reducible refine Kd.C_alloc ?_ _) | (with_reducible refine Kd.C_drewN ?_ _) | (with_reducible refine Kd.C_drew ?_))); (case side2 => exact (Kd.R_reads' HO337.out).2.1); rintro e w19 ⟨rfl, hb⟩; refine ⟨_, rfl, ?_⟩; replace HO337 := zM (Kd.R_below HO337.out hb); replace HO341 := zM (Kd.R_below HO341.out hb); replace HB := zM (below_step (HB.out) hb); (try clear hb); (try clear hb2); (try clear hk); (try clear hi)) | ((with_reducible refine gate_dst (N := 1) rfl ?_); refine box_event ?hg (N := 1) ?hd (cs := #[.int .u64 0, .int .u64 0]) (t := 27) ?hr ?_; (case hd => rfl); (case hg => rfl); (case hr => first | (go_simp; done) | (go_simp; rfl)); intro gb348 hg w20 hbox hb; have BK348 := zM (hbox); have GW348 := zM ((by rw [hg]; exact (below_size (HB.out)) : w.heap.size ≤ gb348)); have GE348 := GW348; replace HO337 := zM (Kd.R_below HO337.out hb); replace HO341 := zM (Kd.R_below HO341.out hb); replace HB := zM (below_step (HB.out) hb); clear hb hbox hg) | ((with_reducible refine gate_dst (N := 2) rfl ?_); refine box_event ?hg (N := 2) ?hd (cs := #[.int .i64 0, .int .i64 0]) (t := 29) ?hr ?_; (case hd => rfl); (case hg => rfl); (case hr => first | (go_simp; done) | (go_simp; rfl)); intro gb349 hg w21 hbox hb; have BK349 := zM (hbox); have GW349 := zM ((by rw [hg]; exact (below_size (by repeat (first | (with_reducible first | exact HB.out | apply pzA | apply pzD | apply pz1 | apply pzs | assumption) | exact HB.out))) : w.heap.size ≤ gb349)); have GE349 := GW349; have NB348_349 := pzf BK348 hg; have NB349_348 := pzg BK348 hg; replace HO337 := zM (Kd.R_below HO337.out hb); replace HO341 := zM (Kd.R_below HO341.out hb); replace BK348 := pzb BK348 hb; replace HB := zM (below_step (by repeat (first | (with_reducible first | exact HB.out | apply pzA | apply pzD | apply pz1 | apply pzs | assumption) | exact HB.out)) hb); clear hb hbox hg; have hnb22 := NB348_349.out; have hnc22 := NB349_348.out; have hcz23_0 := pzc (v := .int .u64 0) BK348 0 rfl; have hcz23_1 := pzc (v := .int .u64 0) BK348 1 rfl; have hfz23_0 := zF BK348.out 0; have hfz23_1 := zF BK348.out 1; have hcz24_0 := pzc (v := .int .i64 0) BK349 0 rfl; have hcz24_1 := pzc (v := .int .i64 0) BK349 1 rfl; have hfz24_0 := zF BK349.out 0; have hfz24_1 := zF BK349.out 1) | ((with_reducible refine gate_callee (f := 9) rfl ?_); refine goesL_ (some 19) rfl rfl Try.func9 (by kernel_rfl) rfl #[.agg #[.int .u64 t344, .int .u64 t345]] rfl (by (try simp only [zT, zC, zN]); first | done | rfl | (simp only [zR, zL]; rfl)) ?_; (with_reducible refine (random_Next.calls t344 t345 t350 t351 t352 t353 t354 _ A3.out).mono ?_); rintro e w25 ⟨rfl, hb⟩; refine ⟨_, rfl, ?_⟩; replace HO337 := zM (Kd.R_below (by (with_reducible repeat (first | apply Kd.R_alloc | apply Kd.R_drewN | apply Kd.R_drew)); exact (Kd.R_mono (Kd.R_mono (Kd.R_far (p := ⟨gb349, 1, none⟩) (Kd.R_far (p := ⟨gb349, 0, none⟩) (Kd.R_far (p := ⟨gb348, 1, none⟩) (Kd.R_far (p := ⟨gb348, 0, none⟩) (Kd.R_types (Kd.R_types HO337.out BK348.out (by decide)) BK349.out (by decide)) (fun _ hk => hk.1.2) (.int .u64 t344)) (fun _ hk => hk.1.2) (.int .u64 t345)) (fun _ hk => hk.2) (.int .i64 t346)) (fun _ hk => hk.2) (.int .i64 t347)) (fun _ h_ => h_.1)) (fun _ h_ => h_.1))) hb); replace HO341 := zM (Kd.R_below (by (with_reducible repeat (first | apply Kd.R_alloc | apply Kd.R_drewN | apply Kd.R_drew)); exact (Kd.R_mono (Kd.R_mono (Kd.R_far (p := ⟨gb349, 1, none⟩) (Kd.R_far (p := ⟨gb349, 0, none⟩) (Kd.R_far (p := ⟨gb348, 1, none⟩) (Kd.R_far (p := ⟨gb348, 0, none⟩) (Kd.R_types (Kd.R_types HO341.out BK348.out (by decide)) BK349.out (by decide)) (fun _ hk => hk.1.2) (.int .u64 t344)) (fun _ hk => hk.1.2) (.int .u64 t345)) (fun _ hk => hk.2) (.int .i64 t346)) (fun _ hk => hk.2) (.int .i64 t347)) (fun _ h_ => h_.1)) (fun _ h_ => h_.1))) hb); replace BK348 := zM (blk_below (g := gb348) (o := .cells #[.int .u64 t344, .int .u64 t345] 27 (0, 0)) (by (with_reducible repeat (first | apply pzN | apply pzd | apply pza)); refine blk_far ?_ NB348_349.out _; (with_reducible repeat (first | apply pzN | apply pzd | apply pza)); refine blk_far ?_ NB348_349.out _; (with_reducible repeat (first | apply pzN | apply pzd | apply pza)); refine blk_put (cs := #[.int .u64 t344, .int .u64 0]) ?_ 1 _ rfl; (with_reducible repeat (first | apply pzN | apply pzd | apply pza)); refine blk_put (cs := #[.int .u64 0, .int .u64 0]) ?_ 0 _ rfl; (with_reducible repeat (first | apply pzN | apply pzd | apply pza)); exact BK348.out) hb); replace BK349 := zM (blk_below (g := gb349) (o := .cells #[.int .i64 t346, .int .i64 t347] 29 (0, 0)) (by (with_reducible repeat (first | apply pzN | apply pzd | apply pza)); refine blk_put (cs := #[.int .i64 t346, .int .i64 0]) ?_ 1 _ rfl; (with_reducible repeat (first | apply pzN | apply pzd | apply pza)); refine blk_put (cs := #[.int .i64 0, .int .i64 0]) ?_ 0 _ rfl; (with_reducible repeat (first | apply pzN | apply pzd | apply pza)); refine blk_far ?_ NB349_348.out _; (with_reducible repeat (first | apply pzN | apply pzd | apply pza)); refine blk_far ?_ NB349_348.out _; (with_reducible repeat (first | apply pzN | apply pzd | apply pza)); exact BK349.out) hb); replace HB := zM (below_step (by repeat (first | (with_reducible first | exact HB.out | apply pzA | apply pzD | apply pz1 | apply pzs | assumption) | exact HB.out)) hb); (try clear hb); (try clear hb2); (try clear hk); (try clear hi)) | ((with_reducible refine gate_dst (N := 4) rfl ?_); refine box_event ?hg (N := 4) ?hd (cs := #[.int .u64 0, .int .u64 0]) (t := 27) ?hr ?_; (case hd => rfl); (case hg => rfl); (case hr => first | (go_simp; done) | (go_simp; rfl)); intro gb355 hg w26 hbox hb; have BK355 := zM (hbox); have GW355 := zM ((by rw [hg]; exact (below_size (by repeat (first | (with_reducible first | exact HB.out | apply pzA | apply pzD | apply pz1 | apply pzs | assumption) | exact HB.out))) : w.heap.size ≤ gb355)); have GE355 := GW355; have NB348_355 := pzf BK348 hg; have NB355_348 := pzg BK348 hg; have NB349_355 := pzf BK349 hg; have NB355_349 := pzg BK349 hg; replace HO337 := zM (Kd.R_below HO337.out hb); replace HO341 := zM (Kd.R_below HO341.out hb); replace BK348 := pzb BK348 hb; replace BK349 := pzb BK349 hb; replace HB := zM (below_step (by repeat (first | (with_reducible first | exact HB.out | apply pzA | apply pzD | apply pz1 | apply pzs | assumption) | exact HB.out)) hb); clear hb hbox hg) | ((with_reducible refine gate_dst (N := 5) rfl ?_); refine box_event ?hg (N := 5) ?hd (cs := #[.int .i64 0, .int .i64 0]) (t := 29) ?hr ?_; (case hd => rfl); (case hg => rfl); (case hr => first | (go_simp; done) | (go_simp; rfl)); intro gb356 hg w27 hbox hb; have BK356 := zM (hbox); have GW356 := zM ((by rw [hg]; exact (below_size (by repeat (first | (with_reducible first | exact HB.out | apply pzA | apply pzD | apply pz1 | apply pzs | assumption) | exact HB.out))) : w.heap.size ≤ gb356)); have GE356 := GW356; have NB348_356 := pzf BK348 hg; have NB356_348 := pzg BK348 hg; have NB349_356 := pzf BK349 hg; have NB356_349 := pzg BK349 hg; have NB355_356 := pzf BK355 hg; have NB356_355 := pzg BK355 hg; replace HO337 := zM (Kd.R_below HO337.out hb); replace HO341 := zM (Kd.R_below HO341.out hb); replace BK348 := pzb BK348 hb; replace BK349 := pzb BK349 hb; replace BK355 := pzb BK355 hb; replace HB := zM (below_step (by repeat (first | (with_reducible first | exact HB.out | apply pzA | apply pzD | apply pz1 | apply pzs | assumption) | exact HB.out)) hb); clear hb hbox hg; have hnb28 := NB355_348.out; have hnc28 := NB348_355.out; have hnb29 := NB355_349.out; have hnc29 := NB349_355.out; have hnb30 := NB355_356.out; have hnc30 := NB356_355.out; have hcz31_0 := pzc (v := .int .u64 0) BK355 0 rfl; have hcz31_1 := pzc (v := .int .u64 0) BK355 1 rfl; have hfz31_0 := zF BK355.out 0; have hfz31_1 := zF BK355.out 1; have hnb32 := NB356_348.out; have hnc32 := NB348_356.out; have hnb33 := NB356_349.out; have hnc33 := NB349_356.out; have hcz34_0 := pzc (v := .int .i64 0) BK356 0 rfl; have hcz34_1 := pzc (v := .int .i64 0) BK356 1 rfl; have hfz34_0 := zF BK356.out 0; have hfz34_1 := zF BK356.out 1))
        have n0_ : Aside0 (Kd.R (Kd.int .u32) 76 ((((w27.setCell ⟨gb355, 0, none⟩ (.int .u64 t351)).setCell ⟨gb355, 1, none⟩ (.int .u64 t352)).setCell ⟨gb356, 0, none⟩ (.int .i64 t353)).setCell ⟨gb356, 1, none⟩ (.int .i64 t354)) w.heap.size (fun k_ => some k_ ≠ (v340 : Value).ownBlock) (.slice Ao18 t335.length co18) t335) := ⟨by (with_reducible repeat (first | apply Kd.R_alloc | apply Kd.R_drewN | apply Kd.R_drew)); exact Kd.R_mono (Kd.R_far (p := ⟨gb356, 1, none⟩) (Kd.R_far (p := ⟨gb356, 0, none⟩) (Kd.R_far (p := ⟨gb355, 1, none⟩) (Kd.R_far (p := ⟨gb355, 0, none⟩) (Kd.R_types (Kd.R_types HO337.out BK355.out (by decide)) BK356.out (by decide)) (fun _ hk => hk.1.2) (.int .u64 t351)) (fun _ hk => hk.1.2) (.int .u64 t352)) (fun _ hk => hk.2) (.int .i64 t353)) (fun _ hk => hk.2) (.int .i64 t354)) (fun _ hk => hk.1.1)⟩
        have n1_ : Aside0 (Kd.R (Kd.int .u32) 76 ((((w27.setCell ⟨gb355, 0, none⟩ (.int .u64 t351)).setCell ⟨gb355, 1, none⟩ (.int .u64 t352)).setCell ⟨gb356, 0, none⟩ (.int .i64 t353)).setCell ⟨gb356, 1, none⟩ (.int .i64 t354)) w.heap.size (fun k_ => some k_ ≠ (.slice Ao18 t335.length co18 : Value).ownBlock) v340 t339) := ⟨by (with_reducible repeat (first | apply Kd.R_alloc | apply Kd.R_drewN | apply Kd.R_drew)); exact Kd.R_mono (Kd.R_far (p := ⟨gb356, 1, none⟩) (Kd.R_far (p := ⟨gb356, 0, none⟩) (Kd.R_far (p := ⟨gb355, 1, none⟩) (Kd.R_far (p := ⟨gb355, 0, none⟩) (Kd.R_types (Kd.R_types HO341.out BK355.out (by decide)) BK356.out (by decide)) (fun _ hk => hk.1.2) (.int .u64 t351)) (fun _ hk => hk.1.2) (.int .u64 t352)) (fun _ hk => hk.2) (.int .i64 t353)) (fun _ hk => hk.2) (.int .i64 t354)) (fun _ hk => hk.1.1)⟩
        have n2_ : Aside0 (((((w27.setCell ⟨gb355, 0, none⟩ (.int .u64 t351)).setCell ⟨gb355, 1, none⟩ (.int .u64 t352)).setCell ⟨gb356, 0, none⟩ (.int .i64 t353)).setCell ⟨gb356, 1, none⟩ (.int .i64 t354)).heap[gb348]? = some (.cells #[.int .u64 t344, .int .u64 t345] 27 (0, 0))) := ⟨by (with_reducible repeat (first | apply pzN | apply pzd | apply pza)); refine blk_far ?_ NB348_356.out _; (with_reducible repeat (first | apply pzN | apply pzd | apply pza)); refine blk_far ?_ NB348_356.out _; (with_reducible repeat (first | apply pzN | apply pzd | apply pza)); refine blk_far ?_ NB348_355.out _; (with_reducible repeat (first | apply pzN | apply pzd | apply pza)); refine blk_far ?_ NB348_355.out _; (with_reducible repeat (first | apply pzN | apply pzd | apply pza)); exact BK348.out⟩
        have n3_ : Aside0 (((((w27.setCell ⟨gb355, 0, none⟩ (.int .u64 t351)).setCell ⟨gb355, 1, none⟩ (.int .u64 t352)).setCell ⟨gb356, 0, none⟩ (.int .i64 t353)).setCell ⟨gb356, 1, none⟩ (.int .i64 t354)).heap[gb349]? = some (.cells #[.int .i64 t346, .int .i64 t347] 29 (0, 0))) := ⟨by (with_reducible repeat (first | apply pzN | apply pzd | apply pza)); refine blk_far ?_ NB349_356.out _; (with_reducible repeat (first | apply pzN | apply pzd | apply pza)); refine blk_far ?_ NB349_356.out _; (with_reducible repeat (first | apply pzN | apply pzd | apply pza)); refine blk_far ?_ NB349_355.out _; (with_reducible repeat (first | apply pzN | apply pzd | apply pza)); refine blk_far ?_ NB349_355.out _; (with_reducible repeat (first | apply pzN | apply pzd | apply pza)); exact BK349.out⟩
        have n4_ : Aside0 (((((w27.setCell ⟨gb355, 0, none⟩ (.int .u64 t351)).setCell ⟨gb355, 1, none⟩ (.int .u64 t352)).setCell ⟨gb356, 0, none⟩ (.int .i64 t353)).setCell ⟨gb356, 1, none⟩ (.int .i64 t354)).heap[gb355]? = some (.cells #[.int .u64 t351, .int .u64 t352] 27 (0, 0))) := ⟨by (with_reducible repeat (first | apply pzN | apply pzd | apply pza)); refine blk_far ?_ NB355_356.out _; (with_reducible repeat (first | apply pzN | apply pzd | apply pza)); refine blk_far ?_ NB355_356.out _; (with_reducible repeat (first | apply pzN | apply pzd | apply pza)); refine blk_put (cs := #[.int .u64 t351, .int .u64 0]) ?_ 1 _ rfl; (with_reducible repeat (first | apply pzN | apply pzd | apply pza)); refine blk_put (cs := #[.int .u64 0, .int .u64 0]) ?_ 0 _ rfl; (with_reducible repeat (first | apply pzN | apply pzd | apply pza)); exact BK355.out⟩
        have n5_ : Aside0 (((((w27.setCell ⟨gb355, 0, none⟩ (.int .u64 t351)).setCell ⟨gb355, 1, none⟩ (.int .u64 t352)).setCell ⟨gb356, 0, none⟩ (.int .i64 t353)).setCell ⟨gb356, 1, none⟩ (.int .i64 t354)).heap[gb356]? = some (.cells #[.int .i64 t353, .int .i64 t354] 29 (0, 0))) := ⟨by (with_reducible repeat (first | apply pzN | apply pzd | apply pza)); refine blk_put (cs := #[.int .i64 t353, .int .i64 0]) ?_ 1 _ rfl; (with_reducible repeat (first | apply pzN | apply pzd | apply pza)); refine blk_put (cs := #[.int .i64 0, .int .i64 0]) ?_ 0 _ rfl; (with_reducible repeat (first | apply pzN | apply pzd | apply pza)); refine blk_far ?_ NB356_355.out _; (with_reducible repeat (first | apply pzN | apply pzd | apply pza)); refine blk_far ?_ NB356_355.out _; (with_reducible repeat (first | apply pzN | apply pzd | apply pza)); exact BK356.out⟩
        have n6_ : Aside0 (Below w.heap.size w ((((w27.setCell ⟨gb355, 0, none⟩ (.int .u64 t351)).setCell ⟨gb355, 1, none⟩ (.int .u64 t352)).setCell ⟨gb356, 0, none⟩ (.int .i64 t353)).setCell ⟨gb356, 1, none⟩ (.int .i64 t354))) := ⟨by repeat (first | (with_reducible first | exact HB.out | apply pzA | apply pzD | apply pz1 | apply pzs | assumption) | exact HB.out)⟩
        (try clear HO337)
        (try clear HO341)
        (try clear BK348)
        (try clear BK349)
        (try clear BK355)
        (try clear BK356)
        (try clear HB)
        generalize ((((w27.setCell ⟨gb355, 0, none⟩ (.int .u64 t351)).setCell ⟨gb355, 1, none⟩ (.int .u64 t352)).setCell ⟨gb356, 0, none⟩ (.int .i64 t353)).setCell ⟨gb356, 1, none⟩ (.int .i64 t354)) = w35 at n0_ n1_ n2_ n3_ n4_ n5_ n6_ ⊢
        have HO337 := n0_
        have HO341 := n1_
        have BK348 := n2_
        have BK349 := n3_
        have BK355 := n4_
        have BK356 := n5_
        have HB := n6_
        clear n0_ n1_ n2_ n3_ n4_ n5_ n6_
        replace HO337 := zM (Kd.R_drew HO337.out)
        replace HO341 := zM (Kd.R_drew HO341.out)
        replace BK348 := zM (blk_drew BK348.out)
        replace BK349 := zM (blk_drew BK349.out)
        replace BK355 := zM (blk_drew BK355.out)
        replace BK356 := zM (blk_drew BK356.out)
        replace HB := zM (below_drew1 HB.out)
        refine start_ (n := 14) (S := fun w' => True) (ds := []) #[false, false, false, false, false, false, false, false, false, false, false, false, false, false] (by kernel_rfl) rfl rfl trivial (fun hHeld => ?_); refine with_tabW brindlewoodlaw4_draws.tab3 brindlewoodlaw4_draws.bits3 (fun HT_ HW_ => ?_)
        generalize w35.drew = w36 at HO337 HO341 BK348 BK349 BK355 BK356 HB hHeld ⊢
        refine inv_at [0, 1, 2, 3, 4, 5, 6, 7, 8, 9, 10, 11, 12, 13] (fun a0_ b a w' => ∃ (v360 : Value) (v364 : Value) (v370 : Value) (gb376 : Nat) (gb377 : Nat) (gb378 : Nat) (m1_ : Value) (m2_ : Value) (m3_ : Value) (m4_ : Value) (m5_ : Value) (m8_ : Value) (m9_ : Value) (m10_ : Value), a = putSel a0_ b [(0, 24, .agg #[.int .u64 t344, .int .u64 t345]), (1, 25, m1_), (2, 26, m2_), (3, 27, m3_), (4, 23, m4_), (5, 28, m5_), (6, 29, .agg #[.int .u64 t372, .int .u64 t373]), (7, 30, .agg #[.int .i64 t374, .int .i64 t375]), (8, 6, m8_), (9, 7, m9_), (10, 8, m10_)] ∧ (Kd.R (Kd.int .u32) 76 w' w.heap.size (fun k_ => some k_ ≠ (v340 : Value).ownBlock) (.slice Ao18 t335.length co18) t335) ∧ (Kd.R (Kd.int .u32) 76 w' w.heap.size (fun k_ => some k_ ≠ (.slice Ao18 t335.length co18 : Value).ownBlock) v340 t339) ∧ (w'.heap[gb348]? = some (.cells #[.int .u64 t344, .int .u64 t345] 27 (0, 0))) ∧ (w'.heap[gb349]? = some (.cells #[.int .i64 t346, .int .i64 t347] 29 (0, 0))) ∧ (w'.heap[gb355]? = some (.cells #[.int .u64 t351, .int .u64 t352] 27 (0, 0))) ∧ (w'.heap[gb356]? = some (.cells #[.int .i64 t353, .int .i64 t354] 29 (0, 0))) ∧ (Below w.heap.size w w') ∧ (b 8 = true → b 9 = true → gb377 ≠ gb376) ∧ (b 8 = true → b 9 = true → gb376 ≠ gb377) ∧ (b 8 = true → b 10 = true → gb378 ≠ gb376) ∧ (b 8 = true → b 10 = true → gb376 ≠ gb378) ∧ (b 9 = true → b 10 = true → gb378 ≠ gb377) ∧ (b 9 = true → b 10 = true → gb377 ≠ gb378) ∧ (b 1 = true → Kd.R (Kd.int .u32) 76 w' w.heap.size (fun k_ => some k_ ≠ (.slice Ao18 t335.length co18 : Value).ownBlock ∧ some k_ ≠ (v340 : Value).ownBlock) v360 t359) ∧ (b 1 = true → Kd.R (Kd.int .u32) 76 w' w.heap.size (fun k_ => some k_ ≠ (.slice Ao18 t335.length co18 : Value).ownBlock ∧ some k_ ≠ (v340 : Value).ownBlock) v364 t363) ∧ (b 3 = true → Kd.R (Kd.int .u32) 76 w' w.heap.size (fun k_ => some k_ ≠ (.slice Ao18 t335.length co18 : Value).ownBlock ∧ some k_ ≠ (v340 : Value).ownBlock) v370 t369) ∧ (b 8 = true → b 11 = false → w'.heap[gb376]? = some (.cells #[.bool false, .slice none 0 0] 24 (0, 0))) ∧ (b 8 = true → w.heap.size ≤ gb376) ∧ (b 8 = true → w.heap.size ≤ gb376) ∧ (b 8 = true → gb348 ≠ gb376) ∧ (b 8 = true → gb376 ≠ gb348) ∧ (b 8 = true → gb349 ≠ gb376) ∧ (b 8 = true → gb376 ≠ gb349) ∧ (b 8 = true → gb355 ≠ gb376) ∧ (b 8 = true → gb376 ≠ gb355) ∧ (b 8 = true → gb356 ≠ gb376) ∧ (b 8 = true → gb376 ≠ gb356) ∧ (b 9 = true → b 12 = false → w'.heap[gb377]? = some (.cells #[.int .u64 0, .int .u64 0] 27 (0, 0))) ∧ (b 9 = true → w.heap.size ≤ gb377) ∧ (b 9 = true → w.heap.size ≤ gb377) ∧ (b 9 = true → gb348 ≠ gb377) ∧ (b 9 = true → gb377 ≠ gb348) ∧ (b 9 = true → gb349 ≠ gb377) ∧ (b 9 = true → gb377 ≠ gb349) ∧ (b 9 = true → gb355 ≠ gb377) ∧ (b 9 = true → gb377 ≠ gb355) ∧ (b 9 = true → gb356 ≠ gb377) ∧ (b 9 = true → gb377 ≠ gb356) ∧ (b 10 = true → b 13 = false → w'.heap[gb378]? = some (.cells #[.int .i64 0, .int .i64 0] 29 (0, 0))) ∧ (b 10 = true → w.heap.size ≤ gb378) ∧ (b 10 = true → w.heap.size ≤ gb378) ∧ (b 10 = true → gb348 ≠ gb378) ∧ (b 10 = true → gb378 ≠ gb348) ∧ (b 10 = true → gb349 ≠ gb378) ∧ (b 10 = true → gb378 ≠ gb349) ∧ (b 10 = true → gb355 ≠ gb378) ∧ (b 10 = true → gb378 ≠ gb355) ∧ (b 10 = true → gb356 ≠ gb378) ∧ (b 10 = true → gb378 ≠ gb356) ∧ (b 11 = true → w'.heap[gb376]? = some (.cells #[.bool t368, v370] 24 (0, 0))) ∧ (b 12 = true → w'.heap[gb377]? = some (.cells #[.int .u64 t372, .int .u64 t373] 27 (0, 0))) ∧ (b 13 = true → w'.heap[gb378]? = some (.cells #[.int .i64 t374, .int .i64 t375] 29 (0, 0))) ∧ (b 1 = true → (m1_ : Value) = .agg #[.int .i64 t357, .bool t358, v360, .bool t362, v364, .string t366, .int .i64 t367]) ∧ (b 2 = true → (m2_ : Value) = .agg #[.bool t358, v360]) ∧ (b 3 = true → (m3_ : Value) = .tuple #[.agg #[.bool t368, v370], .agg #[.int .u64 t372, .int .u64 t373], .agg #[.int .i64 t374, .int .i64 t375]]) ∧ (b 4 = true → (m4_ : Value) = .tuple #[.agg #[.bool t368, v370], .agg #[.int .u64 t372, .int .u64 t373], .agg #[.int .i64 t374, .int .i64 t375]]) ∧ (b 5 = true → (m5_ : Value) = .agg #[.bool t368, v370]) ∧ (b 8 = true → (m8_ : Value) = .pointer (some ⟨gb376, 0, none⟩)) ∧ (b 9 = true → (m9_ : Value) = .pointer (some ⟨gb377, 0, none⟩)) ∧ (b 10 = true → (m10_ : Value) = .pointer (some ⟨gb378, 0, none⟩))) HT_.out HW_.out (by kernel_rfl) (by kernel_rfl) ?_ ?_ ?_
        ·exact ⟨.bool false, .bool false, .bool false, 0, 0, 0, .bool false, .bool false, .bool false, .bool false, .bool false, .bool false, .bool false, .bool false, by simp only [putSel, Bool.false_eq_true, if_false], HO337.out, HO341.out, BK348.out, BK349.out, BK355.out, BK356.out, HB.out, fun h_ => absurd h_ (by decide), fun h_ => absurd h_ (by decide), fun h_ => absurd h_ (by decide), fun h_ => absurd h_ (by decide), fun h_ => absurd h_ (by decide), fun h_ => absurd h_ (by decide), fun h_ => absurd h_ (by decide), fun h_ => absurd h_ (by decide), fun h_ => absurd h_ (by decide), fun h_ => absurd h_ (by decide), fun h_ => absurd h_ (by decide), fun h_ => absurd h_ (by decide), fun h_ => absurd h_ (by decide), fun h_ => absurd h_ (by decide), fun h_ => absurd h_ (by decide), fun h_ => absurd h_ (by decide), fun h_ => absurd h_ (by decide), fun h_ => absurd h_ (by decide), fun h_ => absurd h_ (by decide), fun h_ => absurd h_ (by decide), fun h_ => absurd h_ (by decide), fun h_ => absurd h_ (by decide), fun h_ => absurd h_ (by decide), fun h_ => absurd h_ (by decide), fun h_ => absurd h_ (by decide), fun h_ => absurd h_ (by decide), fun h_ => absurd h_ (by decide), fun h_ => absurd h_ (by decide), fun h_ => absurd h_ (by decide), fun h_ => absurd h_ (by decide), fun h_ => absurd h_ (by decide), fun h_ => absurd h_ (by decide), fun h_ => absurd h_ (by decide), fun h_ => absurd h_ (by decide), fun h_ => absurd h_ (by decide), fun h_ => absurd h_ (by decide), fun h_ => absurd h_ (by decide), fun h_ => absurd h_ (by decide), fun h_ => absurd h_ (by decide), fun h_ => absurd h_ (by decide), fun h_ => absurd h_ (by decide), fun h_ => absurd h_ (by decide), fun h_ => absurd h_ (by decide), fun h_ => absurd h_ (by decide), fun h_ => absurd h_ (by decide), fun h_ => absurd h_ (by decide), fun h_ => absurd h_ (by decide), fun h_ => absurd h_ (by decide), fun h_ => absurd h_ (by decide), fun h_ => absurd h_ (by decide), fun h_ => absurd h_ (by decide), fun h_ => absurd h_ (by decide), fun h_ => absurd h_ (by decide)⟩
        ·skip
         clear BK348 BK349 BK355 BK356 HB HO337 HO341
         refine steps_cons ?_ ?_
         ·rintro b a w' ⟨v360, v364, v370, gb376, gb377, gb378, m1_, m2_, m3_, m4_, m5_, m8_, m9_, m10_, ha, Q_HO337, Q_HO341, Q_BK348, Q_BK349, Q_BK355, Q_BK356, Q_HB, Q_NB377_376, Q_NB376_377, Q_NB378_376, Q_NB376_378, Q_NB378_377, Q_NB377_378, Q_HO361, Q_HO365, Q_HO371, Q_BK376, Q_GW376, Q_GE376, Q_NB348_376, Q_NB376_348, Q_NB349_376, Q_NB376_349, Q_NB355_376, Q_NB376_355, Q_NB356_376, Q_NB376_356, Q_BK377, Q_GW377, Q_GE377, Q_NB348_377, Q_NB377_348, Q_NB349_377, Q_NB377_349, Q_NB355_377, Q_NB377_355, Q_NB356_377, Q_NB377_356, Q_BK378, Q_GW378, Q_GE378, Q_NB348_378, Q_NB378_348, Q_NB349_378, Q_NB378_349, Q_NB355_378, Q_NB378_355, Q_NB356_378, Q_NB378_356, Q_BK376_e11, Q_BK377_e12, Q_BK378_e13, Q_X1_, Q_X2_, Q_X3_, Q_X4_, Q_X5_, Q_X8_, Q_X9_, Q_X10_⟩ hb_ hon hoff
          refine ⟨_, rfl, fun K hK => ?_⟩
          have e1 : a.tmps[1]? = some (.pointer (some ⟨gb348, 0, none⟩)) := by rw [ha]; exact (putSel_off rfl).trans rfl
          replace ha := zM ha
          have HO337 := zM Q_HO337
          have HO341 := zM Q_HO341
          have BK348 := zM Q_BK348
          have BK349 := zM Q_BK349
          have BK355 := zM Q_BK355
          have BK356 := zM Q_BK356
          have HB := zM Q_HB
          have hc0_ : w'.cell? ⟨gb348, 0, none⟩ = some (.int .u64 t344) := (blk_cell BK348.out 0).trans rfl
          have hc1_ : w'.cell? ⟨gb348, 1, none⟩ = some (.int .u64 t345) := (blk_cell BK348.out 1).trans rfl
          refine value_ (w1 := w') (v := .agg #[.int .u64 t344, .int .u64 t345]) (by rfl) rfl ?_ ?_
          ·go_simp
           (try simp only [i64_w])
           try rfl
          refine hK.out _ _ ⟨v360, v364, v370, gb376, gb377, gb378, m1_, m2_, m3_, m4_, m5_, m8_, m9_, m10_, (by rw [ha.out]; exact putSel_upk 0 hb_ rfl rfl rfl), Q_HO337, Q_HO341, Q_BK348, Q_BK349, Q_BK355, Q_BK356, Q_HB, Q_NB377_376, Q_NB376_377, Q_NB378_376, Q_NB376_378, Q_NB378_377, Q_NB377_378, Q_HO361, Q_HO365, fun h0_ => absurd ((hoff 3 (by kernel_rfl)).symm.trans h0_) (by decide), Q_BK376, Q_GW376, Q_GE376, Q_NB348_376, Q_NB376_348, Q_NB349_376, Q_NB376_349, Q_NB355_376, Q_NB376_355, Q_NB356_376, Q_NB376_356, Q_BK377, Q_GW377, Q_GE377, Q_NB348_377, Q_NB377_348, Q_NB349_377, Q_NB377_349, Q_NB355_377, Q_NB377_355, Q_NB356_377, Q_NB377_356, Q_BK378, Q_GW378, Q_GE378, Q_NB348_378, Q_NB378_348, Q_NB349_378, Q_NB378_349, Q_NB355_378, Q_NB378_355, Q_NB356_378, Q_NB378_356, fun h0_ => absurd ((hoff 11 (by kernel_rfl)).symm.trans h0_) (by decide), fun h0_ => absurd ((hoff 12 (by kernel_rfl)).symm.trans h0_) (by decide), fun h0_ => absurd ((hoff 13 (by kernel_rfl)).symm.trans h0_) (by decide), Q_X1_, Q_X2_, fun h0_ => absurd ((hoff 3 (by kernel_rfl)).symm.trans h0_) (by decide), fun h0_ => absurd ((hoff 4 (by kernel_rfl)).symm.trans h0_) (by decide), fun h0_ => absurd ((hoff 5 (by kernel_rfl)).symm.trans h0_) (by decide), Q_X8_, Q_X9_, Q_X10_⟩
         refine steps_cons ?_ ?_
         ·rintro b a w' ⟨v360, v364, v370, gb376, gb377, gb378, m1_, m2_, m3_, m4_, m5_, m8_, m9_, m10_, ha, Q_HO337, Q_HO341, Q_BK348, Q_BK349, Q_BK355, Q_BK356, Q_HB, Q_NB377_376, Q_NB376_377, Q_NB378_376, Q_NB376_378, Q_NB378_377, Q_NB377_378, Q_HO361, Q_HO365, Q_HO371, Q_BK376, Q_GW376, Q_GE376, Q_NB348_376, Q_NB376_348, Q_NB349_376, Q_NB376_349, Q_NB355_376, Q_NB376_355, Q_NB356_376, Q_NB376_356, Q_BK377, Q_GW377, Q_GE377, Q_NB348_377, Q_NB377_348, Q_NB349_377, Q_NB377_349, Q_NB355_377, Q_NB377_355, Q_NB356_377, Q_NB377_356, Q_BK378, Q_GW378, Q_GE378, Q_NB348_378, Q_NB378_348, Q_NB349_378, Q_NB378_349, Q_NB355_378, Q_NB378_355, Q_NB356_378, Q_NB378_356, Q_BK376_e11, Q_BK377_e12, Q_BK378_e13, Q_X1_, Q_X2_, Q_X3_, Q_X4_, Q_X5_, Q_X8_, Q_X9_, Q_X10_⟩ hb_ hon hoff
          refine ⟨_, rfl, fun K hK => ?_⟩
          replace ha := zM ha
          have HO337 := zM Q_HO337
          have HO341 := zM Q_HO341
          have BK348 := zM Q_BK348
          have BK349 := zM Q_BK349
          have BK355 := zM Q_BK355
          have BK356 := zM Q_BK356
          have HB := zM Q_HB
          refine goes_ Try.func41 (by kernel_rfl) rfl #[.int .i64 1] (by rfl) rfl rfl (by first | (simp only [zT, zC, zN, Act.eval, Array.getD_eq_getD_getElem?, Option.getD_some]; done) | (simp only [zT, zC, zN, Act.eval, Array.getD_eq_getD_getElem?, Option.getD_some]; rfl)) ?_
          with_reducible refine (brindlewoodlaw4_whole.calls k 1 t357 t358 t359 t362 t363 t366 t367 _ A4.out).mono ?_
          rintro e w37 ⟨v360, v364, rfl, ho0, ho1, hb⟩
          refine ⟨_, rfl, ?_⟩
          have n0_ := zM (Kd.R_mono (Kd.R_told (Kd.R_told (Kd.R_old HO337.out hb) (Kd.R_base ho0)) (Kd.R_base ho1)) (fun _ h_ => h_.1))
          have n1_ := zM (Kd.R_mono (Kd.R_told (Kd.R_told (Kd.R_old HO341.out hb) (Kd.R_base ho0)) (Kd.R_base ho1)) (fun _ h_ => h_.1))
          have n2_ := zM (Kd.R_lower (Kd.R_new' (Kd.R_new' ho0 (Kd.R_lt HO337.out)) (Kd.R_lt HO341.out)) (below_size (by repeat (first | (with_reducible first | exact HB.out | apply pzA | apply pzD | apply pz1 | apply pzs | assumption) | exact HB.out))))
          have n3_ := zM (Kd.R_lower (Kd.R_new' (Kd.R_new' ho1 (Kd.R_lt HO337.out)) (Kd.R_lt HO341.out)) (below_size (by repeat (first | (with_reducible first | exact HB.out | apply pzA | apply pzD | apply pz1 | apply pzs | assumption) | exact HB.out))))
          have n4_ := pzb BK348 hb
          have n5_ := pzb BK349 hb
          have n6_ := pzb BK355 hb
          have n7_ := pzb BK356 hb
          have n8_ := zM (below_step (by repeat (first | (with_reducible first | exact HB.out | apply pzA | apply pzD | apply pz1 | apply pzs | assumption) | exact HB.out)) hb)
          have z_BK376 := fun (h0_ : b 8 = true) (h1_ : b 11 = false) => (show w37.heap[gb376]? = some (.cells #[.bool false, .slice none 0 0] 24 (0, 0)) from by first | exact (blk_below (g := gb376) (o := .cells #[.bool false, .slice none 0 0] 24 (0, 0)) (by (with_reducible repeat (first | apply pzN | apply pzd | apply pza)); exact (Q_BK376 h0_ h1_)) hb))
          have z_BK377 := fun (h0_ : b 9 = true) (h1_ : b 12 = false) => (show w37.heap[gb377]? = some (.cells #[.int .u64 0, .int .u64 0] 27 (0, 0)) from by first | exact (blk_below (g := gb377) (o := .cells #[.int .u64 0, .int .u64 0] 27 (0, 0)) (by (with_reducible repeat (first | apply pzN | apply pzd | apply pza)); exact (Q_BK377 h0_ h1_)) hb))
          have z_BK378 := fun (h0_ : b 10 = true) (h1_ : b 13 = false) => (show w37.heap[gb378]? = some (.cells #[.int .i64 0, .int .i64 0] 29 (0, 0)) from by first | exact (blk_below (g := gb378) (o := .cells #[.int .i64 0, .int .i64 0] 29 (0, 0)) (by (with_reducible repeat (first | apply pzN | apply pzd | apply pza)); exact (Q_BK378 h0_ h1_)) hb))
          clear HO337
          clear HO341
          clear BK348
          clear BK349
          clear BK355
          clear BK356
          clear HB
          have HO337 := n0_
          have HO341 := n1_
          have HO361 := n2_
          have HO365 := n3_
          have BK348 := n4_
          have BK349 := n5_
          have BK355 := n6_
          have BK356 := n7_
          have HB := n8_
          clear n0_ n1_ n2_ n3_ n4_ n5_ n6_ n7_ n8_
          (try clear hb)
          (try clear hb2)
          (try clear hk)
          (try clear hi)
          (try clear ho0)
          (try clear ho1)
          refine hK.out _ _ ⟨v360, v364, v370, gb376, gb377, gb378, (.agg #[.int .i64 t357, .bool t358, v360, .bool t362, v364, .string t366, .int .i64 t367]), m2_, m3_, m4_, m5_, m8_, m9_, m10_, (by rw [ha.out]; exact putSel_upk 1 hb_ rfl rfl rfl), (by (with_reducible repeat (first | apply Kd.R_alloc | apply Kd.R_drewN | apply Kd.R_drew)); exact Kd.R_mono HO337.out (fun _ hk => by first | exact ⟨hk.1.1, ⟨hk.1.2, hk.2⟩⟩ | exact hk | simp only [ne_eq, hk, not_false_eq_true, and_self])), (by (with_reducible repeat (first | apply Kd.R_alloc | apply Kd.R_drewN | apply Kd.R_drew)); exact Kd.R_mono HO341.out (fun _ hk => by first | exact ⟨hk.1.1, ⟨hk.1.2, hk.2⟩⟩ | exact hk | simp only [ne_eq, hk, not_false_eq_true, and_self])), BK348.out, BK349.out, BK355.out, BK356.out, (by repeat (first | (with_reducible first | exact HB.out | apply pzA | apply pzD | apply pz1 | apply pzs | assumption) | exact HB.out)), Q_NB377_376, Q_NB376_377, Q_NB378_376, Q_NB376_378, Q_NB378_377, Q_NB377_378, fun _ => (by (with_reducible repeat (first | apply Kd.R_alloc | apply Kd.R_drewN | apply Kd.R_drew)); exact Kd.R_mono HO361.out (fun _ hk => by first | exact ⟨hk.1.2, ⟨hk.2, hk.1.1⟩⟩ | exact hk | simp only [ne_eq, hk, not_false_eq_true, and_self])), fun _ => (by (with_reducible repeat (first | apply Kd.R_alloc | apply Kd.R_drewN | apply Kd.R_drew)); exact Kd.R_mono HO365.out (fun _ hk => by first | exact ⟨hk.1.2, ⟨hk.2, hk.1.1⟩⟩ | exact hk | simp only [ne_eq, hk, not_false_eq_true, and_self])), fun h0_ => absurd ((hoff 3 (by kernel_rfl)).symm.trans h0_) (by decide), z_BK376, Q_GW376, Q_GE376, Q_NB348_376, Q_NB376_348, Q_NB349_376, Q_NB376_349, Q_NB355_376, Q_NB376_355, Q_NB356_376, Q_NB376_356, z_BK377, Q_GW377, Q_GE377, Q_NB348_377, Q_NB377_348, Q_NB349_377, Q_NB377_349, Q_NB355_377, Q_NB377_355, Q_NB356_377, Q_NB377_356, z_BK378, Q_GW378, Q_GE378, Q_NB348_378, Q_NB378_348, Q_NB349_378, Q_NB378_349, Q_NB355_378, Q_NB378_355, Q_NB356_378, Q_NB378_356, fun h0_ => absurd ((hoff 11 (by kernel_rfl)).symm.trans h0_) (by decide), fun h0_ => absurd ((hoff 12 (by kernel_rfl)).symm.trans h0_) (by decide), fun h0_ => absurd ((hoff 13 (by kernel_rfl)).symm.trans h0_) (by decide), fun _ => rfl, fun h0_ => absurd ((hoff 2 (by kernel_rfl)).symm.trans h0_) (by decide), fun h0_ => absurd ((hoff 3 (by kernel_rfl)).symm.trans h0_) (by decide), fun h0_ => absurd ((hoff 4 (by kernel_rfl)).symm.trans h0_) (by decide), fun h0_ => absurd ((hoff 5 (by kernel_rfl)).symm.trans h0_) (by decide), Q_X8_, Q_X9_, Q_X10_⟩
         refine steps_cons ?_ ?_
         ·rintro b a w' ⟨v360, v364, v370, gb376, gb377, gb378, m1_, m2_, m3_, m4_, m5_, m8_, m9_, m10_, ha, Q_HO337, Q_HO341, Q_BK348, Q_BK349, Q_BK355, Q_BK356, Q_HB, Q_NB377_376, Q_NB376_377, Q_NB378_376, Q_NB376_378, Q_NB378_377, Q_NB377_378, Q_HO361, Q_HO365, Q_HO371, Q_BK376, Q_GW376, Q_GE376, Q_NB348_376, Q_NB376_348, Q_NB349_376, Q_NB376_349, Q_NB355_376, Q_NB376_355, Q_NB356_376, Q_NB376_356, Q_BK377, Q_GW377, Q_GE377, Q_NB348_377, Q_NB377_348, Q_NB349_377, Q_NB377_349, Q_NB355_377, Q_NB377_355, Q_NB356_377, Q_NB377_356, Q_BK378, Q_GW378, Q_GE378, Q_NB348_378, Q_NB378_348, Q_NB349_378, Q_NB378_349, Q_NB355_378, Q_NB378_355, Q_NB356_378, Q_NB378_356, Q_BK376_e11, Q_BK377_e12, Q_BK378_e13, Q_X1_, Q_X2_, Q_X3_, Q_X4_, Q_X5_, Q_X8_, Q_X9_, Q_X10_⟩ hb_ hon hoff
          refine ⟨_, rfl, fun K hK => ?_⟩
          have e25 : a.tmps[25]? = some (m1_) := by rw [ha]; exact putSel_on (e := (1, 25, m1_)) 1 rfl rfl (hon 1 (by kernel_rfl)) rfl
          rw [Q_X1_ (hon 1 (by kernel_rfl))] at e25
          replace ha := zM ha
          have HO337 := zM Q_HO337
          have HO341 := zM Q_HO341
          have BK348 := zM Q_BK348
          have BK349 := zM Q_BK349
          have BK355 := zM Q_BK355
          have BK356 := zM Q_BK356
          have HB := zM Q_HB
          have HO361 := zM (Q_HO361 (hon 1 (by kernel_rfl)))
          have HO365 := zM (Q_HO365 (hon 1 (by kernel_rfl)))
          obtain ⟨Ao2_0, co2_0, eo_⟩ := Kd.R_slice HO361.out
          subst eo_
          obtain ⟨Ao2_1, co2_1, eo_⟩ := Kd.R_slice HO365.out
          subst eo_
          refine value_ (w1 := w') (v := .agg #[.bool t358, .slice Ao2_0 t359.length co2_0]) (by rfl) rfl ?_ ?_
          ·go_simp
           (try simp only [i64_w])
           try rfl
          refine hK.out _ _ ⟨.slice Ao2_0 t359.length co2_0, .slice Ao2_1 t363.length co2_1, v370, gb376, gb377, gb378, m1_, (.agg #[.bool t358, .slice Ao2_0 t359.length co2_0]), m3_, m4_, m5_, m8_, m9_, m10_, (by rw [ha.out]; exact putSel_upk 2 hb_ rfl rfl rfl), Q_HO337, Q_HO341, Q_BK348, Q_BK349, Q_BK355, Q_BK356, Q_HB, Q_NB377_376, Q_NB376_377, Q_NB378_376, Q_NB376_378, Q_NB378_377, Q_NB377_378, Q_HO361, Q_HO365, fun h0_ => absurd ((hoff 3 (by kernel_rfl)).symm.trans h0_) (by decide), Q_BK376, Q_GW376, Q_GE376, Q_NB348_376, Q_NB376_348, Q_NB349_376, Q_NB376_349, Q_NB355_376, Q_NB376_355, Q_NB356_376, Q_NB376_356, Q_BK377, Q_GW377, Q_GE377, Q_NB348_377, Q_NB377_348, Q_NB349_377, Q_NB377_349, Q_NB355_377, Q_NB377_355, Q_NB356_377, Q_NB377_356, Q_BK378, Q_GW378, Q_GE378, Q_NB348_378, Q_NB378_348, Q_NB349_378, Q_NB378_349, Q_NB355_378, Q_NB378_355, Q_NB356_378, Q_NB378_356, fun h0_ => absurd ((hoff 11 (by kernel_rfl)).symm.trans h0_) (by decide), fun h0_ => absurd ((hoff 12 (by kernel_rfl)).symm.trans h0_) (by decide), fun h0_ => absurd ((hoff 13 (by kernel_rfl)).symm.trans h0_) (by decide), Q_X1_, fun _ => rfl, fun h0_ => absurd ((hoff 3 (by kernel_rfl)).symm.trans h0_) (by decide), fun h0_ => absurd ((hoff 4 (by kernel_rfl)).symm.trans h0_) (by decide), fun h0_ => absurd ((hoff 5 (by kernel_rfl)).symm.trans h0_) (by decide), Q_X8_, Q_X9_, Q_X10_⟩
         refine steps_cons ?_ ?_
         ·rintro b a w' ⟨v360, v364, v370, gb376, gb377, gb378, m1_, m2_, m3_, m4_, m5_, m8_, m9_, m10_, ha, Q_HO337, Q_HO341, Q_BK348, Q_BK349, Q_BK355, Q_BK356, Q_HB, Q_NB377_376, Q_NB376_377, Q_NB378_376, Q_NB376_378, Q_NB378_377, Q_NB377_378, Q_HO361, Q_HO365, Q_HO371, Q_BK376, Q_GW376, Q_GE376, Q_NB348_376, Q_NB376_348, Q_NB349_376, Q_NB376_349, Q_NB355_376, Q_NB376_355, Q_NB356_376, Q_NB376_356, Q_BK377, Q_GW377, Q_GE377, Q_NB348_377, Q_NB377_348, Q_NB349_377, Q_NB377_349, Q_NB355_377, Q_NB377_355, Q_NB356_377, Q_NB377_356, Q_BK378, Q_GW378, Q_GE378, Q_NB348_378, Q_NB378_348, Q_NB349_378, Q_NB378_349, Q_NB355_378, Q_NB378_355, Q_NB356_378, Q_NB378_356, Q_BK376_e11, Q_BK377_e12, Q_BK378_e13, Q_X1_, Q_X2_, Q_X3_, Q_X4_, Q_X5_, Q_X8_, Q_X9_, Q_X10_⟩ hb_ hon hoff
          refine ⟨_, rfl, fun K hK => ?_⟩
          have e24 : a.tmps[24]? = some (.agg #[.int .u64 t344, .int .u64 t345]) := by rw [ha]; exact putSel_on (e := (0, 24, .agg #[.int .u64 t344, .int .u64 t345])) 0 rfl rfl (hon 0 (by kernel_rfl)) rfl
          have e26 : a.tmps[26]? = some (m2_) := by rw [ha]; exact putSel_on (e := (2, 26, m2_)) 2 rfl rfl (hon 2 (by kernel_rfl)) rfl
          rw [Q_X2_ (hon 2 (by kernel_rfl))] at e26
          replace ha := zM ha
          have HO337 := zM Q_HO337
          have HO341 := zM Q_HO341
          have BK348 := zM Q_BK348
          have BK349 := zM Q_BK349
          have BK355 := zM Q_BK355
          have BK356 := zM Q_BK356
          have HB := zM Q_HB
          have HO361 := zM (Q_HO361 (hon 1 (by kernel_rfl)))
          have HO365 := zM (Q_HO365 (hon 1 (by kernel_rfl)))
          obtain ⟨Ao39, co39, eo39⟩ := Kd.R_slice HO361.out
          (first | subst eo39 | (injection eo39 with f1_ f2_ f3_; have f4_ := f1_.symm; have f5_ := f3_.symm; clear f1_ f2_ f3_; subst f4_; subst f5_))
          refine goes_ Try.func16 (by kernel_rfl) rfl #[.agg #[.int .u64 t344, .int .u64 t345], .agg #[.bool t358, .slice Ao39 t359.length co39]] (by rfl) rfl rfl (by first | (simp only [zT, zC, zN, Act.eval, Array.getD_eq_getD_getElem?, Option.getD_some, e24, e26]; done) | (simp only [zT, zC, zN, Act.eval, Array.getD_eq_getD_getElem?, Option.getD_some, e24, e26]; rfl)) ?_
          with_reducible refine (random_Below.calls k t344 t345 t358 _ _ t359 t368 t369 t372 t373 t374 t375 _ ?side1 ?side2 A5.out).mono ?_
          (case side1 => repeat (first | exact (Kd.R_reads' HO361.out).2.2 | (with_reducible refine Kd.C_alloc ?_ _) | (with_reducible refine Kd.C_drewN ?_ _) | (with_reducible refine Kd.C_drew ?_)))
          (case side2 => exact (Kd.R_reads' HO361.out).2.1)
          rintro e w40 ⟨v370, rfl, ho0, hb⟩
          refine ⟨_, rfl, ?_⟩
          have n0_ := zM (Kd.R_elder' HO337.out (Kd.R_base ho0) hb)
          have n1_ := zM (Kd.R_elder' HO341.out (Kd.R_base ho0) hb)
          have n2_ := zM (Kd.R_elder' HO361.out (Kd.R_base ho0) hb)
          have n3_ := zM (Kd.R_elder' HO365.out (Kd.R_base ho0) hb)
          have n4_ := zM (Kd.R_lower (Kd.R_new' (Kd.R_new' (Kd.R_new' (Kd.R_new' ho0 (Kd.R_lt HO337.out)) (Kd.R_lt HO341.out)) (Kd.R_lt HO361.out)) (Kd.R_lt HO365.out)) (below_size (by repeat (first | (with_reducible first | exact HB.out | apply pzA | apply pzD | apply pz1 | apply pzs | assumption) | exact HB.out))))
          have n5_ := pzb BK348 hb
          have n6_ := pzb BK349 hb
          have n7_ := pzb BK355 hb
          have n8_ := pzb BK356 hb
          have n9_ := zM (below_step (by repeat (first | (with_reducible first | exact HB.out | apply pzA | apply pzD | apply pz1 | apply pzs | assumption) | exact HB.out)) hb)
          have z_BK376 := fun (h0_ : b 8 = true) (h1_ : b 11 = false) => (show w40.heap[gb376]? = some (.cells #[.bool false, .slice none 0 0] 24 (0, 0)) from by first | exact (blk_below (g := gb376) (o := .cells #[.bool false, .slice none 0 0] 24 (0, 0)) (by (with_reducible repeat (first | apply pzN | apply pzd | apply pza)); exact (Q_BK376 h0_ h1_)) hb))
          have z_BK377 := fun (h0_ : b 9 = true) (h1_ : b 12 = false) => (show w40.heap[gb377]? = some (.cells #[.int .u64 0, .int .u64 0] 27 (0, 0)) from by first | exact (blk_below (g := gb377) (o := .cells #[.int .u64 0, .int .u64 0] 27 (0, 0)) (by (with_reducible repeat (first | apply pzN | apply pzd | apply pza)); exact (Q_BK377 h0_ h1_)) hb))
          have z_BK378 := fun (h0_ : b 10 = true) (h1_ : b 13 = false) => (show w40.heap[gb378]? = some (.cells #[.int .i64 0, .int .i64 0] 29 (0, 0)) from by first | exact (blk_below (g := gb378) (o := .cells #[.int .i64 0, .int .i64 0] 29 (0, 0)) (by (with_reducible repeat (first | apply pzN | apply pzd | apply pza)); exact (Q_BK378 h0_ h1_)) hb))
          clear HO337
          clear HO341
          clear HO361
          clear HO365
          clear BK348
          clear BK349
          clear BK355
          clear BK356
          clear HB
          have HO337 := n0_
          have HO341 := n1_
          have HO361 := n2_
          have HO365 := n3_
          have HO371 := n4_
          have BK348 := n5_
          have BK349 := n6_
          have BK355 := n7_
          have BK356 := n8_
          have HB := n9_
          clear n0_ n1_ n2_ n3_ n4_ n5_ n6_ n7_ n8_ n9_
          (try clear hb)
          (try clear hb2)
          (try clear hk)
          (try clear hi)
          (try clear ho0)
          refine hK.out _ _ ⟨.slice Ao39 t359.length co39, v364, v370, gb376, gb377, gb378, m1_, m2_, (.tuple #[.agg #[.bool t368, v370], .agg #[.int .u64 t372, .int .u64 t373], .agg #[.int .i64 t374, .int .i64 t375]]), m4_, m5_, m8_, m9_, m10_, (by rw [ha.out]; exact putSel_upk 3 hb_ rfl rfl rfl), (by (with_reducible repeat (first | apply Kd.R_alloc | apply Kd.R_drewN | apply Kd.R_drew)); exact Kd.R_mono HO337.out (fun _ hk => by first | exact ⟨hk.1.1, ⟨hk.1.2.1, ⟨hk.1.2.2, hk.2⟩⟩⟩ | exact hk | simp only [ne_eq, hk, not_false_eq_true, and_self])), (by (with_reducible repeat (first | apply Kd.R_alloc | apply Kd.R_drewN | apply Kd.R_drew)); exact Kd.R_mono HO341.out (fun _ hk => by first | exact ⟨hk.1.1, ⟨hk.1.2.1, ⟨hk.1.2.2, hk.2⟩⟩⟩ | exact hk | simp only [ne_eq, hk, not_false_eq_true, and_self])), BK348.out, BK349.out, BK355.out, BK356.out, (by repeat (first | (with_reducible first | exact HB.out | apply pzA | apply pzD | apply pz1 | apply pzs | assumption) | exact HB.out)), Q_NB377_376, Q_NB376_377, Q_NB378_376, Q_NB376_378, Q_NB378_377, Q_NB377_378, fun _ => (by (with_reducible repeat (first | apply Kd.R_alloc | apply Kd.R_drewN | apply Kd.R_drew)); exact Kd.R_mono HO361.out (fun _ hk => by first | exact ⟨hk.1.1, ⟨hk.1.2.1, ⟨hk.1.2.2, hk.2⟩⟩⟩ | exact hk | simp only [ne_eq, hk, not_false_eq_true, and_self])), fun _ => (by (with_reducible repeat (first | apply Kd.R_alloc | apply Kd.R_drewN | apply Kd.R_drew)); exact Kd.R_mono HO365.out (fun _ hk => by first | exact ⟨hk.1.1, ⟨hk.1.2.1, ⟨hk.1.2.2, hk.2⟩⟩⟩ | exact hk | simp only [ne_eq, hk, not_false_eq_true, and_self])), fun _ => (by (with_reducible repeat (first | apply Kd.R_alloc | apply Kd.R_drewN | apply Kd.R_drew)); exact Kd.R_mono HO371.out (fun _ hk => by first | exact ⟨hk.1.1.1.2, ⟨hk.1.1.2, ⟨hk.1.2, hk.2⟩⟩⟩ | exact hk | simp only [ne_eq, hk, not_false_eq_true, and_self])), z_BK376, Q_GW376, Q_GE376, Q_NB348_376, Q_NB376_348, Q_NB349_376, Q_NB376_349, Q_NB355_376, Q_NB376_355, Q_NB356_376, Q_NB376_356, z_BK377, Q_GW377, Q_GE377, Q_NB348_377, Q_NB377_348, Q_NB349_377, Q_NB377_349, Q_NB355_377, Q_NB377_355, Q_NB356_377, Q_NB377_356, z_BK378, Q_GW378, Q_GE378, Q_NB348_378, Q_NB378_348, Q_NB349_378, Q_NB378_349, Q_NB355_378, Q_NB378_355, Q_NB356_378, Q_NB378_356, fun h0_ => absurd ((hoff 11 (by kernel_rfl)).symm.trans h0_) (by decide), fun h0_ => absurd ((hoff 12 (by kernel_rfl)).symm.trans h0_) (by decide), fun h0_ => absurd ((hoff 13 (by kernel_rfl)).symm.trans h0_) (by decide), Q_X1_, Q_X2_, fun _ => rfl, fun h0_ => absurd ((hoff 4 (by kernel_rfl)).symm.trans h0_) (by decide), fun h0_ => absurd ((hoff 5 (by kernel_rfl)).symm.trans h0_) (by decide), Q_X8_, Q_X9_, Q_X10_⟩
         refine steps_cons ?_ ?_
         ·rintro b a w' ⟨v360, v364, v370, gb376, gb377, gb378, m1_, m2_, m3_, m4_, m5_, m8_, m9_, m10_, ha, Q_HO337, Q_HO341, Q_BK348, Q_BK349, Q_BK355, Q_BK356, Q_HB, Q_NB377_376, Q_NB376_377, Q_NB378_376, Q_NB376_378, Q_NB378_377, Q_NB377_378, Q_HO361, Q_HO365, Q_HO371, Q_BK376, Q_GW376, Q_GE376, Q_NB348_376, Q_NB376_348, Q_NB349_376, Q_NB376_349, Q_NB355_376, Q_NB376_355, Q_NB356_376, Q_NB376_356, Q_BK377, Q_GW377, Q_GE377, Q_NB348_377, Q_NB377_348, Q_NB349_377, Q_NB377_349, Q_NB355_377, Q_NB377_355, Q_NB356_377, Q_NB377_356, Q_BK378, Q_GW378, Q_GE378, Q_NB348_378, Q_NB378_348, Q_NB349_378, Q_NB378_349, Q_NB355_378, Q_NB378_355, Q_NB356_378, Q_NB378_356, Q_BK376_e11, Q_BK377_e12, Q_BK378_e13, Q_X1_, Q_X2_, Q_X3_, Q_X4_, Q_X5_, Q_X8_, Q_X9_, Q_X10_⟩ hb_ hon hoff
          refine ⟨_, rfl, fun K hK => ?_⟩
          have e27 : a.tmps[27]? = some (m3_) := by rw [ha]; exact putSel_on (e := (3, 27, m3_)) 3 rfl rfl (hon 3 (by kernel_rfl)) rfl
          rw [Q_X3_ (hon 3 (by kernel_rfl))] at e27
          replace ha := zM ha
          have HO337 := zM Q_HO337
          have HO341 := zM Q_HO341
          have BK348 := zM Q_BK348
          have BK349 := zM Q_BK349
          have BK355 := zM Q_BK355
          have BK356 := zM Q_BK356
          have HB := zM Q_HB
          have HO361 := zM (Q_HO361 (hon 1 (by kernel_rfl)))
          have HO365 := zM (Q_HO365 (hon 1 (by kernel_rfl)))
          have HO371 := zM (Q_HO371 (hon 3 (by kernel_rfl)))
          refine value_ (w1 := w') (v := .tuple #[.agg #[.bool t368, v370], .agg #[.int .u64 t372, .int .u64 t373], .agg #[.int .i64 t374, .int .i64 t375]]) (by rfl) rfl ?_ ?_
          ·go_simp
           (try simp only [i64_w])
           try rfl
          refine hK.out _ _ ⟨v360, v364, v370, gb376, gb377, gb378, m1_, m2_, m3_, (.tuple #[.agg #[.bool t368, v370], .agg #[.int .u64 t372, .int .u64 t373], .agg #[.int .i64 t374, .int .i64 t375]]), m5_, m8_, m9_, m10_, (by rw [ha.out]; exact putSel_upk 4 hb_ rfl rfl rfl), Q_HO337, Q_HO341, Q_BK348, Q_BK349, Q_BK355, Q_BK356, Q_HB, Q_NB377_376, Q_NB376_377, Q_NB378_376, Q_NB376_378, Q_NB378_377, Q_NB377_378, Q_HO361, Q_HO365, Q_HO371, Q_BK376, Q_GW376, Q_GE376, Q_NB348_376, Q_NB376_348, Q_NB349_376, Q_NB376_349, Q_NB355_376, Q_NB376_355, Q_NB356_376, Q_NB376_356, Q_BK377, Q_GW377, Q_GE377, Q_NB348_377, Q_NB377_348, Q_NB349_377, Q_NB377_349, Q_NB355_377, Q_NB377_355, Q_NB356_377, Q_NB377_356, Q_BK378, Q_GW378, Q_GE378, Q_NB348_378, Q_NB378_348, Q_NB349_378, Q_NB378_349, Q_NB355_378, Q_NB378_355, Q_NB356_378, Q_NB378_356, fun h0_ => absurd ((hoff 11 (by kernel_rfl)).symm.trans h0_) (by decide), fun h0_ => absurd ((hoff 12 (by kernel_rfl)).symm.trans h0_) (by decide), fun h0_ => absurd ((hoff 13 (by kernel_rfl)).symm.trans h0_) (by decide), Q_X1_, Q_X2_, Q_X3_, fun _ => rfl, fun h0_ => absurd ((hoff 5 (by kernel_rfl)).symm.trans h0_) (by decide), Q_X8_, Q_X9_, Q_X10_⟩
         refine steps_cons ?_ ?_
         ·rintro b a w' ⟨v360, v364, v370, gb376, gb377, gb378, m1_, m2_, m3_, m4_, m5_, m8_, m9_, m10_, ha, Q_HO337, Q_HO341, Q_BK348, Q_BK349, Q_BK355, Q_BK356, Q_HB, Q_NB377_376, Q_NB376_377, Q_NB378_376, Q_NB376_378, Q_NB378_377, Q_NB377_378, Q_HO361, Q_HO365, Q_HO371, Q_BK376, Q_GW376, Q_GE376, Q_NB348_376, Q_NB376_348, Q_NB349_376, Q_NB376_349, Q_NB355_376, Q_NB376_355, Q_NB356_376, Q_NB376_356, Q_BK377, Q_GW377, Q_GE377, Q_NB348_377, Q_NB377_348, Q_NB349_377, Q_NB377_349, Q_NB355_377, Q_NB377_355, Q_NB356_377, Q_NB377_356, Q_BK378, Q_GW378, Q_GE378, Q_NB348_378, Q_NB378_348, Q_NB349_378, Q_NB378_349, Q_NB355_378, Q_NB378_355, Q_NB356_378, Q_NB378_356, Q_BK376_e11, Q_BK377_e12, Q_BK378_e13, Q_X1_, Q_X2_, Q_X3_, Q_X4_, Q_X5_, Q_X8_, Q_X9_, Q_X10_⟩ hb_ hon hoff
          refine ⟨_, rfl, fun K hK => ?_⟩
          have e23 : a.tmps[23]? = some (m4_) := by rw [ha]; exact putSel_on (e := (4, 23, m4_)) 4 rfl rfl (hon 4 (by kernel_rfl)) rfl
          rw [Q_X4_ (hon 4 (by kernel_rfl))] at e23
          replace ha := zM ha
          have HO337 := zM Q_HO337
          have HO341 := zM Q_HO341
          have BK348 := zM Q_BK348
          have BK349 := zM Q_BK349
          have BK355 := zM Q_BK355
          have BK356 := zM Q_BK356
          have HB := zM Q_HB
          have HO361 := zM (Q_HO361 (hon 1 (by kernel_rfl)))
          have HO365 := zM (Q_HO365 (hon 1 (by kernel_rfl)))
          have HO371 := zM (Q_HO371 (hon 3 (by kernel_rfl)))
          refine value_ (w1 := w') (v := .agg #[.bool t368, v370]) (by rfl) rfl ?_ ?_
          ·go_simp
           (try simp only [i64_w])
           try rfl
          refine hK.out _ _ ⟨v360, v364, v370, gb376, gb377, gb378, m1_, m2_, m3_, m4_, (.agg #[.bool t368, v370]), m8_, m9_, m10_, (by rw [ha.out]; exact putSel_upk 5 hb_ rfl rfl rfl), Q_HO337, Q_HO341, Q_BK348, Q_BK349, Q_BK355, Q_BK356, Q_HB, Q_NB377_376, Q_NB376_377, Q_NB378_376, Q_NB376_378, Q_NB378_377, Q_NB377_378, Q_HO361, Q_HO365, Q_HO371, Q_BK376, Q_GW376, Q_GE376, Q_NB348_376, Q_NB376_348, Q_NB349_376, Q_NB376_349, Q_NB355_376, Q_NB376_355, Q_NB356_376, Q_NB376_356, Q_BK377, Q_GW377, Q_GE377, Q_NB348_377, Q_NB377_348, Q_NB349_377, Q_NB377_349, Q_NB355_377, Q_NB377_355, Q_NB356_377, Q_NB377_356, Q_BK378, Q_GW378, Q_GE378, Q_NB348_378, Q_NB378_348, Q_NB349_378, Q_NB378_349, Q_NB355_378, Q_NB378_355, Q_NB356_378, Q_NB378_356, fun h0_ => absurd ((hoff 11 (by kernel_rfl)).symm.trans h0_) (by decide), fun h0_ => absurd ((hoff 12 (by kernel_rfl)).symm.trans h0_) (by decide), fun h0_ => absurd ((hoff 13 (by kernel_rfl)).symm.trans h0_) (by decide), Q_X1_, Q_X2_, Q_X3_, Q_X4_, fun _ => rfl, Q_X8_, Q_X9_, Q_X10_⟩
         refine steps_cons ?_ ?_
         ·rintro b a w' ⟨v360, v364, v370, gb376, gb377, gb378, m1_, m2_, m3_, m4_, m5_, m8_, m9_, m10_, ha, Q_HO337, Q_HO341, Q_BK348, Q_BK349, Q_BK355, Q_BK356, Q_HB, Q_NB377_376, Q_NB376_377, Q_NB378_376, Q_NB376_378, Q_NB378_377, Q_NB377_378, Q_HO361, Q_HO365, Q_HO371, Q_BK376, Q_GW376, Q_GE376, Q_NB348_376, Q_NB376_348, Q_NB349_376, Q_NB376_349, Q_NB355_376, Q_NB376_355, Q_NB356_376, Q_NB376_356, Q_BK377, Q_GW377, Q_GE377, Q_NB348_377, Q_NB377_348, Q_NB349_377, Q_NB377_349, Q_NB355_377, Q_NB377_355, Q_NB356_377, Q_NB377_356, Q_BK378, Q_GW378, Q_GE378, Q_NB348_378, Q_NB378_348, Q_NB349_378, Q_NB378_349, Q_NB355_378, Q_NB378_355, Q_NB356_378, Q_NB378_356, Q_BK376_e11, Q_BK377_e12, Q_BK378_e13, Q_X1_, Q_X2_, Q_X3_, Q_X4_, Q_X5_, Q_X8_, Q_X9_, Q_X10_⟩ hb_ hon hoff
          refine ⟨_, rfl, fun K hK => ?_⟩
          have e23 : a.tmps[23]? = some (m4_) := by rw [ha]; exact putSel_on (e := (4, 23, m4_)) 4 rfl rfl (hon 4 (by kernel_rfl)) rfl
          rw [Q_X4_ (hon 4 (by kernel_rfl))] at e23
          replace ha := zM ha
          have HO337 := zM Q_HO337
          have HO341 := zM Q_HO341
          have BK348 := zM Q_BK348
          have BK349 := zM Q_BK349
          have BK355 := zM Q_BK355
          have BK356 := zM Q_BK356
          have HB := zM Q_HB
          have HO361 := zM (Q_HO361 (hon 1 (by kernel_rfl)))
          have HO365 := zM (Q_HO365 (hon 1 (by kernel_rfl)))
          have HO371 := zM (Q_HO371 (hon 3 (by kernel_rfl)))
          refine value_ (w1 := w') (v := .agg #[.int .u64 t372, .int .u64 t373]) (by rfl) rfl ?_ ?_
          ·go_simp
           (try simp only [i64_w])
           try rfl
          refine hK.out _ _ ⟨v360, v364, v370, gb376, gb377, gb378, m1_, m2_, m3_, m4_, m5_, m8_, m9_, m10_, (by rw [ha.out]; exact putSel_upk 6 hb_ rfl rfl rfl), Q_HO337, Q_HO341, Q_BK348, Q_BK349, Q_BK355, Q_BK356, Q_HB, Q_NB377_376, Q_NB376_377, Q_NB378_376, Q_NB376_378, Q_NB378_377, Q_NB377_378, Q_HO361, Q_HO365, Q_HO371, Q_BK376, Q_GW376, Q_GE376, Q_NB348_376, Q_NB376_348, Q_NB349_376, Q_NB376_349, Q_NB355_376, Q_NB376_355, Q_NB356_376, Q_NB376_356, Q_BK377, Q_GW377, Q_GE377, Q_NB348_377, Q_NB377_348, Q_NB349_377, Q_NB377_349, Q_NB355_377, Q_NB377_355, Q_NB356_377, Q_NB377_356, Q_BK378, Q_GW378, Q_GE378, Q_NB348_378, Q_NB378_348, Q_NB349_378, Q_NB378_349, Q_NB355_378, Q_NB378_355, Q_NB356_378, Q_NB378_356, Q_BK376_e11, fun h0_ => absurd ((hoff 12 (by kernel_rfl)).symm.trans h0_) (by decide), fun h0_ => absurd ((hoff 13 (by kernel_rfl)).symm.trans h0_) (by decide), Q_X1_, Q_X2_, Q_X3_, Q_X4_, Q_X5_, Q_X8_, Q_X9_, Q_X10_⟩
         refine steps_cons ?_ ?_
         ·rintro b a w' ⟨v360, v364, v370, gb376, gb377, gb378, m1_, m2_, m3_, m4_, m5_, m8_, m9_, m10_, ha, Q_HO337, Q_HO341, Q_BK348, Q_BK349, Q_BK355, Q_BK356, Q_HB, Q_NB377_376, Q_NB376_377, Q_NB378_376, Q_NB376_378, Q_NB378_377, Q_NB377_378, Q_HO361, Q_HO365, Q_HO371, Q_BK376, Q_GW376, Q_GE376, Q_NB348_376, Q_NB376_348, Q_NB349_376, Q_NB376_349, Q_NB355_376, Q_NB376_355, Q_NB356_376, Q_NB376_356, Q_BK377, Q_GW377, Q_GE377, Q_NB348_377, Q_NB377_348, Q_NB349_377, Q_NB377_349, Q_NB355_377, Q_NB377_355, Q_NB356_377, Q_NB377_356, Q_BK378, Q_GW378, Q_GE378, Q_NB348_378, Q_NB378_348, Q_NB349_378, Q_NB378_349, Q_NB355_378, Q_NB378_355, Q_NB356_378, Q_NB378_356, Q_BK376_e11, Q_BK377_e12, Q_BK378_e13, Q_X1_, Q_X2_, Q_X3_, Q_X4_, Q_X5_, Q_X8_, Q_X9_, Q_X10_⟩ hb_ hon hoff
          refine ⟨_, rfl, fun K hK => ?_⟩
          have e23 : a.tmps[23]? = some (m4_) := by rw [ha]; exact putSel_on (e := (4, 23, m4_)) 4 rfl rfl (hon 4 (by kernel_rfl)) rfl
          rw [Q_X4_ (hon 4 (by kernel_rfl))] at e23
          replace ha := zM ha
          have HO337 := zM Q_HO337
          have HO341 := zM Q_HO341
          have BK348 := zM Q_BK348
          have BK349 := zM Q_BK349
          have BK355 := zM Q_BK355
          have BK356 := zM Q_BK356
          have HB := zM Q_HB
          have HO361 := zM (Q_HO361 (hon 1 (by kernel_rfl)))
          have HO365 := zM (Q_HO365 (hon 1 (by kernel_rfl)))
          have HO371 := zM (Q_HO371 (hon 3 (by kernel_rfl)))
          refine value_ (w1 := w') (v := .agg #[.int .i64 t374, .int .i64 t375]) (by rfl) rfl ?_ ?_
          ·go_simp
           (try simp only [i64_w])
           try rfl
          refine hK.out _ _ ⟨v360, v364, v370, gb376, gb377, gb378, m1_, m2_, m3_, m4_, m5_, m8_, m9_, m10_, (by rw [ha.out]; exact putSel_upk 7 hb_ rfl rfl rfl), Q_HO337, Q_HO341, Q_BK348, Q_BK349, Q_BK355, Q_BK356, Q_HB, Q_NB377_376, Q_NB376_377, Q_NB378_376, Q_NB376_378, Q_NB378_377, Q_NB377_378, Q_HO361, Q_HO365, Q_HO371, Q_BK376, Q_GW376, Q_GE376, Q_NB348_376, Q_NB376_348, Q_NB349_376, Q_NB376_349, Q_NB355_376, Q_NB376_355, Q_NB356_376, Q_NB376_356, Q_BK377, Q_GW377, Q_GE377, Q_NB348_377, Q_NB377_348, Q_NB349_377, Q_NB377_349, Q_NB355_377, Q_NB377_355, Q_NB356_377, Q_NB377_356, Q_BK378, Q_GW378, Q_GE378, Q_NB348_378, Q_NB378_348, Q_NB349_378, Q_NB378_349, Q_NB355_378, Q_NB378_355, Q_NB356_378, Q_NB378_356, Q_BK376_e11, Q_BK377_e12, fun h0_ => absurd ((hoff 13 (by kernel_rfl)).symm.trans h0_) (by decide), Q_X1_, Q_X2_, Q_X3_, Q_X4_, Q_X5_, Q_X8_, Q_X9_, Q_X10_⟩
         refine steps_cons ?_ ?_
         ·rintro b a w' ⟨v360, v364, v370, gb376, gb377, gb378, m1_, m2_, m3_, m4_, m5_, m8_, m9_, m10_, ha, Q_HO337, Q_HO341, Q_BK348, Q_BK349, Q_BK355, Q_BK356, Q_HB, Q_NB377_376, Q_NB376_377, Q_NB378_376, Q_NB376_378, Q_NB378_377, Q_NB377_378, Q_HO361, Q_HO365, Q_HO371, Q_BK376, Q_GW376, Q_GE376, Q_NB348_376, Q_NB376_348, Q_NB349_376, Q_NB376_349, Q_NB355_376, Q_NB376_355, Q_NB356_376, Q_NB376_356, Q_BK377, Q_GW377, Q_GE377, Q_NB348_377, Q_NB377_348, Q_NB349_377, Q_NB377_349, Q_NB355_377, Q_NB377_355, Q_NB356_377, Q_NB377_356, Q_BK378, Q_GW378, Q_GE378, Q_NB348_378, Q_NB378_348, Q_NB349_378, Q_NB378_349, Q_NB355_378, Q_NB378_355, Q_NB356_378, Q_NB378_356, Q_BK376_e11, Q_BK377_e12, Q_BK378_e13, Q_X1_, Q_X2_, Q_X3_, Q_X4_, Q_X5_, Q_X8_, Q_X9_, Q_X10_⟩ hb_ hon hoff
          refine ⟨_, rfl, fun K hK => ?_⟩
          replace ha := zM ha
          have HO337 := zM Q_HO337
          have HO341 := zM Q_HO341
          have BK348 := zM Q_BK348
          have BK349 := zM Q_BK349
          have BK355 := zM Q_BK355
          have BK356 := zM Q_BK356
          have HB := zM Q_HB
          refine box_step ?hg (N := 6) ?hd (cs := #[.bool false, .slice none 0 0]) (t := 24) ?hr ?_; (case hd => rfl); (case hg => rfl); (case hr => first | (go_simp; done) | (go_simp; rfl))
          intro gb376 hg w37 hbox hb
          have n0_ := zM (Kd.R_below HO337.out hb)
          have n1_ := zM (Kd.R_below HO341.out hb)
          have n2_ := pzb BK348 hb
          have n3_ := pzb BK349 hb
          have n4_ := pzb BK355 hb
          have n5_ := pzb BK356 hb
          have n6_ := zM (below_step (by repeat (first | (with_reducible first | exact HB.out | apply pzA | apply pzD | apply pz1 | apply pzs | assumption) | exact HB.out)) hb)
          have n7_ := zM (hbox)
          have n8_ := zM ((by rw [hg]; exact (below_size (by repeat (first | (with_reducible first | exact HB.out | apply pzA | apply pzD | apply pz1 | apply pzs | assumption) | exact HB.out))) : w.heap.size ≤ gb376))
          have n9_ := zM ((by rw [hg]; exact (below_size (by repeat (first | (with_reducible first | exact HB.out | apply pzA | apply pzD | apply pz1 | apply pzs | assumption) | exact HB.out))) : w.heap.size ≤ gb376))
          have n10_ := zM ((by rw [hg]; exact Nat.ne_of_lt (blk_lt (g := gb348) (o := .cells #[.int .u64 t344, .int .u64 t345] 27 (0, 0)) BK348.out) : gb348 ≠ gb376))
          have n11_ := zM ((by rw [hg]; exact Nat.ne_of_gt (blk_lt (g := gb348) (o := .cells #[.int .u64 t344, .int .u64 t345] 27 (0, 0)) BK348.out) : gb376 ≠ gb348))
          have n12_ := zM ((by rw [hg]; exact Nat.ne_of_lt (blk_lt (g := gb349) (o := .cells #[.int .i64 t346, .int .i64 t347] 29 (0, 0)) BK349.out) : gb349 ≠ gb376))
          have n13_ := zM ((by rw [hg]; exact Nat.ne_of_gt (blk_lt (g := gb349) (o := .cells #[.int .i64 t346, .int .i64 t347] 29 (0, 0)) BK349.out) : gb376 ≠ gb349))
          have n14_ := zM ((by rw [hg]; exact Nat.ne_of_lt (blk_lt (g := gb355) (o := .cells #[.int .u64 t351, .int .u64 t352] 27 (0, 0)) BK355.out) : gb355 ≠ gb376))
          have n15_ := zM ((by rw [hg]; exact Nat.ne_of_gt (blk_lt (g := gb355) (o := .cells #[.int .u64 t351, .int .u64 t352] 27 (0, 0)) BK355.out) : gb376 ≠ gb355))
          have n16_ := zM ((by rw [hg]; exact Nat.ne_of_lt (blk_lt (g := gb356) (o := .cells #[.int .i64 t353, .int .i64 t354] 29 (0, 0)) BK356.out) : gb356 ≠ gb376))
          have n17_ := zM ((by rw [hg]; exact Nat.ne_of_gt (blk_lt (g := gb356) (o := .cells #[.int .i64 t353, .int .i64 t354] 29 (0, 0)) BK356.out) : gb376 ≠ gb356))
          have z_NB377_376 := fun (h0_ : up b 8 8 = true) (h1_ : up b 8 9 = true) => (show gb377 ≠ gb376 from ((by rw [hg]; exact Nat.ne_of_lt (blk_lt (g := gb377) (o := .cells #[.int .u64 0, .int .u64 0] 27 (0, 0)) (by (with_reducible repeat (first | apply pzN | apply pzd | apply pza)); exact (Q_BK377 h1_ (hoff 12 (by kernel_rfl))))) : gb377 ≠ gb376)))
          have z_NB376_377 := fun (h0_ : up b 8 8 = true) (h1_ : up b 8 9 = true) => (show gb376 ≠ gb377 from ((by rw [hg]; exact Nat.ne_of_gt (blk_lt (g := gb377) (o := .cells #[.int .u64 0, .int .u64 0] 27 (0, 0)) (by (with_reducible repeat (first | apply pzN | apply pzd | apply pza)); exact (Q_BK377 h1_ (hoff 12 (by kernel_rfl))))) : gb376 ≠ gb377)))
          have z_NB378_376 := fun (h0_ : up b 8 8 = true) (h1_ : up b 8 10 = true) => (show gb378 ≠ gb376 from ((by rw [hg]; exact Nat.ne_of_lt (blk_lt (g := gb378) (o := .cells #[.int .i64 0, .int .i64 0] 29 (0, 0)) (by (with_reducible repeat (first | apply pzN | apply pzd | apply pza)); exact (Q_BK378 h1_ (hoff 13 (by kernel_rfl))))) : gb378 ≠ gb376)))
          have z_NB376_378 := fun (h0_ : up b 8 8 = true) (h1_ : up b 8 10 = true) => (show gb376 ≠ gb378 from ((by rw [hg]; exact Nat.ne_of_gt (blk_lt (g := gb378) (o := .cells #[.int .i64 0, .int .i64 0] 29 (0, 0)) (by (with_reducible repeat (first | apply pzN | apply pzd | apply pza)); exact (Q_BK378 h1_ (hoff 13 (by kernel_rfl))))) : gb376 ≠ gb378)))
          have z_HO361 := fun (h0_ : b 1 = true) => (show Kd.R (Kd.int .u32) 76 w37 w.heap.size (fun k_ => some k_ ≠ (.slice Ao18 t335.length co18 : Value).ownBlock ∧ some k_ ≠ (v340 : Value).ownBlock) v360 t359 from by first | exact (Kd.R_below (by (with_reducible repeat (first | apply Kd.R_alloc | apply Kd.R_drewN | apply Kd.R_drew)); exact (Q_HO361 h0_)) hb) | exact Kd.R_mono (Kd.R_below (by (with_reducible repeat (first | apply Kd.R_alloc | apply Kd.R_drewN | apply Kd.R_drew)); exact (Q_HO361 h0_)) hb) (fun _ h_ => by first | trivial | exact h_ | exact h_.1))
          have z_HO365 := fun (h0_ : b 1 = true) => (show Kd.R (Kd.int .u32) 76 w37 w.heap.size (fun k_ => some k_ ≠ (.slice Ao18 t335.length co18 : Value).ownBlock ∧ some k_ ≠ (v340 : Value).ownBlock) v364 t363 from by first | exact (Kd.R_below (by (with_reducible repeat (first | apply Kd.R_alloc | apply Kd.R_drewN | apply Kd.R_drew)); exact (Q_HO365 h0_)) hb) | exact Kd.R_mono (Kd.R_below (by (with_reducible repeat (first | apply Kd.R_alloc | apply Kd.R_drewN | apply Kd.R_drew)); exact (Q_HO365 h0_)) hb) (fun _ h_ => by first | trivial | exact h_ | exact h_.1))
          have z_HO371 := fun (h0_ : b 3 = true) => (show Kd.R (Kd.int .u32) 76 w37 w.heap.size (fun k_ => some k_ ≠ (.slice Ao18 t335.length co18 : Value).ownBlock ∧ some k_ ≠ (v340 : Value).ownBlock) v370 t369 from by first | exact (Kd.R_below (by (with_reducible repeat (first | apply Kd.R_alloc | apply Kd.R_drewN | apply Kd.R_drew)); exact (Q_HO371 h0_)) hb) | exact Kd.R_mono (Kd.R_below (by (with_reducible repeat (first | apply Kd.R_alloc | apply Kd.R_drewN | apply Kd.R_drew)); exact (Q_HO371 h0_)) hb) (fun _ h_ => by first | trivial | exact h_ | exact h_.1))
          have z_BK377 := fun (h0_ : b 9 = true) (h1_ : b 12 = false) => (show w37.heap[gb377]? = some (.cells #[.int .u64 0, .int .u64 0] 27 (0, 0)) from by first | exact (blk_below (g := gb377) (o := .cells #[.int .u64 0, .int .u64 0] 27 (0, 0)) (by (with_reducible repeat (first | apply pzN | apply pzd | apply pza)); exact (Q_BK377 h0_ h1_)) hb))
          have z_BK378 := fun (h0_ : b 10 = true) (h1_ : b 13 = false) => (show w37.heap[gb378]? = some (.cells #[.int .i64 0, .int .i64 0] 29 (0, 0)) from by first | exact (blk_below (g := gb378) (o := .cells #[.int .i64 0, .int .i64 0] 29 (0, 0)) (by (with_reducible repeat (first | apply pzN | apply pzd | apply pza)); exact (Q_BK378 h0_ h1_)) hb))
          clear HO337
          clear HO341
          clear BK348
          clear BK349
          clear BK355
          clear BK356
          clear HB
          have HO337 := n0_
          have HO341 := n1_
          have BK348 := n2_
          have BK349 := n3_
          have BK355 := n4_
          have BK356 := n5_
          have HB := n6_
          have BK376 := n7_
          have GW376 := n8_
          have GE376 := n9_
          have NB348_376 := n10_
          have NB376_348 := n11_
          have NB349_376 := n12_
          have NB376_349 := n13_
          have NB355_376 := n14_
          have NB376_355 := n15_
          have NB356_376 := n16_
          have NB376_356 := n17_
          clear n0_ n1_ n2_ n3_ n4_ n5_ n6_ n7_ n8_ n9_ n10_ n11_ n12_ n13_ n14_ n15_ n16_ n17_
          clear hb hbox hg
          refine hK.out _ _ ⟨v360, v364, v370, gb376, gb377, gb378, m1_, m2_, m3_, m4_, m5_, (.pointer (some ⟨gb376, 0, none⟩)), m9_, m10_, (by rw [ha.out]; exact putSel_upk 8 hb_ rfl rfl rfl), HO337.out, HO341.out, BK348.out, BK349.out, BK355.out, BK356.out, (by repeat (first | (with_reducible first | exact HB.out | apply pzA | apply pzD | apply pz1 | apply pzs | assumption) | exact HB.out)), z_NB377_376, z_NB376_377, z_NB378_376, z_NB376_378, Q_NB378_377, Q_NB377_378, z_HO361, z_HO365, z_HO371, fun _ _ => BK376.out, fun _ => GW376.out, fun _ => GE376.out, fun _ => NB348_376.out, fun _ => NB376_348.out, fun _ => NB349_376.out, fun _ => NB376_349.out, fun _ => NB355_376.out, fun _ => NB376_355.out, fun _ => NB356_376.out, fun _ => NB376_356.out, z_BK377, Q_GW377, Q_GE377, Q_NB348_377, Q_NB377_348, Q_NB349_377, Q_NB377_349, Q_NB355_377, Q_NB377_355, Q_NB356_377, Q_NB377_356, z_BK378, Q_GW378, Q_GE378, Q_NB348_378, Q_NB378_348, Q_NB349_378, Q_NB378_349, Q_NB355_378, Q_NB378_355, Q_NB356_378, Q_NB378_356, fun h0_ => absurd ((hoff 11 (by kernel_rfl)).symm.trans h0_) (by decide), fun h0_ => absurd ((hoff 12 (by kernel_rfl)).symm.trans h0_) (by decide), fun h0_ => absurd ((hoff 13 (by kernel_rfl)).symm.trans h0_) (by decide), Q_X1_, Q_X2_, Q_X3_, Q_X4_, Q_X5_, fun _ => rfl, Q_X9_, Q_X10_⟩
         refine steps_cons ?_ ?_
         ·rintro b a w' ⟨v360, v364, v370, gb376, gb377, gb378, m1_, m2_, m3_, m4_, m5_, m8_, m9_, m10_, ha, Q_HO337, Q_HO341, Q_BK348, Q_BK349, Q_BK355, Q_BK356, Q_HB, Q_NB377_376, Q_NB376_377, Q_NB378_376, Q_NB376_378, Q_NB378_377, Q_NB377_378, Q_HO361, Q_HO365, Q_HO371, Q_BK376, Q_GW376, Q_GE376, Q_NB348_376, Q_NB376_348, Q_NB349_376, Q_NB376_349, Q_NB355_376, Q_NB376_355, Q_NB356_376, Q_NB376_356, Q_BK377, Q_GW377, Q_GE377, Q_NB348_377, Q_NB377_348, Q_NB349_377, Q_NB377_349, Q_NB355_377, Q_NB377_355, Q_NB356_377, Q_NB377_356, Q_BK378, Q_GW378, Q_GE378, Q_NB348_378, Q_NB378_348, Q_NB349_378, Q_NB378_349, Q_NB355_378, Q_NB378_355, Q_NB356_378, Q_NB378_356, Q_BK376_e11, Q_BK377_e12, Q_BK378_e13, Q_X1_, Q_X2_, Q_X3_, Q_X4_, Q_X5_, Q_X8_, Q_X9_, Q_X10_⟩ hb_ hon hoff
          refine ⟨_, rfl, fun K hK => ?_⟩
          replace ha := zM ha
          have HO337 := zM Q_HO337
          have HO341 := zM Q_HO341
          have BK348 := zM Q_BK348
          have BK349 := zM Q_BK349
          have BK355 := zM Q_BK355
          have BK356 := zM Q_BK356
          have HB := zM Q_HB
          refine box_step ?hg (N := 7) ?hd (cs := #[.int .u64 0, .int .u64 0]) (t := 27) ?hr ?_; (case hd => rfl); (case hg => rfl); (case hr => first | (go_simp; done) | (go_simp; rfl))
          intro gb377 hg w37 hbox hb
          have n0_ := zM (Kd.R_below HO337.out hb)
          have n1_ := zM (Kd.R_below HO341.out hb)
          have n2_ := pzb BK348 hb
          have n3_ := pzb BK349 hb
          have n4_ := pzb BK355 hb
          have n5_ := pzb BK356 hb
          have n6_ := zM (below_step (by repeat (first | (with_reducible first | exact HB.out | apply pzA | apply pzD | apply pz1 | apply pzs | assumption) | exact HB.out)) hb)
          have n7_ := zM (hbox)
          have n8_ := zM ((by rw [hg]; exact (below_size (by repeat (first | (with_reducible first | exact HB.out | apply pzA | apply pzD | apply pz1 | apply pzs | assumption) | exact HB.out))) : w.heap.size ≤ gb377))
          have n9_ := zM ((by rw [hg]; exact (below_size (by repeat (first | (with_reducible first | exact HB.out | apply pzA | apply pzD | apply pz1 | apply pzs | assumption) | exact HB.out))) : w.heap.size ≤ gb377))
          have n10_ := zM ((by rw [hg]; exact Nat.ne_of_lt (blk_lt (g := gb348) (o := .cells #[.int .u64 t344, .int .u64 t345] 27 (0, 0)) BK348.out) : gb348 ≠ gb377))
          have n11_ := zM ((by rw [hg]; exact Nat.ne_of_gt (blk_lt (g := gb348) (o := .cells #[.int .u64 t344, .int .u64 t345] 27 (0, 0)) BK348.out) : gb377 ≠ gb348))
          have n12_ := zM ((by rw [hg]; exact Nat.ne_of_lt (blk_lt (g := gb349) (o := .cells #[.int .i64 t346, .int .i64 t347] 29 (0, 0)) BK349.out) : gb349 ≠ gb377))
          have n13_ := zM ((by rw [hg]; exact Nat.ne_of_gt (blk_lt (g := gb349) (o := .cells #[.int .i64 t346, .int .i64 t347] 29 (0, 0)) BK349.out) : gb377 ≠ gb349))
          have n14_ := zM ((by rw [hg]; exact Nat.ne_of_lt (blk_lt (g := gb355) (o := .cells #[.int .u64 t351, .int .u64 t352] 27 (0, 0)) BK355.out) : gb355 ≠ gb377))
          have n15_ := zM ((by rw [hg]; exact Nat.ne_of_gt (blk_lt (g := gb355) (o := .cells #[.int .u64 t351, .int .u64 t352] 27 (0, 0)) BK355.out) : gb377 ≠ gb355))
          have n16_ := zM ((by rw [hg]; exact Nat.ne_of_lt (blk_lt (g := gb356) (o := .cells #[.int .i64 t353, .int .i64 t354] 29 (0, 0)) BK356.out) : gb356 ≠ gb377))
          have n17_ := zM ((by rw [hg]; exact Nat.ne_of_gt (blk_lt (g := gb356) (o := .cells #[.int .i64 t353, .int .i64 t354] 29 (0, 0)) BK356.out) : gb377 ≠ gb356))
          have z_NB377_376 := fun (h0_ : up b 9 8 = true) (h1_ : up b 9 9 = true) => (show gb377 ≠ gb376 from ((by rw [hg]; exact Nat.ne_of_gt (blk_lt (g := gb376) (o := .cells #[.bool false, .slice none 0 0] 24 (0, 0)) (by (with_reducible repeat (first | apply pzN | apply pzd | apply pza)); exact (Q_BK376 h0_ (hoff 11 (by kernel_rfl))))) : gb377 ≠ gb376)))
          have z_NB376_377 := fun (h0_ : up b 9 8 = true) (h1_ : up b 9 9 = true) => (show gb376 ≠ gb377 from ((by rw [hg]; exact Nat.ne_of_lt (blk_lt (g := gb376) (o := .cells #[.bool false, .slice none 0 0] 24 (0, 0)) (by (with_reducible repeat (first | apply pzN | apply pzd | apply pza)); exact (Q_BK376 h0_ (hoff 11 (by kernel_rfl))))) : gb376 ≠ gb377)))
          have z_NB378_377 := fun (h0_ : up b 9 9 = true) (h1_ : up b 9 10 = true) => (show gb378 ≠ gb377 from ((by rw [hg]; exact Nat.ne_of_lt (blk_lt (g := gb378) (o := .cells #[.int .i64 0, .int .i64 0] 29 (0, 0)) (by (with_reducible repeat (first | apply pzN | apply pzd | apply pza)); exact (Q_BK378 h1_ (hoff 13 (by kernel_rfl))))) : gb378 ≠ gb377)))
          have z_NB377_378 := fun (h0_ : up b 9 9 = true) (h1_ : up b 9 10 = true) => (show gb377 ≠ gb378 from ((by rw [hg]; exact Nat.ne_of_gt (blk_lt (g := gb378) (o := .cells #[.int .i64 0, .int .i64 0] 29 (0, 0)) (by (with_reducible repeat (first | apply pzN | apply pzd | apply pza)); exact (Q_BK378 h1_ (hoff 13 (by kernel_rfl))))) : gb377 ≠ gb378)))
          have z_HO361 := fun (h0_ : b 1 = true) => (show Kd.R (Kd.int .u32) 76 w37 w.heap.size (fun k_ => some k_ ≠ (.slice Ao18 t335.length co18 : Value).ownBlock ∧ some k_ ≠ (v340 : Value).ownBlock) v360 t359 from by first | exact (Kd.R_below (by (with_reducible repeat (first | apply Kd.R_alloc | apply Kd.R_drewN | apply Kd.R_drew)); exact (Q_HO361 h0_)) hb) | exact Kd.R_mono (Kd.R_below (by (with_reducible repeat (first | apply Kd.R_alloc | apply Kd.R_drewN | apply Kd.R_drew)); exact (Q_HO361 h0_)) hb) (fun _ h_ => by first | trivial | exact h_ | exact h_.1))
          have z_HO365 := fun (h0_ : b 1 = true) => (show Kd.R (Kd.int .u32) 76 w37 w.heap.size (fun k_ => some k_ ≠ (.slice Ao18 t335.length co18 : Value).ownBlock ∧ some k_ ≠ (v340 : Value).ownBlock) v364 t363 from by first | exact (Kd.R_below (by (with_reducible repeat (first | apply Kd.R_alloc | apply Kd.R_drewN | apply Kd.R_drew)); exact (Q_HO365 h0_)) hb) | exact Kd.R_mono (Kd.R_below (by (with_reducible repeat (first | apply Kd.R_alloc | apply Kd.R_drewN | apply Kd.R_drew)); exact (Q_HO365 h0_)) hb) (fun _ h_ => by first | trivial | exact h_ | exact h_.1))
          have z_HO371 := fun (h0_ : b 3 = true) => (show Kd.R (Kd.int .u32) 76 w37 w.heap.size (fun k_ => some k_ ≠ (.slice Ao18 t335.length co18 : Value).ownBlock ∧ some k_ ≠ (v340 : Value).ownBlock) v370 t369 from by first | exact (Kd.R_below (by (with_reducible repeat (first | apply Kd.R_alloc | apply Kd.R_drewN | apply Kd.R_drew)); exact (Q_HO371 h0_)) hb) | exact Kd.R_mono (Kd.R_below (by (with_reducible repeat (first | apply Kd.R_alloc | apply Kd.R_drewN | apply Kd.R_drew)); exact (Q_HO371 h0_)) hb) (fun _ h_ => by first | trivial | exact h_ | exact h_.1))
          have z_BK376 := fun (h0_ : b 8 = true) (h1_ : b 11 = false) => (show w37.heap[gb376]? = some (.cells #[.bool false, .slice none 0 0] 24 (0, 0)) from by first | exact (blk_below (g := gb376) (o := .cells #[.bool false, .slice none 0 0] 24 (0, 0)) (by (with_reducible repeat (first | apply pzN | apply pzd | apply pza)); exact (Q_BK376 h0_ h1_)) hb))
          have z_BK378 := fun (h0_ : b 10 = true) (h1_ : b 13 = false) => (show w37.heap[gb378]? = some (.cells #[.int .i64 0, .int .i64 0] 29 (0, 0)) from by first | exact (blk_below (g := gb378) (o := .cells #[.int .i64 0, .int .i64 0] 29 (0, 0)) (by (with_reducible repeat (first | apply pzN | apply pzd | apply pza)); exact (Q_BK378 h0_ h1_)) hb))
          clear HO337
          clear HO341
          clear BK348
          clear BK349
          clear BK355
          clear BK356
          clear HB
          have HO337 := n0_
          have HO341 := n1_
          have BK348 := n2_
          have BK349 := n3_
          have BK355 := n4_
          have BK356 := n5_
          have HB := n6_
          have BK377 := n7_
          have GW377 := n8_
          have GE377 := n9_
          have NB348_377 := n10_
          have NB377_348 := n11_
          have NB349_377 := n12_
          have NB377_349 := n13_
          have NB355_377 := n14_
          have NB377_355 := n15_
          have NB356_377 := n16_
          have NB377_356 := n17_
          clear n0_ n1_ n2_ n3_ n4_ n5_ n6_ n7_ n8_ n9_ n10_ n11_ n12_ n13_ n14_ n15_ n16_ n17_
          clear hb hbox hg
          refine hK.out _ _ ⟨v360, v364, v370, gb376, gb377, gb378, m1_, m2_, m3_, m4_, m5_, m8_, (.pointer (some ⟨gb377, 0, none⟩)), m10_, (by rw [ha.out]; exact putSel_upk 9 hb_ rfl rfl rfl), HO337.out, HO341.out, BK348.out, BK349.out, BK355.out, BK356.out, (by repeat (first | (with_reducible first | exact HB.out | apply pzA | apply pzD | apply pz1 | apply pzs | assumption) | exact HB.out)), z_NB377_376, z_NB376_377, Q_NB378_376, Q_NB376_378, z_NB378_377, z_NB377_378, z_HO361, z_HO365, z_HO371, z_BK376, Q_GW376, Q_GE376, Q_NB348_376, Q_NB376_348, Q_NB349_376, Q_NB376_349, Q_NB355_376, Q_NB376_355, Q_NB356_376, Q_NB376_356, fun _ _ => BK377.out, fun _ => GW377.out, fun _ => GE377.out, fun _ => NB348_377.out, fun _ => NB377_348.out, fun _ => NB349_377.out, fun _ => NB377_349.out, fun _ => NB355_377.out, fun _ => NB377_355.out, fun _ => NB356_377.out, fun _ => NB377_356.out, z_BK378, Q_GW378, Q_GE378, Q_NB348_378, Q_NB378_348, Q_NB349_378, Q_NB378_349, Q_NB355_378, Q_NB378_355, Q_NB356_378, Q_NB378_356, fun h0_ => absurd ((hoff 11 (by kernel_rfl)).symm.trans h0_) (by decide), fun h0_ => absurd ((hoff 12 (by kernel_rfl)).symm.trans h0_) (by decide), fun h0_ => absurd ((hoff 13 (by kernel_rfl)).symm.trans h0_) (by decide), Q_X1_, Q_X2_, Q_X3_, Q_X4_, Q_X5_, Q_X8_, fun _ => rfl, Q_X10_⟩
         refine steps_cons ?_ ?_
         ·rintro b a w' ⟨v360, v364, v370, gb376, gb377, gb378, m1_, m2_, m3_, m4_, m5_, m8_, m9_, m10_, ha, Q_HO337, Q_HO341, Q_BK348, Q_BK349, Q_BK355, Q_BK356, Q_HB, Q_NB377_376, Q_NB376_377, Q_NB378_376, Q_NB376_378, Q_NB378_377, Q_NB377_378, Q_HO361, Q_HO365, Q_HO371, Q_BK376, Q_GW376, Q_GE376, Q_NB348_376, Q_NB376_348, Q_NB349_376, Q_NB376_349, Q_NB355_376, Q_NB376_355, Q_NB356_376, Q_NB376_356, Q_BK377, Q_GW377, Q_GE377, Q_NB348_377, Q_NB377_348, Q_NB349_377, Q_NB377_349, Q_NB355_377, Q_NB377_355, Q_NB356_377, Q_NB377_356, Q_BK378, Q_GW378, Q_GE378, Q_NB348_378, Q_NB378_348, Q_NB349_378, Q_NB378_349, Q_NB355_378, Q_NB378_355, Q_NB356_378, Q_NB378_356, Q_BK376_e11, Q_BK377_e12, Q_BK378_e13, Q_X1_, Q_X2_, Q_X3_, Q_X4_, Q_X5_, Q_X8_, Q_X9_, Q_X10_⟩ hb_ hon hoff
          refine ⟨_, rfl, fun K hK => ?_⟩
          replace ha := zM ha
          have HO337 := zM Q_HO337
          have HO341 := zM Q_HO341
          have BK348 := zM Q_BK348
          have BK349 := zM Q_BK349
          have BK355 := zM Q_BK355
          have BK356 := zM Q_BK356
          have HB := zM Q_HB
          refine box_step ?hg (N := 8) ?hd (cs := #[.int .i64 0, .int .i64 0]) (t := 29) ?hr ?_; (case hd => rfl); (case hg => rfl); (case hr => first | (go_simp; done) | (go_simp; rfl))
          intro gb378 hg w37 hbox hb
          have n0_ := zM (Kd.R_below HO337.out hb)
          have n1_ := zM (Kd.R_below HO341.out hb)
          have n2_ := pzb BK348 hb
          have n3_ := pzb BK349 hb
          have n4_ := pzb BK355 hb
          have n5_ := pzb BK356 hb
          have n6_ := zM (below_step (by repeat (first | (with_reducible first | exact HB.out | apply pzA | apply pzD | apply pz1 | apply pzs | assumption) | exact HB.out)) hb)
          have n7_ := zM (hbox)
          have n8_ := zM ((by rw [hg]; exact (below_size (by repeat (first | (with_reducible first | exact HB.out | apply pzA | apply pzD | apply pz1 | apply pzs | assumption) | exact HB.out))) : w.heap.size ≤ gb378))
          have n9_ := zM ((by rw [hg]; exact (below_size (by repeat (first | (with_reducible first | exact HB.out | apply pzA | apply pzD | apply pz1 | apply pzs | assumption) | exact HB.out))) : w.heap.size ≤ gb378))
          have n10_ := zM ((by rw [hg]; exact Nat.ne_of_lt (blk_lt (g := gb348) (o := .cells #[.int .u64 t344, .int .u64 t345] 27 (0, 0)) BK348.out) : gb348 ≠ gb378))
          have n11_ := zM ((by rw [hg]; exact Nat.ne_of_gt (blk_lt (g := gb348) (o := .cells #[.int .u64 t344, .int .u64 t345] 27 (0, 0)) BK348.out) : gb378 ≠ gb348))
          have n12_ := zM ((by rw [hg]; exact Nat.ne_of_lt (blk_lt (g := gb349) (o := .cells #[.int .i64 t346, .int .i64 t347] 29 (0, 0)) BK349.out) : gb349 ≠ gb378))
          have n13_ := zM ((by rw [hg]; exact Nat.ne_of_gt (blk_lt (g := gb349) (o := .cells #[.int .i64 t346, .int .i64 t347] 29 (0, 0)) BK349.out) : gb378 ≠ gb349))
          have n14_ := zM ((by rw [hg]; exact Nat.ne_of_lt (blk_lt (g := gb355) (o := .cells #[.int .u64 t351, .int .u64 t352] 27 (0, 0)) BK355.out) : gb355 ≠ gb378))
          have n15_ := zM ((by rw [hg]; exact Nat.ne_of_gt (blk_lt (g := gb355) (o := .cells #[.int .u64 t351, .int .u64 t352] 27 (0, 0)) BK355.out) : gb378 ≠ gb355))
          have n16_ := zM ((by rw [hg]; exact Nat.ne_of_lt (blk_lt (g := gb356) (o := .cells #[.int .i64 t353, .int .i64 t354] 29 (0, 0)) BK356.out) : gb356 ≠ gb378))
          have n17_ := zM ((by rw [hg]; exact Nat.ne_of_gt (blk_lt (g := gb356) (o := .cells #[.int .i64 t353, .int .i64 t354] 29 (0, 0)) BK356.out) : gb378 ≠ gb356))
          have z_NB378_376 := fun (h0_ : up b 10 8 = true) (h1_ : up b 10 10 = true) => (show gb378 ≠ gb376 from ((by rw [hg]; exact Nat.ne_of_gt (blk_lt (g := gb376) (o := .cells #[.bool false, .slice none 0 0] 24 (0, 0)) (by (with_reducible repeat (first | apply pzN | apply pzd | apply pza)); exact (Q_BK376 h0_ (hoff 11 (by kernel_rfl))))) : gb378 ≠ gb376)))
          have z_NB376_378 := fun (h0_ : up b 10 8 = true) (h1_ : up b 10 10 = true) => (show gb376 ≠ gb378 from ((by rw [hg]; exact Nat.ne_of_lt (blk_lt (g := gb376) (o := .cells #[.bool false, .slice none 0 0] 24 (0, 0)) (by (with_reducible repeat (first | apply pzN | apply pzd | apply pza)); exact (Q_BK376 h0_ (hoff 11 (by kernel_rfl))))) : gb376 ≠ gb378)))
          have z_NB378_377 := fun (h0_ : up b 10 9 = true) (h1_ : up b 10 10 = true) => (show gb378 ≠ gb377 from ((by rw [hg]; exact Nat.ne_of_gt (blk_lt (g := gb377) (o := .cells #[.int .u64 0, .int .u64 0] 27 (0, 0)) (by (with_reducible repeat (first | apply pzN | apply pzd | apply pza)); exact (Q_BK377 h0_ (hoff 12 (by kernel_rfl))))) : gb378 ≠ gb377)))
          have z_NB377_378 := fun (h0_ : up b 10 9 = true) (h1_ : up b 10 10 = true) => (show gb377 ≠ gb378 from ((by rw [hg]; exact Nat.ne_of_lt (blk_lt (g := gb377) (o := .cells #[.int .u64 0, .int .u64 0] 27 (0, 0)) (by (with_reducible repeat (first | apply pzN | apply pzd | apply pza)); exact (Q_BK377 h0_ (hoff 12 (by kernel_rfl))))) : gb377 ≠ gb378)))
          have z_HO361 := fun (h0_ : b 1 = true) => (show Kd.R (Kd.int .u32) 76 w37 w.heap.size (fun k_ => some k_ ≠ (.slice Ao18 t335.length co18 : Value).ownBlock ∧ some k_ ≠ (v340 : Value).ownBlock) v360 t359 from by first | exact (Kd.R_below (by (with_reducible repeat (first | apply Kd.R_alloc | apply Kd.R_drewN | apply Kd.R_drew)); exact (Q_HO361 h0_)) hb) | exact Kd.R_mono (Kd.R_below (by (with_reducible repeat (first | apply Kd.R_alloc | apply Kd.R_drewN | apply Kd.R_drew)); exact (Q_HO361 h0_)) hb) (fun _ h_ => by first | trivial | exact h_ | exact h_.1))
          have z_HO365 := fun (h0_ : b 1 = true) => (show Kd.R (Kd.int .u32) 76 w37 w.heap.size (fun k_ => some k_ ≠ (.slice Ao18 t335.length co18 : Value).ownBlock ∧ some k_ ≠ (v340 : Value).ownBlock) v364 t363 from by first | exact (Kd.R_below (by (with_reducible repeat (first | apply Kd.R_alloc | apply Kd.R_drewN | apply Kd.R_drew)); exact (Q_HO365 h0_)) hb) | exact Kd.R_mono (Kd.R_below (by (with_reducible repeat (first | apply Kd.R_alloc | apply Kd.R_drewN | apply Kd.R_drew)); exact (Q_HO365 h0_)) hb) (fun _ h_ => by first | trivial | exact h_ | exact h_.1))
          have z_HO371 := fun (h0_ : b 3 = true) => (show Kd.R (Kd.int .u32) 76 w37 w.heap.size (fun k_ => some k_ ≠ (.slice Ao18 t335.length co18 : Value).ownBlock ∧ some k_ ≠ (v340 : Value).ownBlock) v370 t369 from by first | exact (Kd.R_below (by (with_reducible repeat (first | apply Kd.R_alloc | apply Kd.R_drewN | apply Kd.R_drew)); exact (Q_HO371 h0_)) hb) | exact Kd.R_mono (Kd.R_below (by (with_reducible repeat (first | apply Kd.R_alloc | apply Kd.R_drewN | apply Kd.R_drew)); exact (Q_HO371 h0_)) hb) (fun _ h_ => by first | trivial | exact h_ | exact h_.1))
          have z_BK376 := fun (h0_ : b 8 = true) (h1_ : b 11 = false) => (show w37.heap[gb376]? = some (.cells #[.bool false, .slice none 0 0] 24 (0, 0)) from by first | exact (blk_below (g := gb376) (o := .cells #[.bool false, .slice none 0 0] 24 (0, 0)) (by (with_reducible repeat (first | apply pzN | apply pzd | apply pza)); exact (Q_BK376 h0_ h1_)) hb))
          have z_BK377 := fun (h0_ : b 9 = true) (h1_ : b 12 = false) => (show w37.heap[gb377]? = some (.cells #[.int .u64 0, .int .u64 0] 27 (0, 0)) from by first | exact (blk_below (g := gb377) (o := .cells #[.int .u64 0, .int .u64 0] 27 (0, 0)) (by (with_reducible repeat (first | apply pzN | apply pzd | apply pza)); exact (Q_BK377 h0_ h1_)) hb))
          clear HO337
          clear HO341
          clear BK348
          clear BK349
          clear BK355
          clear BK356
          clear HB
          have HO337 := n0_
          have HO341 := n1_
          have BK348 := n2_
          have BK349 := n3_
          have BK355 := n4_
          have BK356 := n5_
          have HB := n6_
          have BK378 := n7_
          have GW378 := n8_
          have GE378 := n9_
          have NB348_378 := n10_
          have NB378_348 := n11_
          have NB349_378 := n12_
          have NB378_349 := n13_
          have NB355_378 := n14_
          have NB378_355 := n15_
          have NB356_378 := n16_
          have NB378_356 := n17_
          clear n0_ n1_ n2_ n3_ n4_ n5_ n6_ n7_ n8_ n9_ n10_ n11_ n12_ n13_ n14_ n15_ n16_ n17_
          clear hb hbox hg
          refine hK.out _ _ ⟨v360, v364, v370, gb376, gb377, gb378, m1_, m2_, m3_, m4_, m5_, m8_, m9_, (.pointer (some ⟨gb378, 0, none⟩)), (by rw [ha.out]; exact putSel_upk 10 hb_ rfl rfl rfl), HO337.out, HO341.out, BK348.out, BK349.out, BK355.out, BK356.out, (by repeat (first | (with_reducible first | exact HB.out | apply pzA | apply pzD | apply pz1 | apply pzs | assumption) | exact HB.out)), Q_NB377_376, Q_NB376_377, z_NB378_376, z_NB376_378, z_NB378_377, z_NB377_378, z_HO361, z_HO365, z_HO371, z_BK376, Q_GW376, Q_GE376, Q_NB348_376, Q_NB376_348, Q_NB349_376, Q_NB376_349, Q_NB355_376, Q_NB376_355, Q_NB356_376, Q_NB376_356, z_BK377, Q_GW377, Q_GE377, Q_NB348_377, Q_NB377_348, Q_NB349_377, Q_NB377_349, Q_NB355_377, Q_NB377_355, Q_NB356_377, Q_NB377_356, fun _ _ => BK378.out, fun _ => GW378.out, fun _ => GE378.out, fun _ => NB348_378.out, fun _ => NB378_348.out, fun _ => NB349_378.out, fun _ => NB378_349.out, fun _ => NB355_378.out, fun _ => NB378_355.out, fun _ => NB356_378.out, fun _ => NB378_356.out, fun h0_ => absurd ((hoff 11 (by kernel_rfl)).symm.trans h0_) (by decide), fun h0_ => absurd ((hoff 12 (by kernel_rfl)).symm.trans h0_) (by decide), fun h0_ => absurd ((hoff 13 (by kernel_rfl)).symm.trans h0_) (by decide), Q_X1_, Q_X2_, Q_X3_, Q_X4_, Q_X5_, Q_X8_, Q_X9_, fun _ => rfl⟩
         refine steps_cons ?_ ?_
         ·rintro b a w' ⟨v360, v364, v370, gb376, gb377, gb378, m1_, m2_, m3_, m4_, m5_, m8_, m9_, m10_, ha, Q_HO337, Q_HO341, Q_BK348, Q_BK349, Q_BK355, Q_BK356, Q_HB, Q_NB377_376, Q_NB376_377, Q_NB378_376, Q_NB376_378, Q_NB378_377, Q_NB377_378, Q_HO361, Q_HO365, Q_HO371, Q_BK376, Q_GW376, Q_GE376, Q_NB348_376, Q_NB376_348, Q_NB349_376, Q_NB376_349, Q_NB355_376, Q_NB376_355, Q_NB356_376, Q_NB376_356, Q_BK377, Q_GW377, Q_GE377, Q_NB348_377, Q_NB377_348, Q_NB349_377, Q_NB377_349, Q_NB355_377, Q_NB377_355, Q_NB356_377, Q_NB377_356, Q_BK378, Q_GW378, Q_GE378, Q_NB348_378, Q_NB378_348, Q_NB349_378, Q_NB378_349, Q_NB355_378, Q_NB378_355, Q_NB356_378, Q_NB378_356, Q_BK376_e11, Q_BK377_e12, Q_BK378_e13, Q_X1_, Q_X2_, Q_X3_, Q_X4_, Q_X5_, Q_X8_, Q_X9_, Q_X10_⟩ hb_ hon hoff
          refine ⟨_, rfl, fun K hK => ?_⟩
          have e6 : a.tmps[6]? = some (m8_) := by rw [ha]; exact putSel_on (e := (8, 6, m8_)) 8 rfl rfl (hon 8 (by kernel_rfl)) rfl
          rw [Q_X8_ (hon 8 (by kernel_rfl))] at e6
          have e28 : a.tmps[28]? = some (m5_) := by rw [ha]; exact putSel_on (e := (5, 28, m5_)) 5 rfl rfl (hon 5 (by kernel_rfl)) rfl
          rw [Q_X5_ (hon 5 (by kernel_rfl))] at e28
          replace ha := zM ha
          have HO337 := zM Q_HO337
          have HO341 := zM Q_HO341
          have BK348 := zM Q_BK348
          have BK349 := zM Q_BK349
          have BK355 := zM Q_BK355
          have BK356 := zM Q_BK356
          have HB := zM Q_HB
          have NB377_376 := zM (Q_NB377_376 (hon 8 (by kernel_rfl)) (hon 9 (by kernel_rfl)))
          have NB376_377 := zM (Q_NB376_377 (hon 8 (by kernel_rfl)) (hon 9 (by kernel_rfl)))
          have NB378_376 := zM (Q_NB378_376 (hon 8 (by kernel_rfl)) (hon 10 (by kernel_rfl)))
          have NB376_378 := zM (Q_NB376_378 (hon 8 (by kernel_rfl)) (hon 10 (by kernel_rfl)))
          have NB378_377 := zM (Q_NB378_377 (hon 9 (by kernel_rfl)) (hon 10 (by kernel_rfl)))
          have NB377_378 := zM (Q_NB377_378 (hon 9 (by kernel_rfl)) (hon 10 (by kernel_rfl)))
          have HO361 := zM (Q_HO361 (hon 1 (by kernel_rfl)))
          have HO365 := zM (Q_HO365 (hon 1 (by kernel_rfl)))
          have HO371 := zM (Q_HO371 (hon 3 (by kernel_rfl)))
          have BK376 := zM (Q_BK376 (hon 8 (by kernel_rfl)) hb_)
          have GW376 := zM (Q_GW376 (hon 8 (by kernel_rfl)))
          have GE376 := zM (Q_GE376 (hon 8 (by kernel_rfl)))
          have NB348_376 := zM (Q_NB348_376 (hon 8 (by kernel_rfl)))
          have NB376_348 := zM (Q_NB376_348 (hon 8 (by kernel_rfl)))
          have NB349_376 := zM (Q_NB349_376 (hon 8 (by kernel_rfl)))
          have NB376_349 := zM (Q_NB376_349 (hon 8 (by kernel_rfl)))
          have NB355_376 := zM (Q_NB355_376 (hon 8 (by kernel_rfl)))
          have NB376_355 := zM (Q_NB376_355 (hon 8 (by kernel_rfl)))
          have NB356_376 := zM (Q_NB356_376 (hon 8 (by kernel_rfl)))
          have NB376_356 := zM (Q_NB376_356 (hon 8 (by kernel_rfl)))
          have BK377 := zM (Q_BK377 (hon 9 (by kernel_rfl)) (hoff 12 (by kernel_rfl)))
          have GW377 := zM (Q_GW377 (hon 9 (by kernel_rfl)))
          have GE377 := zM (Q_GE377 (hon 9 (by kernel_rfl)))
          have NB348_377 := zM (Q_NB348_377 (hon 9 (by kernel_rfl)))
          have NB377_348 := zM (Q_NB377_348 (hon 9 (by kernel_rfl)))
          have NB349_377 := zM (Q_NB349_377 (hon 9 (by kernel_rfl)))
          have NB377_349 := zM (Q_NB377_349 (hon 9 (by kernel_rfl)))
          have NB355_377 := zM (Q_NB355_377 (hon 9 (by kernel_rfl)))
          have NB377_355 := zM (Q_NB377_355 (hon 9 (by kernel_rfl)))
          have NB356_377 := zM (Q_NB356_377 (hon 9 (by kernel_rfl)))
          have NB377_356 := zM (Q_NB377_356 (hon 9 (by kernel_rfl)))
          have BK378 := zM (Q_BK378 (hon 10 (by kernel_rfl)) (hoff 13 (by kernel_rfl)))
          have GW378 := zM (Q_GW378 (hon 10 (by kernel_rfl)))
          have GE378 := zM (Q_GE378 (hon 10 (by kernel_rfl)))
          have NB348_378 := zM (Q_NB348_378 (hon 10 (by kernel_rfl)))
          have NB378_348 := zM (Q_NB378_348 (hon 10 (by kernel_rfl)))
          have NB349_378 := zM (Q_NB349_378 (hon 10 (by kernel_rfl)))
          have NB378_349 := zM (Q_NB378_349 (hon 10 (by kernel_rfl)))
          have NB355_378 := zM (Q_NB355_378 (hon 10 (by kernel_rfl)))
          have NB378_355 := zM (Q_NB378_355 (hon 10 (by kernel_rfl)))
          have NB356_378 := zM (Q_NB356_378 (hon 10 (by kernel_rfl)))
          have NB378_356 := zM (Q_NB378_356 (hon 10 (by kernel_rfl)))
          obtain ⟨Ao45, co45, eo45⟩ := Kd.R_slice HO371.out
          (first | subst eo45 | (injection eo45 with f1_ f2_ f3_; have f4_ := f1_.symm; have f5_ := f3_.symm; clear f1_ f2_ f3_; subst f4_; subst f5_))
          have hs44 : w'.cell? ⟨gb376, 0, none⟩ = some (.bool false) := (blk_cell BK376.out 0).trans rfl
          have hfs44 := zF BK376.out 0
          have hns44_0 := NB348_376.out
          have hns44_1 := NB349_376.out
          have hns44_2 := NB355_376.out
          have hns44_3 := NB356_376.out
          have hns44_5 := NB377_376.out
          have hns44_6 := NB378_376.out
          have hms44_0 := NB376_348.out
          have hms44_1 := NB376_349.out
          have hms44_2 := NB376_355.out
          have hms44_3 := NB376_356.out
          have hms44_5 := NB376_377.out
          have hms44_6 := NB376_378.out
          have hs46 : w'.cell? ⟨gb376, 1, none⟩ = some (.slice none 0 0) := (blk_cell BK376.out 1).trans rfl
          have hfs46 := zF BK376.out 1
          have hns46_0 := NB348_376.out
          have hns46_1 := NB349_376.out
          have hns46_2 := NB355_376.out
          have hns46_3 := NB356_376.out
          have hns46_5 := NB377_376.out
          have hns46_6 := NB378_376.out
          have hms46_0 := NB376_348.out
          have hms46_1 := NB376_349.out
          have hms46_2 := NB376_355.out
          have hms46_3 := NB376_356.out
          have hms46_5 := NB376_377.out
          have hms46_6 := NB376_378.out
          refine skip_ (w1 := ?_) (by rfl) rfl ?_ ?_
          rotate_left
          ·go_simp
           rfl
          refine hK.out _ _ ⟨v360, v364, .slice Ao45 t369.length co45, gb376, gb377, gb378, m1_, m2_, m3_, m4_, m5_, m8_, m9_, m10_, (by rw [ha.out]; exact putSel_none (v := undef) rfl), (by (with_reducible repeat (first | apply Kd.R_alloc | apply Kd.R_drewN | apply Kd.R_drew)); exact Kd.R_mono (Kd.R_far (p := ⟨gb376, 1, none⟩) (Kd.R_far (p := ⟨gb376, 0, none⟩) (Kd.R_types HO337.out BK376.out (by decide)) (fun _ hk => by first | exact hk.2 | exact hk | simp only [ne_eq, hk, not_false_eq_true, and_self]) (.bool t368)) (fun _ hk => by first | exact hk.2 | exact hk | simp only [ne_eq, hk, not_false_eq_true, and_self]) (.slice Ao45 t369.length co45)) (fun _ hk => by first | exact ⟨hk.1.1, ⟨hk.1.2.1, ⟨hk.1.2.2.1, hk.1.2.2.2⟩⟩⟩ | exact hk | simp only [ne_eq, hk, not_false_eq_true, and_self])), (by (with_reducible repeat (first | apply Kd.R_alloc | apply Kd.R_drewN | apply Kd.R_drew)); exact Kd.R_mono (Kd.R_far (p := ⟨gb376, 1, none⟩) (Kd.R_far (p := ⟨gb376, 0, none⟩) (Kd.R_types HO341.out BK376.out (by decide)) (fun _ hk => by first | exact hk.2 | exact hk | simp only [ne_eq, hk, not_false_eq_true, and_self]) (.bool t368)) (fun _ hk => by first | exact hk.2 | exact hk | simp only [ne_eq, hk, not_false_eq_true, and_self]) (.slice Ao45 t369.length co45)) (fun _ hk => by first | exact ⟨hk.1.1, ⟨hk.1.2.1, ⟨hk.1.2.2.1, hk.1.2.2.2⟩⟩⟩ | exact hk | simp only [ne_eq, hk, not_false_eq_true, and_self])), (by (with_reducible repeat (first | apply pzN | apply pzd | apply pza)); refine blk_far ?_ NB348_376.out _; (with_reducible repeat (first | apply pzN | apply pzd | apply pza)); refine blk_far ?_ NB348_376.out _; (with_reducible repeat (first | apply pzN | apply pzd | apply pza)); exact BK348.out), (by (with_reducible repeat (first | apply pzN | apply pzd | apply pza)); refine blk_far ?_ NB349_376.out _; (with_reducible repeat (first | apply pzN | apply pzd | apply pza)); refine blk_far ?_ NB349_376.out _; (with_reducible repeat (first | apply pzN | apply pzd | apply pza)); exact BK349.out), (by (with_reducible repeat (first | apply pzN | apply pzd | apply pza)); refine blk_far ?_ NB355_376.out _; (with_reducible repeat (first | apply pzN | apply pzd | apply pza)); refine blk_far ?_ NB355_376.out _; (with_reducible repeat (first | apply pzN | apply pzd | apply pza)); exact BK355.out), (by (with_reducible repeat (first | apply pzN | apply pzd | apply pza)); refine blk_far ?_ NB356_376.out _; (with_reducible repeat (first | apply pzN | apply pzd | apply pza)); refine blk_far ?_ NB356_376.out _; (with_reducible repeat (first | apply pzN | apply pzd | apply pza)); exact BK356.out), (by repeat (first | (with_reducible first | exact HB.out | apply pzA | apply pzD | apply pz1 | apply pzs | assumption) | exact HB.out)), fun _ _ => NB377_376.out, fun _ _ => NB376_377.out, fun _ _ => NB378_376.out, fun _ _ => NB376_378.out, fun _ _ => NB378_377.out, fun _ _ => NB377_378.out, fun _ => (by (with_reducible repeat (first | apply Kd.R_alloc | apply Kd.R_drewN | apply Kd.R_drew)); exact Kd.R_mono (Kd.R_far (p := ⟨gb376, 1, none⟩) (Kd.R_far (p := ⟨gb376, 0, none⟩) (Kd.R_types HO361.out BK376.out (by decide)) (fun _ hk => by first | exact hk.2 | exact hk | simp only [ne_eq, hk, not_false_eq_true, and_self]) (.bool t368)) (fun _ hk => by first | exact hk.2 | exact hk | simp only [ne_eq, hk, not_false_eq_true, and_self]) (.slice Ao45 t369.length co45)) (fun _ hk => by first | exact ⟨hk.1.1, ⟨hk.1.2.1, ⟨hk.1.2.2.1, hk.1.2.2.2⟩⟩⟩ | exact hk | simp only [ne_eq, hk, not_false_eq_true, and_self])), fun _ => (by (with_reducible repeat (first | apply Kd.R_alloc | apply Kd.R_drewN | apply Kd.R_drew)); exact Kd.R_mono (Kd.R_far (p := ⟨gb376, 1, none⟩) (Kd.R_far (p := ⟨gb376, 0, none⟩) (Kd.R_types HO365.out BK376.out (by decide)) (fun _ hk => by first | exact hk.2 | exact hk | simp only [ne_eq, hk, not_false_eq_true, and_self]) (.bool t368)) (fun _ hk => by first | exact hk.2 | exact hk | simp only [ne_eq, hk, not_false_eq_true, and_self]) (.slice Ao45 t369.length co45)) (fun _ hk => by first | exact ⟨hk.1.1, ⟨hk.1.2.1, ⟨hk.1.2.2.1, hk.1.2.2.2⟩⟩⟩ | exact hk | simp only [ne_eq, hk, not_false_eq_true, and_self])), fun _ => (by (with_reducible repeat (first | apply Kd.R_alloc | apply Kd.R_drewN | apply Kd.R_drew)); exact Kd.R_mono (Kd.R_far (p := ⟨gb376, 1, none⟩) (Kd.R_far (p := ⟨gb376, 0, none⟩) (Kd.R_types HO371.out BK376.out (by decide)) (fun _ hk => by first | exact hk.2 | exact hk | simp only [ne_eq, hk, not_false_eq_true, and_self]) (.bool t368)) (fun _ hk => by first | exact hk.2 | exact hk | simp only [ne_eq, hk, not_false_eq_true, and_self]) (.slice Ao45 t369.length co45)) (fun _ hk => by first | exact ⟨hk.1.1, ⟨hk.1.2.1, ⟨hk.1.2.2.1, hk.1.2.2.2⟩⟩⟩ | exact hk | simp only [ne_eq, hk, not_false_eq_true, and_self])), fun _ h1_ => absurd ((up_self b 11).symm.trans h1_) (by decide), fun _ => GW376.out, fun _ => GE376.out, fun _ => NB348_376.out, fun _ => NB376_348.out, fun _ => NB349_376.out, fun _ => NB376_349.out, fun _ => NB355_376.out, fun _ => NB376_355.out, fun _ => NB356_376.out, fun _ => NB376_356.out, fun _ _ => (by (with_reducible repeat (first | apply pzN | apply pzd | apply pza)); refine blk_far ?_ NB377_376.out _; (with_reducible repeat (first | apply pzN | apply pzd | apply pza)); refine blk_far ?_ NB377_376.out _; (with_reducible repeat (first | apply pzN | apply pzd | apply pza)); exact BK377.out), fun _ => GW377.out, fun _ => GE377.out, fun _ => NB348_377.out, fun _ => NB377_348.out, fun _ => NB349_377.out, fun _ => NB377_349.out, fun _ => NB355_377.out, fun _ => NB377_355.out, fun _ => NB356_377.out, fun _ => NB377_356.out, fun _ _ => (by (with_reducible repeat (first | apply pzN | apply pzd | apply pza)); refine blk_far ?_ NB378_376.out _; (with_reducible repeat (first | apply pzN | apply pzd | apply pza)); refine blk_far ?_ NB378_376.out _; (with_reducible repeat (first | apply pzN | apply pzd | apply pza)); exact BK378.out), fun _ => GW378.out, fun _ => GE378.out, fun _ => NB348_378.out, fun _ => NB378_348.out, fun _ => NB349_378.out, fun _ => NB378_349.out, fun _ => NB355_378.out, fun _ => NB378_355.out, fun _ => NB356_378.out, fun _ => NB378_356.out, fun _ => (by (with_reducible repeat (first | apply pzN | apply pzd | apply pza)); refine blk_put (cs := #[.bool t368, .slice none 0 0]) ?_ 1 _ rfl; (with_reducible repeat (first | apply pzN | apply pzd | apply pza)); refine blk_put (cs := #[.bool false, .slice none 0 0]) ?_ 0 _ rfl; (with_reducible repeat (first | apply pzN | apply pzd | apply pza)); exact BK376.out), fun h0_ => absurd ((hoff 12 (by kernel_rfl)).symm.trans h0_) (by decide), fun h0_ => absurd ((hoff 13 (by kernel_rfl)).symm.trans h0_) (by decide), Q_X1_, Q_X2_, Q_X3_, Q_X4_, Q_X5_, Q_X8_, Q_X9_, Q_X10_⟩
         refine steps_cons ?_ ?_
         ·rintro b a w' ⟨v360, v364, v370, gb376, gb377, gb378, m1_, m2_, m3_, m4_, m5_, m8_, m9_, m10_, ha, Q_HO337, Q_HO341, Q_BK348, Q_BK349, Q_BK355, Q_BK356, Q_HB, Q_NB377_376, Q_NB376_377, Q_NB378_376, Q_NB376_378, Q_NB378_377, Q_NB377_378, Q_HO361, Q_HO365, Q_HO371, Q_BK376, Q_GW376, Q_GE376, Q_NB348_376, Q_NB376_348, Q_NB349_376, Q_NB376_349, Q_NB355_376, Q_NB376_355, Q_NB356_376, Q_NB376_356, Q_BK377, Q_GW377, Q_GE377, Q_NB348_377, Q_NB377_348, Q_NB349_377, Q_NB377_349, Q_NB355_377, Q_NB377_355, Q_NB356_377, Q_NB377_356, Q_BK378, Q_GW378, Q_GE378, Q_NB348_378, Q_NB378_348, Q_NB349_378, Q_NB378_349, Q_NB355_378, Q_NB378_355, Q_NB356_378, Q_NB378_356, Q_BK376_e11, Q_BK377_e12, Q_BK378_e13, Q_X1_, Q_X2_, Q_X3_, Q_X4_, Q_X5_, Q_X8_, Q_X9_, Q_X10_⟩ hb_ hon hoff
          refine ⟨_, rfl, fun K hK => ?_⟩
          have e7 : a.tmps[7]? = some (m9_) := by rw [ha]; exact putSel_on (e := (9, 7, m9_)) 9 rfl rfl (hon 9 (by kernel_rfl)) rfl
          rw [Q_X9_ (hon 9 (by kernel_rfl))] at e7
          have e29 : a.tmps[29]? = some (.agg #[.int .u64 t372, .int .u64 t373]) := by rw [ha]; exact putSel_on (e := (6, 29, .agg #[.int .u64 t372, .int .u64 t373])) 6 rfl rfl (hon 6 (by kernel_rfl)) rfl
          replace ha := zM ha
          have HO337 := zM Q_HO337
          have HO341 := zM Q_HO341
          have BK348 := zM Q_BK348
          have BK349 := zM Q_BK349
          have BK355 := zM Q_BK355
          have BK356 := zM Q_BK356
          have HB := zM Q_HB
          have NB377_376 := zM (Q_NB377_376 (hon 8 (by kernel_rfl)) (hon 9 (by kernel_rfl)))
          have NB376_377 := zM (Q_NB376_377 (hon 8 (by kernel_rfl)) (hon 9 (by kernel_rfl)))
          have NB378_376 := zM (Q_NB378_376 (hon 8 (by kernel_rfl)) (hon 10 (by kernel_rfl)))
          have NB376_378 := zM (Q_NB376_378 (hon 8 (by kernel_rfl)) (hon 10 (by kernel_rfl)))
          have NB378_377 := zM (Q_NB378_377 (hon 9 (by kernel_rfl)) (hon 10 (by kernel_rfl)))
          have NB377_378 := zM (Q_NB377_378 (hon 9 (by kernel_rfl)) (hon 10 (by kernel_rfl)))
          have HO361 := zM (Q_HO361 (hon 1 (by kernel_rfl)))
          have HO365 := zM (Q_HO365 (hon 1 (by kernel_rfl)))
          have HO371 := zM (Q_HO371 (hon 3 (by kernel_rfl)))
          have GW376 := zM (Q_GW376 (hon 8 (by kernel_rfl)))
          have GE376 := zM (Q_GE376 (hon 8 (by kernel_rfl)))
          have NB348_376 := zM (Q_NB348_376 (hon 8 (by kernel_rfl)))
          have NB376_348 := zM (Q_NB376_348 (hon 8 (by kernel_rfl)))
          have NB349_376 := zM (Q_NB349_376 (hon 8 (by kernel_rfl)))
          have NB376_349 := zM (Q_NB376_349 (hon 8 (by kernel_rfl)))
          have NB355_376 := zM (Q_NB355_376 (hon 8 (by kernel_rfl)))
          have NB376_355 := zM (Q_NB376_355 (hon 8 (by kernel_rfl)))
          have NB356_376 := zM (Q_NB356_376 (hon 8 (by kernel_rfl)))
          have NB376_356 := zM (Q_NB376_356 (hon 8 (by kernel_rfl)))
          have BK377 := zM (Q_BK377 (hon 9 (by kernel_rfl)) hb_)
          have GW377 := zM (Q_GW377 (hon 9 (by kernel_rfl)))
          have GE377 := zM (Q_GE377 (hon 9 (by kernel_rfl)))
          have NB348_377 := zM (Q_NB348_377 (hon 9 (by kernel_rfl)))
          have NB377_348 := zM (Q_NB377_348 (hon 9 (by kernel_rfl)))
          have NB349_377 := zM (Q_NB349_377 (hon 9 (by kernel_rfl)))
          have NB377_349 := zM (Q_NB377_349 (hon 9 (by kernel_rfl)))
          have NB355_377 := zM (Q_NB355_377 (hon 9 (by kernel_rfl)))
          have NB377_355 := zM (Q_NB377_355 (hon 9 (by kernel_rfl)))
          have NB356_377 := zM (Q_NB356_377 (hon 9 (by kernel_rfl)))
          have NB377_356 := zM (Q_NB377_356 (hon 9 (by kernel_rfl)))
          have BK378 := zM (Q_BK378 (hon 10 (by kernel_rfl)) (hoff 13 (by kernel_rfl)))
          have GW378 := zM (Q_GW378 (hon 10 (by kernel_rfl)))
          have GE378 := zM (Q_GE378 (hon 10 (by kernel_rfl)))
          have NB348_378 := zM (Q_NB348_378 (hon 10 (by kernel_rfl)))
          have NB378_348 := zM (Q_NB378_348 (hon 10 (by kernel_rfl)))
          have NB349_378 := zM (Q_NB349_378 (hon 10 (by kernel_rfl)))
          have NB378_349 := zM (Q_NB378_349 (hon 10 (by kernel_rfl)))
          have NB355_378 := zM (Q_NB355_378 (hon 10 (by kernel_rfl)))
          have NB378_355 := zM (Q_NB378_355 (hon 10 (by kernel_rfl)))
          have NB356_378 := zM (Q_NB356_378 (hon 10 (by kernel_rfl)))
          have NB378_356 := zM (Q_NB378_356 (hon 10 (by kernel_rfl)))
          have BK376 := zM (Q_BK376_e11 (hon 11 (by kernel_rfl)))
          have hs47 : w'.cell? ⟨gb377, 0, none⟩ = some (.int .u64 0) := (blk_cell BK377.out 0).trans rfl
          have hfs47 := zF BK377.out 0
          have hns47_0 := NB348_377.out
          have hns47_1 := NB349_377.out
          have hns47_2 := NB355_377.out
          have hns47_3 := NB356_377.out
          have hns47_4 := NB376_377.out
          have hns47_6 := NB378_377.out
          have hms47_0 := NB377_348.out
          have hms47_1 := NB377_349.out
          have hms47_2 := NB377_355.out
          have hms47_3 := NB377_356.out
          have hms47_4 := NB377_376.out
          have hms47_6 := NB377_378.out
          have hs48 : w'.cell? ⟨gb377, 1, none⟩ = some (.int .u64 0) := (blk_cell BK377.out 1).trans rfl
          have hfs48 := zF BK377.out 1
          have hns48_0 := NB348_377.out
          have hns48_1 := NB349_377.out
          have hns48_2 := NB355_377.out
          have hns48_3 := NB356_377.out
          have hns48_4 := NB376_377.out
          have hns48_6 := NB378_377.out
          have hms48_0 := NB377_348.out
          have hms48_1 := NB377_349.out
          have hms48_2 := NB377_355.out
          have hms48_3 := NB377_356.out
          have hms48_4 := NB377_376.out
          have hms48_6 := NB377_378.out
          refine skip_ (w1 := ?_) (by rfl) rfl ?_ ?_
          rotate_left
          ·go_simp
           rfl
          refine hK.out _ _ ⟨v360, v364, v370, gb376, gb377, gb378, m1_, m2_, m3_, m4_, m5_, m8_, m9_, m10_, (by rw [ha.out]; exact putSel_none (v := undef) rfl), (by (with_reducible repeat (first | apply Kd.R_alloc | apply Kd.R_drewN | apply Kd.R_drew)); exact Kd.R_mono (Kd.R_far (p := ⟨gb377, 1, none⟩) (Kd.R_far (p := ⟨gb377, 0, none⟩) (Kd.R_types HO337.out BK377.out (by decide)) (fun _ hk => by first | exact hk.2 | exact hk | simp only [ne_eq, hk, not_false_eq_true, and_self]) (.int .u64 t372)) (fun _ hk => by first | exact hk.2 | exact hk | simp only [ne_eq, hk, not_false_eq_true, and_self]) (.int .u64 t373)) (fun _ hk => by first | exact ⟨hk.1.1, ⟨hk.1.2.1, ⟨hk.1.2.2.1, hk.1.2.2.2⟩⟩⟩ | exact hk | simp only [ne_eq, hk, not_false_eq_true, and_self])), (by (with_reducible repeat (first | apply Kd.R_alloc | apply Kd.R_drewN | apply Kd.R_drew)); exact Kd.R_mono (Kd.R_far (p := ⟨gb377, 1, none⟩) (Kd.R_far (p := ⟨gb377, 0, none⟩) (Kd.R_types HO341.out BK377.out (by decide)) (fun _ hk => by first | exact hk.2 | exact hk | simp only [ne_eq, hk, not_false_eq_true, and_self]) (.int .u64 t372)) (fun _ hk => by first | exact hk.2 | exact hk | simp only [ne_eq, hk, not_false_eq_true, and_self]) (.int .u64 t373)) (fun _ hk => by first | exact ⟨hk.1.1, ⟨hk.1.2.1, ⟨hk.1.2.2.1, hk.1.2.2.2⟩⟩⟩ | exact hk | simp only [ne_eq, hk, not_false_eq_true, and_self])), (by (with_reducible repeat (first | apply pzN | apply pzd | apply pza)); refine blk_far ?_ NB348_377.out _; (with_reducible repeat (first | apply pzN | apply pzd | apply pza)); refine blk_far ?_ NB348_377.out _; (with_reducible repeat (first | apply pzN | apply pzd | apply pza)); exact BK348.out), (by (with_reducible repeat (first | apply pzN | apply pzd | apply pza)); refine blk_far ?_ NB349_377.out _; (with_reducible repeat (first | apply pzN | apply pzd | apply pza)); refine blk_far ?_ NB349_377.out _; (with_reducible repeat (first | apply pzN | apply pzd | apply pza)); exact BK349.out), (by (with_reducible repeat (first | apply pzN | apply pzd | apply pza)); refine blk_far ?_ NB355_377.out _; (with_reducible repeat (first | apply pzN | apply pzd | apply pza)); refine blk_far ?_ NB355_377.out _; (with_reducible repeat (first | apply pzN | apply pzd | apply pza)); exact BK355.out), (by (with_reducible repeat (first | apply pzN | apply pzd | apply pza)); refine blk_far ?_ NB356_377.out _; (with_reducible repeat (first | apply pzN | apply pzd | apply pza)); refine blk_far ?_ NB356_377.out _; (with_reducible repeat (first | apply pzN | apply pzd | apply pza)); exact BK356.out), (by repeat (first | (with_reducible first | exact HB.out | apply pzA | apply pzD | apply pz1 | apply pzs | assumption) | exact HB.out)), fun _ _ => NB377_376.out, fun _ _ => NB376_377.out, fun _ _ => NB378_376.out, fun _ _ => NB376_378.out, fun _ _ => NB378_377.out, fun _ _ => NB377_378.out, fun _ => (by (with_reducible repeat (first | apply Kd.R_alloc | apply Kd.R_drewN | apply Kd.R_drew)); exact Kd.R_mono (Kd.R_far (p := ⟨gb377, 1, none⟩) (Kd.R_far (p := ⟨gb377, 0, none⟩) (Kd.R_types HO361.out BK377.out (by decide)) (fun _ hk => by first | exact hk.2 | exact hk | simp only [ne_eq, hk, not_false_eq_true, and_self]) (.int .u64 t372)) (fun _ hk => by first | exact hk.2 | exact hk | simp only [ne_eq, hk, not_false_eq_true, and_self]) (.int .u64 t373)) (fun _ hk => by first | exact ⟨hk.1.1, ⟨hk.1.2.1, ⟨hk.1.2.2.1, hk.1.2.2.2⟩⟩⟩ | exact hk | simp only [ne_eq, hk, not_false_eq_true, and_self])), fun _ => (by (with_reducible repeat (first | apply Kd.R_alloc | apply Kd.R_drewN | apply Kd.R_drew)); exact Kd.R_mono (Kd.R_far (p := ⟨gb377, 1, none⟩) (Kd.R_far (p := ⟨gb377, 0, none⟩) (Kd.R_types HO365.out BK377.out (by decide)) (fun _ hk => by first | exact hk.2 | exact hk | simp only [ne_eq, hk, not_false_eq_true, and_self]) (.int .u64 t372)) (fun _ hk => by first | exact hk.2 | exact hk | simp only [ne_eq, hk, not_false_eq_true, and_self]) (.int .u64 t373)) (fun _ hk => by first | exact ⟨hk.1.1, ⟨hk.1.2.1, ⟨hk.1.2.2.1, hk.1.2.2.2⟩⟩⟩ | exact hk | simp only [ne_eq, hk, not_false_eq_true, and_self])), fun _ => (by (with_reducible repeat (first | apply Kd.R_alloc | apply Kd.R_drewN | apply Kd.R_drew)); exact Kd.R_mono (Kd.R_far (p := ⟨gb377, 1, none⟩) (Kd.R_far (p := ⟨gb377, 0, none⟩) (Kd.R_types HO371.out BK377.out (by decide)) (fun _ hk => by first | exact hk.2 | exact hk | simp only [ne_eq, hk, not_false_eq_true, and_self]) (.int .u64 t372)) (fun _ hk => by first | exact hk.2 | exact hk | simp only [ne_eq, hk, not_false_eq_true, and_self]) (.int .u64 t373)) (fun _ hk => by first | exact ⟨hk.1.1, ⟨hk.1.2.1, ⟨hk.1.2.2.1, hk.1.2.2.2⟩⟩⟩ | exact hk | simp only [ne_eq, hk, not_false_eq_true, and_self])), fun _ h1_ => absurd ((hon 11 (by kernel_rfl)).symm.trans h1_) (by decide), fun _ => GW376.out, fun _ => GE376.out, fun _ => NB348_376.out, fun _ => NB376_348.out, fun _ => NB349_376.out, fun _ => NB376_349.out, fun _ => NB355_376.out, fun _ => NB376_355.out, fun _ => NB356_376.out, fun _ => NB376_356.out, fun _ h1_ => absurd ((up_self b 12).symm.trans h1_) (by decide), fun _ => GW377.out, fun _ => GE377.out, fun _ => NB348_377.out, fun _ => NB377_348.out, fun _ => NB349_377.out, fun _ => NB377_349.out, fun _ => NB355_377.out, fun _ => NB377_355.out, fun _ => NB356_377.out, fun _ => NB377_356.out, fun _ _ => (by (with_reducible repeat (first | apply pzN | apply pzd | apply pza)); refine blk_far ?_ NB378_377.out _; (with_reducible repeat (first | apply pzN | apply pzd | apply pza)); refine blk_far ?_ NB378_377.out _; (with_reducible repeat (first | apply pzN | apply pzd | apply pza)); exact BK378.out), fun _ => GW378.out, fun _ => GE378.out, fun _ => NB348_378.out, fun _ => NB378_348.out, fun _ => NB349_378.out, fun _ => NB378_349.out, fun _ => NB355_378.out, fun _ => NB378_355.out, fun _ => NB356_378.out, fun _ => NB378_356.out, fun _ => (by (with_reducible repeat (first | apply pzN | apply pzd | apply pza)); refine blk_far ?_ NB376_377.out _; (with_reducible repeat (first | apply pzN | apply pzd | apply pza)); refine blk_far ?_ NB376_377.out _; (with_reducible repeat (first | apply pzN | apply pzd | apply pza)); exact BK376.out), fun _ => (by (with_reducible repeat (first | apply pzN | apply pzd | apply pza)); refine blk_put (cs := #[.int .u64 t372, .int .u64 0]) ?_ 1 _ rfl; (with_reducible repeat (first | apply pzN | apply pzd | apply pza)); refine blk_put (cs := #[.int .u64 0, .int .u64 0]) ?_ 0 _ rfl; (with_reducible repeat (first | apply pzN | apply pzd | apply pza)); exact BK377.out), fun h0_ => absurd ((hoff 13 (by kernel_rfl)).symm.trans h0_) (by decide), Q_X1_, Q_X2_, Q_X3_, Q_X4_, Q_X5_, Q_X8_, Q_X9_, Q_X10_⟩
         refine steps_cons ?_ ?_
         ·rintro b a w' ⟨v360, v364, v370, gb376, gb377, gb378, m1_, m2_, m3_, m4_, m5_, m8_, m9_, m10_, ha, Q_HO337, Q_HO341, Q_BK348, Q_BK349, Q_BK355, Q_BK356, Q_HB, Q_NB377_376, Q_NB376_377, Q_NB378_376, Q_NB376_378, Q_NB378_377, Q_NB377_378, Q_HO361, Q_HO365, Q_HO371, Q_BK376, Q_GW376, Q_GE376, Q_NB348_376, Q_NB376_348, Q_NB349_376, Q_NB376_349, Q_NB355_376, Q_NB376_355, Q_NB356_376, Q_NB376_356, Q_BK377, Q_GW377, Q_GE377, Q_NB348_377, Q_NB377_348, Q_NB349_377, Q_NB377_349, Q_NB355_377, Q_NB377_355, Q_NB356_377, Q_NB377_356, Q_BK378, Q_GW378, Q_GE378, Q_NB348_378, Q_NB378_348, Q_NB349_378, Q_NB378_349, Q_NB355_378, Q_NB378_355, Q_NB356_378, Q_NB378_356, Q_BK376_e11, Q_BK377_e12, Q_BK378_e13, Q_X1_, Q_X2_, Q_X3_, Q_X4_, Q_X5_, Q_X8_, Q_X9_, Q_X10_⟩ hb_ hon hoff
          refine ⟨_, rfl, fun K hK => ?_⟩
          have e8 : a.tmps[8]? = some (m10_) := by rw [ha]; exact putSel_on (e := (10, 8, m10_)) 10 rfl rfl (hon 10 (by kernel_rfl)) rfl
          rw [Q_X10_ (hon 10 (by kernel_rfl))] at e8
          have e30 : a.tmps[30]? = some (.agg #[.int .i64 t374, .int .i64 t375]) := by rw [ha]; exact putSel_on (e := (7, 30, .agg #[.int .i64 t374, .int .i64 t375])) 7 rfl rfl (hon 7 (by kernel_rfl)) rfl
          replace ha := zM ha
          have HO337 := zM Q_HO337
          have HO341 := zM Q_HO341
          have BK348 := zM Q_BK348
          have BK349 := zM Q_BK349
          have BK355 := zM Q_BK355
          have BK356 := zM Q_BK356
          have HB := zM Q_HB
          have NB377_376 := zM (Q_NB377_376 (hon 8 (by kernel_rfl)) (hon 9 (by kernel_rfl)))
          have NB376_377 := zM (Q_NB376_377 (hon 8 (by kernel_rfl)) (hon 9 (by kernel_rfl)))
          have NB378_376 := zM (Q_NB378_376 (hon 8 (by kernel_rfl)) (hon 10 (by kernel_rfl)))
          have NB376_378 := zM (Q_NB376_378 (hon 8 (by kernel_rfl)) (hon 10 (by kernel_rfl)))
          have NB378_377 := zM (Q_NB378_377 (hon 9 (by kernel_rfl)) (hon 10 (by kernel_rfl)))
          have NB377_378 := zM (Q_NB377_378 (hon 9 (by kernel_rfl)) (hon 10 (by kernel_rfl)))
          have HO361 := zM (Q_HO361 (hon 1 (by kernel_rfl)))
          have HO365 := zM (Q_HO365 (hon 1 (by kernel_rfl)))
          have HO371 := zM (Q_HO371 (hon 3 (by kernel_rfl)))
          have GW376 := zM (Q_GW376 (hon 8 (by kernel_rfl)))
          have GE376 := zM (Q_GE376 (hon 8 (by kernel_rfl)))
          have NB348_376 := zM (Q_NB348_376 (hon 8 (by kernel_rfl)))
          have NB376_348 := zM (Q_NB376_348 (hon 8 (by kernel_rfl)))
          have NB349_376 := zM (Q_NB349_376 (hon 8 (by kernel_rfl)))
          have NB376_349 := zM (Q_NB376_349 (hon 8 (by kernel_rfl)))
          have NB355_376 := zM (Q_NB355_376 (hon 8 (by kernel_rfl)))
          have NB376_355 := zM (Q_NB376_355 (hon 8 (by kernel_rfl)))
          have NB356_376 := zM (Q_NB356_376 (hon 8 (by kernel_rfl)))
          have NB376_356 := zM (Q_NB376_356 (hon 8 (by kernel_rfl)))
          have GW377 := zM (Q_GW377 (hon 9 (by kernel_rfl)))
          have GE377 := zM (Q_GE377 (hon 9 (by kernel_rfl)))
          have NB348_377 := zM (Q_NB348_377 (hon 9 (by kernel_rfl)))
          have NB377_348 := zM (Q_NB377_348 (hon 9 (by kernel_rfl)))
          have NB349_377 := zM (Q_NB349_377 (hon 9 (by kernel_rfl)))
          have NB377_349 := zM (Q_NB377_349 (hon 9 (by kernel_rfl)))
          have NB355_377 := zM (Q_NB355_377 (hon 9 (by kernel_rfl)))
          have NB377_355 := zM (Q_NB377_355 (hon 9 (by kernel_rfl)))
          have NB356_377 := zM (Q_NB356_377 (hon 9 (by kernel_rfl)))
          have NB377_356 := zM (Q_NB377_356 (hon 9 (by kernel_rfl)))
          have BK378 := zM (Q_BK378 (hon 10 (by kernel_rfl)) hb_)
          have GW378 := zM (Q_GW378 (hon 10 (by kernel_rfl)))
          have GE378 := zM (Q_GE378 (hon 10 (by kernel_rfl)))
          have NB348_378 := zM (Q_NB348_378 (hon 10 (by kernel_rfl)))
          have NB378_348 := zM (Q_NB378_348 (hon 10 (by kernel_rfl)))
          have NB349_378 := zM (Q_NB349_378 (hon 10 (by kernel_rfl)))
          have NB378_349 := zM (Q_NB378_349 (hon 10 (by kernel_rfl)))
          have NB355_378 := zM (Q_NB355_378 (hon 10 (by kernel_rfl)))
          have NB378_355 := zM (Q_NB378_355 (hon 10 (by kernel_rfl)))
          have NB356_378 := zM (Q_NB356_378 (hon 10 (by kernel_rfl)))
          have NB378_356 := zM (Q_NB378_356 (hon 10 (by kernel_rfl)))
          have BK376 := zM (Q_BK376_e11 (hon 11 (by kernel_rfl)))
          have BK377 := zM (Q_BK377_e12 (hon 12 (by kernel_rfl)))
          have hs49 : w'.cell? ⟨gb378, 0, none⟩ = some (.int .i64 0) := (blk_cell BK378.out 0).trans rfl
          have hfs49 := zF BK378.out 0
          have hns49_0 := NB348_378.out
          have hns49_1 := NB349_378.out
          have hns49_2 := NB355_378.out
          have hns49_3 := NB356_378.out
          have hns49_4 := NB376_378.out
          have hns49_5 := NB377_378.out
          have hms49_0 := NB378_348.out
          have hms49_1 := NB378_349.out
          have hms49_2 := NB378_355.out
          have hms49_3 := NB378_356.out
          have hms49_4 := NB378_376.out
          have hms49_5 := NB378_377.out
          have hs50 : w'.cell? ⟨gb378, 1, none⟩ = some (.int .i64 0) := (blk_cell BK378.out 1).trans rfl
          have hfs50 := zF BK378.out 1
          have hns50_0 := NB348_378.out
          have hns50_1 := NB349_378.out
          have hns50_2 := NB355_378.out
          have hns50_3 := NB356_378.out
          have hns50_4 := NB376_378.out
          have hns50_5 := NB377_378.out
          have hms50_0 := NB378_348.out
          have hms50_1 := NB378_349.out
          have hms50_2 := NB378_355.out
          have hms50_3 := NB378_356.out
          have hms50_4 := NB378_376.out
          have hms50_5 := NB378_377.out
          refine skip_ (w1 := ?_) (by rfl) rfl ?_ ?_
          rotate_left
          ·go_simp
           rfl
          refine hK.out _ _ ⟨v360, v364, v370, gb376, gb377, gb378, m1_, m2_, m3_, m4_, m5_, m8_, m9_, m10_, (by rw [ha.out]; exact putSel_none (v := undef) rfl), (by (with_reducible repeat (first | apply Kd.R_alloc | apply Kd.R_drewN | apply Kd.R_drew)); exact Kd.R_mono (Kd.R_far (p := ⟨gb378, 1, none⟩) (Kd.R_far (p := ⟨gb378, 0, none⟩) (Kd.R_types HO337.out BK378.out (by decide)) (fun _ hk => by first | exact hk.2 | exact hk | simp only [ne_eq, hk, not_false_eq_true, and_self]) (.int .i64 t374)) (fun _ hk => by first | exact hk.2 | exact hk | simp only [ne_eq, hk, not_false_eq_true, and_self]) (.int .i64 t375)) (fun _ hk => by first | exact ⟨hk.1.1, ⟨hk.1.2.1, ⟨hk.1.2.2.1, hk.1.2.2.2⟩⟩⟩ | exact hk | simp only [ne_eq, hk, not_false_eq_true, and_self])), (by (with_reducible repeat (first | apply Kd.R_alloc | apply Kd.R_drewN | apply Kd.R_drew)); exact Kd.R_mono (Kd.R_far (p := ⟨gb378, 1, none⟩) (Kd.R_far (p := ⟨gb378, 0, none⟩) (Kd.R_types HO341.out BK378.out (by decide)) (fun _ hk => by first | exact hk.2 | exact hk | simp only [ne_eq, hk, not_false_eq_true, and_self]) (.int .i64 t374)) (fun _ hk => by first | exact hk.2 | exact hk | simp only [ne_eq, hk, not_false_eq_true, and_self]) (.int .i64 t375)) (fun _ hk => by first | exact ⟨hk.1.1, ⟨hk.1.2.1, ⟨hk.1.2.2.1, hk.1.2.2.2⟩⟩⟩ | exact hk | simp only [ne_eq, hk, not_false_eq_true, and_self])), (by (with_reducible repeat (first | apply pzN | apply pzd | apply pza)); refine blk_far ?_ NB348_378.out _; (with_reducible repeat (first | apply pzN | apply pzd | apply pza)); refine blk_far ?_ NB348_378.out _; (with_reducible repeat (first | apply pzN | apply pzd | apply pza)); exact BK348.out), (by (with_reducible repeat (first | apply pzN | apply pzd | apply pza)); refine blk_far ?_ NB349_378.out _; (with_reducible repeat (first | apply pzN | apply pzd | apply pza)); refine blk_far ?_ NB349_378.out _; (with_reducible repeat (first | apply pzN | apply pzd | apply pza)); exact BK349.out), (by (with_reducible repeat (first | apply pzN | apply pzd | apply pza)); refine blk_far ?_ NB355_378.out _; (with_reducible repeat (first | apply pzN | apply pzd | apply pza)); refine blk_far ?_ NB355_378.out _; (with_reducible repeat (first | apply pzN | apply pzd | apply pza)); exact BK355.out), (by (with_reducible repeat (first | apply pzN | apply pzd | apply pza)); refine blk_far ?_ NB356_378.out _; (with_reducible repeat (first | apply pzN | apply pzd | apply pza)); refine blk_far ?_ NB356_378.out _; (with_reducible repeat (first | apply pzN | apply pzd | apply pza)); exact BK356.out), (by repeat (first | (with_reducible first | exact HB.out | apply pzA | apply pzD | apply pz1 | apply pzs | assumption) | exact HB.out)), fun _ _ => NB377_376.out, fun _ _ => NB376_377.out, fun _ _ => NB378_376.out, fun _ _ => NB376_378.out, fun _ _ => NB378_377.out, fun _ _ => NB377_378.out, fun _ => (by (with_reducible repeat (first | apply Kd.R_alloc | apply Kd.R_drewN | apply Kd.R_drew)); exact Kd.R_mono (Kd.R_far (p := ⟨gb378, 1, none⟩) (Kd.R_far (p := ⟨gb378, 0, none⟩) (Kd.R_types HO361.out BK378.out (by decide)) (fun _ hk => by first | exact hk.2 | exact hk | simp only [ne_eq, hk, not_false_eq_true, and_self]) (.int .i64 t374)) (fun _ hk => by first | exact hk.2 | exact hk | simp only [ne_eq, hk, not_false_eq_true, and_self]) (.int .i64 t375)) (fun _ hk => by first | exact ⟨hk.1.1, ⟨hk.1.2.1, ⟨hk.1.2.2.1, hk.1.2.2.2⟩⟩⟩ | exact hk | simp only [ne_eq, hk, not_false_eq_true, and_self])), fun _ => (by (with_reducible repeat (first | apply Kd.R_alloc | apply Kd.R_drewN | apply Kd.R_drew)); exact Kd.R_mono (Kd.R_far (p := ⟨gb378, 1, none⟩) (Kd.R_far (p := ⟨gb378, 0, none⟩) (Kd.R_types HO365.out BK378.out (by decide)) (fun _ hk => by first | exact hk.2 | exact hk | simp only [ne_eq, hk, not_false_eq_true, and_self]) (.int .i64 t374)) (fun _ hk => by first | exact hk.2 | exact hk | simp only [ne_eq, hk, not_false_eq_true, and_self]) (.int .i64 t375)) (fun _ hk => by first | exact ⟨hk.1.1, ⟨hk.1.2.1, ⟨hk.1.2.2.1, hk.1.2.2.2⟩⟩⟩ | exact hk | simp only [ne_eq, hk, not_false_eq_true, and_self])), fun _ => (by (with_reducible repeat (first | apply Kd.R_alloc | apply Kd.R_drewN | apply Kd.R_drew)); exact Kd.R_mono (Kd.R_far (p := ⟨gb378, 1, none⟩) (Kd.R_far (p := ⟨gb378, 0, none⟩) (Kd.R_types HO371.out BK378.out (by decide)) (fun _ hk => by first | exact hk.2 | exact hk | simp only [ne_eq, hk, not_false_eq_true, and_self]) (.int .i64 t374)) (fun _ hk => by first | exact hk.2 | exact hk | simp only [ne_eq, hk, not_false_eq_true, and_self]) (.int .i64 t375)) (fun _ hk => by first | exact ⟨hk.1.1, ⟨hk.1.2.1, ⟨hk.1.2.2.1, hk.1.2.2.2⟩⟩⟩ | exact hk | simp only [ne_eq, hk, not_false_eq_true, and_self])), fun _ h1_ => absurd ((hon 11 (by kernel_rfl)).symm.trans h1_) (by decide), fun _ => GW376.out, fun _ => GE376.out, fun _ => NB348_376.out, fun _ => NB376_348.out, fun _ => NB349_376.out, fun _ => NB376_349.out, fun _ => NB355_376.out, fun _ => NB376_355.out, fun _ => NB356_376.out, fun _ => NB376_356.out, fun _ h1_ => absurd ((hon 12 (by kernel_rfl)).symm.trans h1_) (by decide), fun _ => GW377.out, fun _ => GE377.out, fun _ => NB348_377.out, fun _ => NB377_348.out, fun _ => NB349_377.out, fun _ => NB377_349.out, fun _ => NB355_377.out, fun _ => NB377_355.out, fun _ => NB356_377.out, fun _ => NB377_356.out, fun _ h1_ => absurd ((up_self b 13).symm.trans h1_) (by decide), fun _ => GW378.out, fun _ => GE378.out, fun _ => NB348_378.out, fun _ => NB378_348.out, fun _ => NB349_378.out, fun _ => NB378_349.out, fun _ => NB355_378.out, fun _ => NB378_355.out, fun _ => NB356_378.out, fun _ => NB378_356.out, fun _ => (by (with_reducible repeat (first | apply pzN | apply pzd | apply pza)); refine blk_far ?_ NB376_378.out _; (with_reducible repeat (first | apply pzN | apply pzd | apply pza)); refine blk_far ?_ NB376_378.out _; (with_reducible repeat (first | apply pzN | apply pzd | apply pza)); exact BK376.out), fun _ => (by (with_reducible repeat (first | apply pzN | apply pzd | apply pza)); refine blk_far ?_ NB377_378.out _; (with_reducible repeat (first | apply pzN | apply pzd | apply pza)); refine blk_far ?_ NB377_378.out _; (with_reducible repeat (first | apply pzN | apply pzd | apply pza)); exact BK377.out), fun _ => (by (with_reducible repeat (first | apply pzN | apply pzd | apply pza)); refine blk_put (cs := #[.int .i64 t374, .int .i64 0]) ?_ 1 _ rfl; (with_reducible repeat (first | apply pzN | apply pzd | apply pza)); refine blk_put (cs := #[.int .i64 0, .int .i64 0]) ?_ 0 _ rfl; (with_reducible repeat (first | apply pzN | apply pzd | apply pza)); exact BK378.out), Q_X1_, Q_X2_, Q_X3_, Q_X4_, Q_X5_, Q_X8_, Q_X9_, Q_X10_⟩
         exact steps_nil
        rintro b a w50 hall ⟨v360, v364, v370, gb376, gb377, gb378, m1_, m2_, m3_, m4_, m5_, m8_, m9_, m10_, ha, Q_HO337, Q_HO341, Q_BK348, Q_BK349, Q_BK355, Q_BK356, Q_HB, Q_NB377_376, Q_NB376_377, Q_NB378_376, Q_NB376_378, Q_NB378_377, Q_NB377_378, Q_HO361, Q_HO365, Q_HO371, Q_BK376, Q_GW376, Q_GE376, Q_NB348_376, Q_NB376_348, Q_NB349_376, Q_NB376_349, Q_NB355_376, Q_NB376_355, Q_NB356_376, Q_NB376_356, Q_BK377, Q_GW377, Q_GE377, Q_NB348_377, Q_NB377_348, Q_NB349_377, Q_NB377_349, Q_NB355_377, Q_NB377_355, Q_NB356_377, Q_NB377_356, Q_BK378, Q_GW378, Q_GE378, Q_NB348_378, Q_NB378_348, Q_NB349_378, Q_NB378_349, Q_NB355_378, Q_NB378_355, Q_NB356_378, Q_NB378_356, Q_BK376_e11, Q_BK377_e12, Q_BK378_e13, Q_X1_, Q_X2_, Q_X3_, Q_X4_, Q_X5_, Q_X8_, Q_X9_, Q_X10_⟩
        clear BK348 BK349 BK355 BK356 HB HO337 HO341
        have hb0_ := hall 0 (by kernel_rfl)
        have hb1_ := hall 1 (by kernel_rfl)
        have hb2_ := hall 2 (by kernel_rfl)
        have hb3_ := hall 3 (by kernel_rfl)
        have hb4_ := hall 4 (by kernel_rfl)
        have hb5_ := hall 5 (by kernel_rfl)
        have hb6_ := hall 6 (by kernel_rfl)
        have hb7_ := hall 7 (by kernel_rfl)
        have hb8_ := hall 8 (by kernel_rfl)
        have hb9_ := hall 9 (by kernel_rfl)
        have hb10_ := hall 10 (by kernel_rfl)
        have hb11_ := hall 11 (by kernel_rfl)
        have hb12_ := hall 12 (by kernel_rfl)
        have hb13_ := hall 13 (by kernel_rfl)
        subst ha
        obtain rfl := Q_X1_ hb1_
        obtain rfl := Q_X2_ hb2_
        obtain rfl := Q_X3_ hb3_
        obtain rfl := Q_X4_ hb4_
        obtain rfl := Q_X5_ hb5_
        obtain rfl := Q_X8_ hb8_
        obtain rfl := Q_X9_ hb9_
        obtain rfl := Q_X10_ hb10_
        simp only [putSel, hb0_, hb1_, hb2_, hb3_, hb4_, hb5_, hb6_, hb7_, hb8_, hb9_, hb10_, hb11_, hb12_, hb13_, if_true, Act.put, zS, z0, z1]
        have HO337 := zM Q_HO337
        clear Q_HO337
        have HO341 := zM Q_HO341
        clear Q_HO341
        have BK348 := zM Q_BK348
        clear Q_BK348
        have BK349 := zM Q_BK349
        clear Q_BK349
        have BK355 := zM Q_BK355
        clear Q_BK355
        have BK356 := zM Q_BK356
        clear Q_BK356
        have HB := zM Q_HB
        clear Q_HB
        have NB377_376 := zM (Q_NB377_376 hb8_ hb9_)
        clear Q_NB377_376
        have NB376_377 := zM (Q_NB376_377 hb8_ hb9_)
        clear Q_NB376_377
        have NB378_376 := zM (Q_NB378_376 hb8_ hb10_)
        clear Q_NB378_376
        have NB376_378 := zM (Q_NB376_378 hb8_ hb10_)
        clear Q_NB376_378
        have NB378_377 := zM (Q_NB378_377 hb9_ hb10_)
        clear Q_NB378_377
        have NB377_378 := zM (Q_NB377_378 hb9_ hb10_)
        clear Q_NB377_378
        have HO361 := zM (Q_HO361 hb1_)
        clear Q_HO361
        have HO365 := zM (Q_HO365 hb1_)
        clear Q_HO365
        have HO371 := zM (Q_HO371 hb3_)
        clear Q_HO371
        clear Q_BK376
        have GW376 := zM (Q_GW376 hb8_)
        clear Q_GW376
        have GE376 := zM (Q_GE376 hb8_)
        clear Q_GE376
        have NB348_376 := zM (Q_NB348_376 hb8_)
        clear Q_NB348_376
        have NB376_348 := zM (Q_NB376_348 hb8_)
        clear Q_NB376_348
        have NB349_376 := zM (Q_NB349_376 hb8_)
        clear Q_NB349_376
        have NB376_349 := zM (Q_NB376_349 hb8_)
        clear Q_NB376_349
        have NB355_376 := zM (Q_NB355_376 hb8_)
        clear Q_NB355_376
        have NB376_355 := zM (Q_NB376_355 hb8_)
        clear Q_NB376_355
        have NB356_376 := zM (Q_NB356_376 hb8_)
        clear Q_NB356_376
        have NB376_356 := zM (Q_NB376_356 hb8_)
        clear Q_NB376_356
        clear Q_BK377
        have GW377 := zM (Q_GW377 hb9_)
        clear Q_GW377
        have GE377 := zM (Q_GE377 hb9_)
        clear Q_GE377
        have NB348_377 := zM (Q_NB348_377 hb9_)
        clear Q_NB348_377
        have NB377_348 := zM (Q_NB377_348 hb9_)
        clear Q_NB377_348
        have NB349_377 := zM (Q_NB349_377 hb9_)
        clear Q_NB349_377
        have NB377_349 := zM (Q_NB377_349 hb9_)
        clear Q_NB377_349
        have NB355_377 := zM (Q_NB355_377 hb9_)
        clear Q_NB355_377
        have NB377_355 := zM (Q_NB377_355 hb9_)
        clear Q_NB377_355
        have NB356_377 := zM (Q_NB356_377 hb9_)
        clear Q_NB356_377
        have NB377_356 := zM (Q_NB377_356 hb9_)
        clear Q_NB377_356
        clear Q_BK378
        have GW378 := zM (Q_GW378 hb10_)
        clear Q_GW378
        have GE378 := zM (Q_GE378 hb10_)
        clear Q_GE378
        have NB348_378 := zM (Q_NB348_378 hb10_)
        clear Q_NB348_378
        have NB378_348 := zM (Q_NB378_348 hb10_)
        clear Q_NB378_348
        have NB349_378 := zM (Q_NB349_378 hb10_)
        clear Q_NB349_378
        have NB378_349 := zM (Q_NB378_349 hb10_)
        clear Q_NB378_349
        have NB355_378 := zM (Q_NB355_378 hb10_)
        clear Q_NB355_378
        have NB378_355 := zM (Q_NB378_355 hb10_)
        clear Q_NB378_355
        have NB356_378 := zM (Q_NB356_378 hb10_)
        clear Q_NB356_378
        have NB378_356 := zM (Q_NB378_356 hb10_)
        clear Q_NB378_356
        have BK376 := zM (Q_BK376_e11 hb11_)
        clear Q_BK376_e11
        have BK377 := zM (Q_BK377_e12 hb12_)
        clear Q_BK377_e12
        have BK378 := zM (Q_BK378_e13 hb13_)
        clear Q_BK378_e13
        clear hall hb0_ hb1_ hb2_ hb3_ hb4_ hb5_ hb6_ hb7_ hb8_ hb9_ hb10_ hb11_ hb12_ hb13_
        try go_wp2_with (first | ((with_reducible refine gate_callee (f := 41) rfl ?_); refine goesL_ (some 31) rfl rfl Try.func41 (by kernel_rfl) rfl #[.int .i64 0] rfl (by (try simp only [zT, zC, zN]); first | done | rfl | (simp only [zR, zL]; rfl)) ?_; (with_reducible refine (brindlewoodlaw4_whole.calls k 0 t379 t380 t381 t384 t385 t388 t389 _ A6.out).mono ?_); rintro e w51 ⟨v382, v386, rfl, ho0, ho1, hb⟩; refine ⟨_, rfl, ?_⟩; have n0_ := zM (Kd.R_mono (Kd.R_told (Kd.R_told (Kd.R_old HO337.out hb) (Kd.R_base ho0)) (Kd.R_base ho1)) (fun _ h_ => h_.1)); have n1_ := zM (Kd.R_mono (Kd.R_told (Kd.R_told (Kd.R_old HO341.out hb) (Kd.R_base ho0)) (Kd.R_base ho1)) (fun _ h_ => h_.1)); have n2_ := zM (Kd.R_mono (Kd.R_told (Kd.R_told (Kd.R_old HO361.out hb) (Kd.R_base ho0)) (Kd.R_base ho1)) (fun _ h_ => h_.1)); have n3_ := zM (Kd.R_mono (Kd.R_told (Kd.R_told (Kd.R_old HO365.out hb) (Kd.R_base ho0)) (Kd.R_base ho1)) (fun _ h_ => h_.1)); have n4_ := zM (Kd.R_mono (Kd.R_told (Kd.R_told (Kd.R_old HO371.out hb) (Kd.R_base ho0)) (Kd.R_base ho1)) (fun _ h_ => h_.1)); have n5_ := zM (Kd.R_lower (Kd.R_new' (Kd.R_new' (Kd.R_new' (Kd.R_new' (Kd.R_new' ho0 (Kd.R_lt HO337.out)) (Kd.R_lt HO341.out)) (Kd.R_lt HO361.out)) (Kd.R_lt HO365.out)) (Kd.R_lt HO371.out)) (below_size (by repeat (first | (with_reducible first | exact HB.out | apply pzA | apply pzD | apply pz1 | apply pzs | assumption) | exact HB.out)))); have n6_ := zM (Kd.R_lower (Kd.R_new' (Kd.R_new' (Kd.R_new' (Kd.R_new' (Kd.R_new' ho1 (Kd.R_lt HO337.out)) (Kd.R_lt HO341.out)) (Kd.R_lt HO361.out)) (Kd.R_lt HO365.out)) (Kd.R_lt HO371.out)) (below_size (by repeat (first | (with_reducible first | exact HB.out | apply pzA | apply pzD | apply pz1 | apply pzs | assumption) | exact HB.out)))); have n7_ := pzb BK348 hb; have n8_ := pzb BK349 hb; have n9_ := pzb BK355 hb; have n10_ := pzb BK356 hb; have n11_ := pzb BK376 hb; have n12_ := pzb BK377 hb; have n13_ := pzb BK378 hb; have n14_ := zM (below_step (by repeat (first | (with_reducible first | exact HB.out | apply pzA | apply pzD | apply pz1 | apply pzs | assumption) | exact HB.out)) hb); clear HO337; clear HO341; clear HO361; clear HO365; clear HO371; clear BK348; clear BK349; clear BK355; clear BK356; clear BK376; clear BK377; clear BK378; clear HB; have HO337 := n0_; have HO341 := n1_; have HO361 := n2_; have HO365 := n3_; have HO371 := n4_; have HO383 := n5_; have HO387 := n6_; have BK348 := n7_; have BK349 := n8_; have BK355 := n9_; have BK356 := n10_; have BK376 := n11_; have BK377 := n12_; have BK378 := n13_; have HB := n14_; clear n0_ n1_ n2_ n3_ n4_ n5_ n6_ n7_ n8_ n9_ n10_ n11_ n12_ n13_ n14_; (try clear hb); (try clear hb2); (try clear hk); (try clear hi); (try clear ho0); (try clear ho1); obtain ⟨Ao52, co52, eo52⟩ := Kd.R_slice HO383.out; subst eo52) | ((with_reducible refine gate_callee (f := 14) rfl ?_); refine goesL_ (some 33) rfl rfl Try.func14 (by kernel_rfl) rfl #[.agg #[.bool t380, .slice Ao52 t381.length co52]] rfl (by (try simp only [zT, zC, zN]); first | done | rfl | (simp only [zR, zL]; rfl)) ?_; (with_reducible refine (brindlewoodref4_Seeded.calls k t380 _ _ t381 t390 t391 _ ?side1 ?side2 A7.out).mono ?_); (case side1 => repeat (first | exact (Kd.R_reads' HO383.out).2.2 | (with_reducible refine Kd.C_alloc ?_ _) | (with_reducible refine Kd.C_drewN ?_ _) | (with_reducible refine Kd.C_drew ?_))); (case side2 => exact (Kd.R_reads' HO383.out).2.1); rintro e w53 ⟨rfl, hb⟩; refine ⟨_, rfl, ?_⟩; replace HO337 := zM (Kd.R_below HO337.out hb); replace HO341 := zM (Kd.R_below HO341.out hb); replace HO361 := zM (Kd.R_below HO361.out hb); replace HO365 := zM (Kd.R_below HO365.out hb); replace HO371 := zM (Kd.R_below HO371.out hb); replace HO383 := zM (Kd.R_below HO383.out hb); replace HO387 := zM (Kd.R_below HO387.out hb); replace BK348 := pzb BK348 hb; replace BK349 := pzb BK349 hb; replace BK355 := pzb BK355 hb; replace BK356 := pzb BK356 hb; replace BK376 := pzb BK376 hb; replace BK377 := pzb BK377 hb; replace BK378 := pzb BK378 hb; replace HB := zM (below_step (by repeat (first | (with_reducible first | exact HB.out | apply pzA | apply pzD | apply pz1 | apply pzs | assumption) | exact HB.out)) hb); (try clear hb); (try clear hb2); (try clear hk); (try clear hi)) | ((with_reducible refine gate_dst (N := 9) rfl ?_); refine box_event ?hg (N := 9) ?hd (cs := #[.int .u64 0, .int .u64 0]) (t := 40) ?hr ?_; (case hd => rfl); (case hg => rfl); (case hr => first | (go_simp; done) | (go_simp; rfl)); intro gb392 hg w54 hbox hb; have BK392 := zM (hbox); have GW392 := zM ((by rw [hg]; exact (below_size (by repeat (first | (with_reducible first | exact HB.out | apply pzA | apply pzD | apply pz1 | apply pzs | assumption) | exact HB.out))) : w.heap.size ≤ gb392)); have GE392 := GW392; have NB348_392 := pzf BK348 hg; have NB392_348 := pzg BK348 hg; have NB349_392 := pzf BK349 hg; have NB392_349 := pzg BK349 hg; have NB355_392 := pzf BK355 hg; have NB392_355 := pzg BK355 hg; have NB356_392 := pzf BK356 hg; have NB392_356 := pzg BK356 hg; have NB376_392 := pzf BK376 hg; have NB392_376 := pzg BK376 hg; have NB377_392 := pzf BK377 hg; have NB392_377 := pzg BK377 hg; have NB378_392 := pzf BK378 hg; have NB392_378 := pzg BK378 hg; replace HO337 := zM (Kd.R_below HO337.out hb); replace HO341 := zM (Kd.R_below HO341.out hb); replace HO361 := zM (Kd.R_below HO361.out hb); replace HO365 := zM (Kd.R_below HO365.out hb); replace HO371 := zM (Kd.R_below HO371.out hb); replace HO383 := zM (Kd.R_below HO383.out hb); replace HO387 := zM (Kd.R_below HO387.out hb); replace BK348 := pzb BK348 hb; replace BK349 := pzb BK349 hb; replace BK355 := pzb BK355 hb; replace BK356 := pzb BK356 hb; replace BK376 := pzb BK376 hb; replace BK377 := pzb BK377 hb; replace BK378 := pzb BK378 hb; replace HB := zM (below_step (by repeat (first | (with_reducible first | exact HB.out | apply pzA | apply pzD | apply pz1 | apply pzs | assumption) | exact HB.out)) hb); clear hb hbox hg; have hnb55 := NB392_348.out; have hnc55 := NB348_392.out; have hnb56 := NB392_349.out; have hnc56 := NB349_392.out; have hnb57 := NB392_355.out; have hnc57 := NB355_392.out; have hnb58 := NB392_356.out; have hnc58 := NB356_392.out; have hnb59 := NB392_376.out; have hnc59 := NB376_392.out; have hnb60 := NB392_377.out; have hnc60 := NB377_392.out; have hnb61 := NB392_378.out; have hnc61 := NB378_392.out; have hcz62_0 := pzc (v := .int .u64 0) BK392 0 rfl; have hcz62_1 := pzc (v := .int .u64 0) BK392 1 rfl; have hfz62_0 := zF BK392.out 0; have hfz62_1 := zF BK392.out 1) | ((with_reducible refine gate_callee (f := 15) rfl ?_); refine goesL_ (some 35) rfl rfl Try.func15 (by kernel_rfl) rfl #[.pointer (some ⟨gb392, 0, none⟩)] rfl (by (try simp only [zT, zC, zN]); first | done | rfl | (simp only [zR, zL]; rfl)) ?_; (with_reducible refine (brindlewoodref4_Random_Draw.calls gb392 t390 t391 t393 t394 t395 w _ ?side1 ?side2 A8.out).mono ?_); (case side1 => exact (zM (show IsS40 w _ gb392 t390 t391 from ⟨(by (with_reducible repeat (first | apply pzN | apply pzd | apply pza)); refine blk_put (cs := #[.int .u64 t390, .int .u64 0]) ?_ 1 _ rfl; (with_reducible repeat (first | apply pzN | apply pzd | apply pza)); refine blk_put (cs := #[.int .u64 0, .int .u64 0]) ?_ 0 _ rfl; (with_reducible repeat (first | apply pzN | apply pzd | apply pza)); exact BK392.out), GE392.out⟩)).out); (case side2 => repeat (first | (with_reducible first | exact HB.out | apply pzA | apply pzD | apply pz1 | apply pzs | assumption) | exact HB.out)); rintro e w63 ⟨rfl, hi, hb, hk⟩; refine ⟨_, rfl, ?_⟩; replace HO337 := zM (Kd.R_mono (Kd.R_keep (IsS40.apart (show IsS40 w _ gb392 t390 t391 from by exact (zM (show IsS40 w _ gb392 t390 t391 from ⟨(by (with_reducible repeat (first | apply pzN | apply pzd | apply pza)); refine blk_put (cs := #[.int .u64 t390, .int .u64 0]) ?_ 1 _ rfl; (with_reducible repeat (first | apply pzN | apply pzd | apply pza)); refine blk_put (cs := #[.int .u64 0, .int .u64 0]) ?_ 0 _ rfl; (with_reducible repeat (first | apply pzN | apply pzd | apply pza)); exact BK392.out), GE392.out⟩)).out) (by (with_reducible repeat (first | apply Kd.R_alloc | apply Kd.R_drewN | apply Kd.R_drew)); exact (Kd.R_mono (Kd.R_far (p := ⟨gb392, 1, none⟩) (Kd.R_far (p := ⟨gb392, 0, none⟩) (Kd.R_types HO337.out BK392.out (by decide)) (fun _ hk => hk.2) (.int .u64 t390)) (fun _ hk => hk.2) (.int .u64 t391)) (fun _ h_ => h_.1))) (by decide)) hk (fun _ h => h.2)) (fun _ h => h.1)); replace HO341 := zM (Kd.R_mono (Kd.R_keep (IsS40.apart (show IsS40 w _ gb392 t390 t391 from by exact (zM (show IsS40 w _ gb392 t390 t391 from ⟨(by (with_reducible repeat (first | apply pzN | apply pzd | apply pza)); refine blk_put (cs := #[.int .u64 t390, .int .u64 0]) ?_ 1 _ rfl; (with_reducible repeat (first | apply pzN | apply pzd | apply pza)); refine blk_put (cs := #[.int .u64 0, .int .u64 0]) ?_ 0 _ rfl; (with_reducible repeat (first | apply pzN | apply pzd | apply pza)); exact BK392.out), GE392.out⟩)).out) (by (with_reducible repeat (first | apply Kd.R_alloc | apply Kd.R_drewN | apply Kd.R_drew)); exact (Kd.R_mono (Kd.R_far (p := ⟨gb392, 1, none⟩) (Kd.R_far (p := ⟨gb392, 0, none⟩) (Kd.R_types HO341.out BK392.out (by decide)) (fun _ hk => hk.2) (.int .u64 t390)) (fun _ hk => hk.2) (.int .u64 t391)) (fun _ h_ => h_.1))) (by decide)) hk (fun _ h => h.2)) (fun _ h => h.1)); replace BK348 := zM (KeepBut.blk hk (g' := gb348) (o := .cells #[.int .u64 t344, .int .u64 t345] 27 (0, 0)) (by (with_reducible repeat (first | apply pzN | apply pzd | apply pza)); refine blk_far ?_ NB348_392.out _; (with_reducible repeat (first | apply pzN | apply pzd | apply pza)); refine blk_far ?_ NB348_392.out _; (with_reducible repeat (first | apply pzN | apply pzd | apply pza)); exact BK348.out) NB348_392.out (by simp)); replace BK349 := zM (KeepBut.blk hk (g' := gb349) (o := .cells #[.int .i64 t346, .int .i64 t347] 29 (0, 0)) (by (with_reducible repeat (first | apply pzN | apply pzd | apply pza)); refine blk_far ?_ NB349_392.out _; (with_reducible repeat (first | apply pzN | apply pzd | apply pza)); refine blk_far ?_ NB349_392.out _; (with_reducible repeat (first | apply pzN | apply pzd | apply pza)); exact BK349.out) NB349_392.out (by simp)); replace BK355 := zM (KeepBut.blk hk (g' := gb355) (o := .cells #[.int .u64 t351, .int .u64 t352] 27 (0, 0)) (by (with_reducible repeat (first | apply pzN | apply pzd | apply pza)); refine blk_far ?_ NB355_392.out _; (with_reducible repeat (first | apply pzN | apply pzd | apply pza)); refine blk_far ?_ NB355_392.out _; (with_reducible repeat (first | apply pzN | apply pzd | apply pza)); exact BK355.out) NB355_392.out (by simp)); replace BK356 := zM (KeepBut.blk hk (g' := gb356) (o := .cells #[.int .i64 t353, .int .i64 t354] 29 (0, 0)) (by (with_reducible repeat (first | apply pzN | apply pzd | apply pza)); refine blk_far ?_ NB356_392.out _; (with_reducible repeat (first | apply pzN | apply pzd | apply pza)); refine blk_far ?_ NB356_392.out _; (with_reducible repeat (first | apply pzN | apply pzd | apply pza)); exact BK356.out) NB356_392.out (by simp)); replace HO361 := zM (Kd.R_mono (Kd.R_keep (IsS40.apart (show IsS40 w _ gb392 t390 t391 from by exact (zM (show IsS40 w _ gb392 t390 t391 from ⟨(by (with_reducible repeat (first | apply pzN | apply pzd | apply pza)); refine blk_put (cs := #[.int .u64 t390, .int .u64 0]) ?_ 1 _ rfl; (with_reducible repeat (first | apply pzN | apply pzd | apply pza)); refine blk_put (cs := #[.int .u64 0, .int .u64 0]) ?_ 0 _ rfl; (with_reducible repeat (first | apply pzN | apply pzd | apply pza)); exact BK392.out), GE392.out⟩)).out) (by (with_reducible repeat (first | apply Kd.R_alloc | apply Kd.R_drewN | apply Kd.R_drew)); exact (Kd.R_mono (Kd.R_far (p := ⟨gb392, 1, none⟩) (Kd.R_far (p := ⟨gb392, 0, none⟩) (Kd.R_types HO361.out BK392.out (by decide)) (fun _ hk => hk.2) (.int .u64 t390)) (fun _ hk => hk.2) (.int .u64 t391)) (fun _ h_ => h_.1))) (by decide)) hk (fun _ h => h.2)) (fun _ h => h.1)); replace HO365 := zM (Kd.R_mono (Kd.R_keep (IsS40.apart (show IsS40 w _ gb392 t390 t391 from by exact (zM (show IsS40 w _ gb392 t390 t391 from ⟨(by (with_reducible repeat (first | apply pzN | apply pzd | apply pza)); refine blk_put (cs := #[.int .u64 t390, .int .u64 0]) ?_ 1 _ rfl; (with_reducible repeat (first | apply pzN | apply pzd | apply pza)); refine blk_put (cs := #[.int .u64 0, .int .u64 0]) ?_ 0 _ rfl; (with_reducible repeat (first | apply pzN | apply pzd | apply pza)); exact BK392.out), GE392.out⟩)).out) (by (with_reducible repeat (first | apply Kd.R_alloc | apply Kd.R_drewN | apply Kd.R_drew)); exact (Kd.R_mono (Kd.R_far (p := ⟨gb392, 1, none⟩) (Kd.R_far (p := ⟨gb392, 0, none⟩) (Kd.R_types HO365.out BK392.out (by decide)) (fun _ hk => hk.2) (.int .u64 t390)) (fun _ hk => hk.2) (.int .u64 t391)) (fun _ h_ => h_.1))) (by decide)) hk (fun _ h => h.2)) (fun _ h => h.1)); replace HO371 := zM (Kd.R_mono (Kd.R_keep (IsS40.apart (show IsS40 w _ gb392 t390 t391 from by exact (zM (show IsS40 w _ gb392 t390 t391 from ⟨(by (with_reducible repeat (first | apply pzN | apply pzd | apply pza)); refine blk_put (cs := #[.int .u64 t390, .int .u64 0]) ?_ 1 _ rfl; (with_reducible repeat (first | apply pzN | apply pzd | apply pza)); refine blk_put (cs := #[.int .u64 0, .int .u64 0]) ?_ 0 _ rfl; (with_reducible repeat (first | apply pzN | apply pzd | apply pza)); exact BK392.out), GE392.out⟩)).out) (by (with_reducible repeat (first | apply Kd.R_alloc | apply Kd.R_drewN | apply Kd.R_drew)); exact (Kd.R_mono (Kd.R_far (p := ⟨gb392, 1, none⟩) (Kd.R_far (p := ⟨gb392, 0, none⟩) (Kd.R_types HO371.out BK392.out (by decide)) (fun _ hk => hk.2) (.int .u64 t390)) (fun _ hk => hk.2) (.int .u64 t391)) (fun _ h_ => h_.1))) (by decide)) hk (fun _ h => h.2)) (fun _ h => h.1)); replace BK376 := zM (KeepBut.blk hk (g' := gb376) (o := .cells #[.bool t368, v370] 24 (0, 0)) (by (with_reducible repeat (first | apply pzN | apply pzd | apply pza)); refine blk_far ?_ NB376_392.out _; (with_reducible repeat (first | apply pzN | apply pzd | apply pza)); refine blk_far ?_ NB376_392.out _; (with_reducible repeat (first | apply pzN | apply pzd | apply pza)); exact BK376.out) NB376_392.out (by simp)); replace BK377 := zM (KeepBut.blk hk (g' := gb377) (o := .cells #[.int .u64 t372, .int .u64 t373] 27 (0, 0)) (by (with_reducible repeat (first | apply pzN | apply pzd | apply pza)); refine blk_far ?_ NB377_392.out _; (with_reducible repeat (first | apply pzN | apply pzd | apply pza)); refine blk_far ?_ NB377_392.out _; (with_reducible repeat (first | apply pzN | apply pzd | apply pza)); exact BK377.out) NB377_392.out (by simp)); replace BK378 := zM (KeepBut.blk hk (g' := gb378) (o := .cells #[.int .i64 t374, .int .i64 t375] 29 (0, 0)) (by (with_reducible repeat (first | apply pzN | apply pzd | apply pza)); refine blk_far ?_ NB378_392.out _; (with_reducible repeat (first | apply pzN | apply pzd | apply pza)); refine blk_far ?_ NB378_392.out _; (with_reducible repeat (first | apply pzN | apply pzd | apply pza)); exact BK378.out) NB378_392.out (by simp)); replace HO383 := zM (Kd.R_mono (Kd.R_keep (IsS40.apart (show IsS40 w _ gb392 t390 t391 from by exact (zM (show IsS40 w _ gb392 t390 t391 from ⟨(by (with_reducible repeat (first | apply pzN | apply pzd | apply pza)); refine blk_put (cs := #[.int .u64 t390, .int .u64 0]) ?_ 1 _ rfl; (with_reducible repeat (first | apply pzN | apply pzd | apply pza)); refine blk_put (cs := #[.int .u64 0, .int .u64 0]) ?_ 0 _ rfl; (with_reducible repeat (first | apply pzN | apply pzd | apply pza)); exact BK392.out), GE392.out⟩)).out) (by (with_reducible repeat (first | apply Kd.R_alloc | apply Kd.R_drewN | apply Kd.R_drew)); exact (Kd.R_mono (Kd.R_far (p := ⟨gb392, 1, none⟩) (Kd.R_far (p := ⟨gb392, 0, none⟩) (Kd.R_types HO383.out BK392.out (by decide)) (fun _ hk => hk.2) (.int .u64 t390)) (fun _ hk => hk.2) (.int .u64 t391)) (fun _ h_ => h_.1))) (by decide)) hk (fun _ h => h.2)) (fun _ h => h.1)); replace HO387 := zM (Kd.R_mono (Kd.R_keep (IsS40.apart (show IsS40 w _ gb392 t390 t391 from by exact (zM (show IsS40 w _ gb392 t390 t391 from ⟨(by (with_reducible repeat (first | apply pzN | apply pzd | apply pza)); refine blk_put (cs := #[.int .u64 t390, .int .u64 0]) ?_ 1 _ rfl; (with_reducible repeat (first | apply pzN | apply pzd | apply pza)); refine blk_put (cs := #[.int .u64 0, .int .u64 0]) ?_ 0 _ rfl; (with_reducible repeat (first | apply pzN | apply pzd | apply pza)); exact BK392.out), GE392.out⟩)).out) (by (with_reducible repeat (first | apply Kd.R_alloc | apply Kd.R_drewN | apply Kd.R_drew)); exact (Kd.R_mono (Kd.R_far (p := ⟨gb392, 1, none⟩) (Kd.R_far (p := ⟨gb392, 0, none⟩) (Kd.R_types HO387.out BK392.out (by decide)) (fun _ hk => hk.2) (.int .u64 t390)) (fun _ hk => hk.2) (.int .u64 t391)) (fun _ h_ => h_.1))) (by decide)) hk (fun _ h => h.2)) (fun _ h => h.1)); replace HB := zM (hb); replace BK392 := zM (hi.1); (try clear hb); (try clear hb2); (try clear hk); (try clear hi); have hnb64 := NB349_376.out; have hnc64 := NB376_349.out; have hnb65 := NB349_377.out; have hnc65 := NB377_349.out; have hnb66 := NB349_378.out; have hnc66 := NB378_349.out; have hcz67_0 := pzc (v := .int .i64 t346) BK349 0 rfl; have hcz67_1 := pzc (v := .int .i64 t347) BK349 1 rfl; have hfz67_0 := zF BK349.out 0; have hfz67_1 := zF BK349.out 1; have hnb68 := NB356_376.out; have hnc68 := NB376_356.out; have hnb69 := NB356_377.out; have hnc69 := NB377_356.out; have hnb70 := NB356_378.out; have hnc70 := NB378_356.out; have hcz71_0 := pzc (v := .int .i64 t353) BK356 0 rfl; have hcz71_1 := pzc (v := .int .i64 t354) BK356 1 rfl; have hfz71_0 := zF BK356.out 0; have hfz71_1 := zF BK356.out 1; have hnb72 := NB378_348.out; have hnc72 := NB348_378.out; have hnb73 := NB378_355.out; have hnc73 := NB355_378.out; have hnb74 := NB378_376.out; have hnc74 := NB376_378.out; have hnb75 := NB378_377.out; have hnc75 := NB377_378.out; have hcz76_0 := pzc (v := .int .i64 t374) BK378 0 rfl; have hcz76_1 := pzc (v := .int .i64 t375) BK378 1 rfl; have hfz76_0 := zF BK378.out 0; have hfz76_1 := zF BK378.out 1; have hnb77 := NB348_376.out; have hnc77 := NB376_348.out; have hnb78 := NB348_377.out; have hnc78 := NB377_348.out; have hcz79_0 := pzc (v := .int .u64 t344) BK348 0 rfl; have hcz79_1 := pzc (v := .int .u64 t345) BK348 1 rfl; have hfz79_0 := zF BK348.out 0; have hfz79_1 := zF BK348.out 1; have hnb80 := NB355_376.out; have hnc80 := NB376_355.out; have hnb81 := NB355_377.out; have hnc81 := NB377_355.out; have hcz82_0 := pzc (v := .int .u64 t351) BK355 0 rfl; have hcz82_1 := pzc (v := .int .u64 t352) BK355 1 rfl; have hfz82_0 := zF BK355.out 0; have hfz82_1 := zF BK355.out 1; have hcz83_0 := pzc (v := .int .u64 t394) BK392 0 rfl; have hcz83_1 := pzc (v := .int .u64 t395) BK392 1 rfl; have hfz83_0 := zF BK392.out 0; have hfz83_1 := zF BK392.out 1; have hnb84 := NB376_377.out; have hnc84 := NB377_376.out; have hcz85_0 := pzc (v := .bool t368) BK376 0 rfl; have hcz85_1 := pzc (v := v370) BK376 1 rfl; have hfz85_0 := zF BK376.out 0; have hfz85_1 := zF BK376.out 1; obtain ⟨Ao86, co86, eo86⟩ := Kd.R_slice HO371.out; subst eo86) | (go_at_call 18; (with_reducible refine (brindlewoodref3_NoInt.calls t368 _ _ t369 true _ ?side1 ?side2 A15.out).mono ?_); (case side1 => repeat (first | exact (Kd.R_reads' HO371.out).2.2 | (with_reducible refine Kd.C_alloc ?_ _) | (with_reducible refine Kd.C_drewN ?_ _) | (with_reducible refine Kd.C_drew ?_))); (case side2 => exact (Kd.R_reads' HO371.out).2.1); rintro e w87 ⟨rfl, hb⟩; replace HO337 := zM (Kd.R_below HO337.out hb); replace HO341 := zM (Kd.R_below HO341.out hb); replace HO361 := zM (Kd.R_below HO361.out hb); replace HO365 := zM (Kd.R_below HO365.out hb); replace HO371 := zM (Kd.R_below HO371.out hb); replace HO383 := zM (Kd.R_below HO383.out hb); replace HO387 := zM (Kd.R_below HO387.out hb); replace BK348 := pzb BK348 hb; replace BK377 := pzb BK377 hb; replace HB := zM (below_step (by repeat (first | (with_reducible first | exact HB.out | apply pzA | apply pzD | apply pz1 | apply pzs | assumption) | exact HB.out)) hb); (try clear hb); (try clear hb2); (try clear hk); (try clear hi); have hcz88_0 := pzc (v := .int .u64 t372) BK377 0 rfl; have hcz88_1 := pzc (v := .int .u64 t373) BK377 1 rfl; have hfz88_0 := zF BK377.out 0; have hfz88_1 := zF BK377.out 1; have hcz89_0 := pzc (v := .int .u64 t344) BK348 0 rfl; have hcz89_1 := pzc (v := .int .u64 t345) BK348 1 rfl; have hfz89_0 := zF BK348.out 0; have hfz89_1 := zF BK348.out 1))
        go_ret
        exact ⟨by first | rfl | (simp [errW_none, errW_some] <;> rfl) | (simp [*, errW_none, errW_some] <;> rfl), by repeat (first | (with_reducible first | exact HB.out | apply pzA | apply pzD | apply pz1 | apply pzs | assumption) | exact HB.out)⟩
       ·replace c16 := Bool.eq_false_iff.mpr c16
        subst c16
        have H1 : (none) = some r := by rw [if_neg (show ¬ (false = true) by decide)] at H; exact H
        clear H
        have H := H1
        clear H1
        exact absurd H (by simp)
      ·rw [if_neg c14] at H
       exact absurd H (by simp)
     ·rw [if_neg c13] at H
      exact absurd H (by simp)
    ·rw [if_neg c12] at H
     exact absurd H (by simp)
   ·rw [if_neg c11] at H
    exact absurd H (by simp)
  ·rw [if_neg c10] at H
   exact absurd H (by simp)
 ·rw [if_neg c9] at H
  exact absurd H (by simp)

/-! ### brindlewoodref3_IntOk: function 12 -/
def brindlewoodref3_IntOk.f (a0_0 : Bool) (l0_1 : List Int) : Option (Bool) := if (l0_1.length : Int) ≤ 128 then (if (l0_1.length : Int) = 0 then (if a0_0 = true then (if (l0_1.length : Int) > 0 then (if 0 ≤ (wrap64 ((l0_1.length : Int) - 1)) then (if (wrap64 ((l0_1.length : Int) - 1)) < (l0_1.length : Int) then (some ((rd l0_1 (wrap64 ((l0_1.length : Int) - 1))) != 0)) else (none)) else (none)) else (some false)) else (some true)) else (if (l0_1.length : Int) > 0 then (if 0 ≤ (wrap64 ((l0_1.length : Int) - 1)) then (if (wrap64 ((l0_1.length : Int) - 1)) < (l0_1.length : Int) then (some ((rd l0_1 (wrap64 ((l0_1.length : Int) - 1))) != 0)) else (none)) else (none)) else (some false))) else (some false)
set_option maxHeartbeats 60000000 in
set_option maxRecDepth 100000 in
theorem brindlewoodref3_IntOk.calls (a0_0 : Bool) (A0_1 : Option Addr) (c0_1 : Nat) (l0_1 : List Int) (r : Bool) (w : World) (hr0_1 : Kd.C (Kd.int .u32) w A0_1 l0_1.length l0_1) (hc0_1 : l0_1.length ≤ c0_1) (h : brindlewoodref3_IntOk.f a0_0 l0_1 = some r) :
  Calls Try.prog 12 #[.agg #[.bool a0_0, .slice A0_1 l0_1.length c0_1]] w fun e w' => e = .returned (.bool r) ∧ Below w.heap.size w w' := by
 have hu24 := Try.underlying24
 have HR0_1 := zM hr0_1
 have HC0_1 := zM hc0_1
 clear hr0_1 hc0_1
 have HB := zM (Below.refl w.heap.size w)
 have H : (if (l0_1.length : Int) ≤ 128 then (if (l0_1.length : Int) = 0 then (if a0_0 = true then (if (l0_1.length : Int) > 0 then (if 0 ≤ (wrap64 ((l0_1.length : Int) - 1)) then (if (wrap64 ((l0_1.length : Int) - 1)) < (l0_1.length : Int) then (some ((rd l0_1 (wrap64 ((l0_1.length : Int) - 1))) != 0)) else (none)) else (none)) else (some false)) else (some true)) else (if (l0_1.length : Int) > 0 then (if 0 ≤ (wrap64 ((l0_1.length : Int) - 1)) then (if (wrap64 ((l0_1.length : Int) - 1)) < (l0_1.length : Int) then (some ((rd l0_1 (wrap64 ((l0_1.length : Int) - 1))) != 0)) else (none)) else (none)) else (some false))) else (some false)) = some r := h
 clear h
 by_cases c2 : (l0_1.length : Int) ≤ 128
 ·rw [if_pos c2] at H
  have c2b0 : decide ((l0_1.length : Int) ≤ 128) = true := zE c2
  have c2b1 : decide (l0_1.length ≤ 128) = true := zE (by omega)
  clear c2
  by_cases c3 : (l0_1.length : Int) = 0
  ·rw [if_pos c3] at H
   have c3b0 : ((l0_1.length : Int) == 0) = true := beq_iff_eq.mpr c3
   have c3b1 : ((l0_1.length : Int) != 0) = false := bne_eq_false_iff_eq.mpr c3
   clear c3
   by_cases c4 : a0_0 = true
   ·subst c4
    have H1 : (if (l0_1.length : Int) > 0 then (if 0 ≤ (wrap64 ((l0_1.length : Int) - 1)) then (if (wrap64 ((l0_1.length : Int) - 1)) < (l0_1.length : Int) then (some ((rd l0_1 (wrap64 ((l0_1.length : Int) - 1))) != 0)) else (none)) else (none)) else (some false)) = some r := by rw [if_pos rfl] at H; exact H
    clear H
    have H := H1
    clear H1
    by_cases c5 : (l0_1.length : Int) > 0
    ·rw [if_pos c5] at H
     have c5b0 : decide (0 < (l0_1.length : Int)) = true := zE c5
     have c5b1 : decide (0 < l0_1.length) = true := zE (by omega)
     clear c5
     obtain ⟨ji6, hji6⟩ : ∃ j_ : Int, (wrap64 ((l0_1.length : Int) - 1)) = j_ := ⟨_, rfl⟩
     replace H : (if 0 ≤ (ji6) then (if (ji6) < (l0_1.length : Int) then (some ((rd l0_1 (ji6)) != 0)) else (none)) else (none)) = some r := by first | (rw [hji6] at H; exact H) | (simp only [hji6] at H ⊢; exact H)
     have hji6w : (IntKind.i64.wrap ((l0_1.length : Int) - 1)) = ji6 := (i64_w _).trans hji6
     by_cases c7 : 0 ≤ (ji6)
     ·rw [if_pos c7] at H
      have c7b0 : decide (0 ≤ (ji6)) = true := zE c7
      clear c7
      by_cases c8 : (ji6) < (l0_1.length : Int)
      ·rw [if_pos c8] at H
       have c8b0 : decide ((ji6) < (l0_1.length : Int)) = true := zE c8
       clear c8
       obtain rfl := Option.some.inj H
       go_enter Try.func12, Try.ntmps12
       go_wp2_with (first | ((with_reducible refine gate_dst (N := 1) rfl ?_); refine box_event ?hg (N := 1) ?hd (cs := #[.bool true, .slice A0_1 l0_1.length c0_1]) (t := 24) ?hr ?_; (case hd => rfl); (case hg => rfl); (case hr => first | (go_simp; done) | (go_simp; rfl)); intro gb397 hg w9 hbox hb; have BK397 := zM (hbox); have GW397 := zM ((by rw [hg]; exact (below_size (HB.out)) : w.heap.size ≤ gb397)); have GE397 := GW397; replace HB := zM (below_step (HB.out) hb); clear hb hbox hg; have hcz10_0 := pzc (v := .bool true) BK397 0 rfl; have hcz10_1 := pzc (v := .slice A0_1 l0_1.length c0_1) BK397 1 rfl; have hfz10_0 := zF BK397.out 0; have hfz10_1 := zF BK397.out 1; have p398 : 0 ≤ ((ji6) : Int) := zD (by first | (with_reducible assumption) | assumption); have q398 : (ji6) < (l0_1.length : Int) := zD (by first | (with_reducible assumption) | assumption); obtain ⟨ad398, e398, hx398_0⟩ := Kd.at_int HR0_1.out (ji6) p398 q398; cases e398; replace hx398_0 := (HB.out.cell (World.block_lt_of_cell? w _ hx398_0)).trans hx398_0; replace p398 := eq_true p398; replace q398 := eq_true q398))
       go_ret
       exact ⟨by first | rfl | (simp [errW_none, errW_some] <;> rfl) | (simp only [← hji6]; first | rfl | (simp [errW_none, errW_some] <;> rfl)) | (simp [*, errW_none, errW_some] <;> rfl), by repeat (first | (with_reducible first | exact HB.out | apply pzA | apply pzD | apply pz1 | apply pzs | assumption) | exact HB.out)⟩
      ·rw [if_neg c8] at H
       exact absurd H (by simp)
     ·rw [if_neg c7] at H
      exact absurd H (by simp)
    ·rw [if_neg c5] at H
     have c5b0 : decide (0 < (l0_1.length : Int)) = false := decide_eq_false c5
     have c5b1 : decide (0 < l0_1.length) = false := decide_eq_false (by omega)
     clear c5
     obtain rfl := Option.some.inj H
     go_enter Try.func12, Try.ntmps12
     go_wp2_with (first | ((with_reducible refine gate_dst (N := 1) rfl ?_); refine box_event ?hg (N := 1) ?hd (cs := #[.bool true, .slice A0_1 l0_1.length c0_1]) (t := 24) ?hr ?_; (case hd => rfl); (case hg => rfl); (case hr => first | (go_simp; done) | (go_simp; rfl)); intro gb397 hg w11 hbox hb; have BK397 := zM (hbox); have GW397 := zM ((by rw [hg]; exact (below_size (HB.out)) : w.heap.size ≤ gb397)); have GE397 := GW397; replace HB := zM (below_step (HB.out) hb); clear hb hbox hg; have hcz12_0 := pzc (v := .bool true) BK397 0 rfl; have hcz12_1 := pzc (v := .slice A0_1 l0_1.length c0_1) BK397 1 rfl; have hfz12_0 := zF BK397.out 0; have hfz12_1 := zF BK397.out 1))
     go_ret
     exact ⟨by first | rfl | (simp [errW_none, errW_some] <;> rfl) | (simp [*, errW_none, errW_some] <;> rfl), by repeat (first | (with_reducible first | exact HB.out | apply pzA | apply pzD | apply pz1 | apply pzs | assumption) | exact HB.out)⟩
   ·replace c4 := Bool.eq_false_iff.mpr c4
    subst c4
    have H1 : (some true) = some r := by rw [if_neg (show ¬ (false = true) by decide)] at H; exact H
    clear H
    have H := H1
    clear H1
    obtain rfl := Option.some.inj H
    go_enter Try.func12, Try.ntmps12
    go_wp2_with (first | ((with_reducible refine gate_dst (N := 1) rfl ?_); refine box_event ?hg (N := 1) ?hd (cs := #[.bool false, .slice A0_1 l0_1.length c0_1]) (t := 24) ?hr ?_; (case hd => rfl); (case hg => rfl); (case hr => first | (go_simp; done) | (go_simp; rfl)); intro gb397 hg w13 hbox hb; have BK397 := zM (hbox); have GW397 := zM ((by rw [hg]; exact (below_size (HB.out)) : w.heap.size ≤ gb397)); have GE397 := GW397; replace HB := zM (below_step (HB.out) hb); clear hb hbox hg; have hcz14_0 := pzc (v := .bool false) BK397 0 rfl; have hcz14_1 := pzc (v := .slice A0_1 l0_1.length c0_1) BK397 1 rfl; have hfz14_0 := zF BK397.out 0; have hfz14_1 := zF BK397.out 1))
    go_ret
    exact ⟨by first | rfl | (simp [errW_none, errW_some] <;> rfl) | (simp [*, errW_none, errW_some] <;> rfl), by repeat (first | (with_reducible first | exact HB.out | apply pzA | apply pzD | apply pz1 | apply pzs | assumption) | exact HB.out)⟩
  ·rw [if_neg c3] at H
   have c3b0 : ((l0_1.length : Int) == 0) = false := beq_eq_false_iff_ne.mpr c3
   have c3b1 : ((l0_1.length : Int) != 0) = true := bne_iff_ne.mpr c3
   have c3b2 : ¬ (l0_1 = []) := fun h_ => c3 (by rw [h_]; rfl)
   by_cases c15 : (l0_1.length : Int) > 0
   ·rw [if_pos c15] at H
    have c15b0 : decide (0 < (l0_1.length : Int)) = true := zE c15
    have c15b1 : decide (0 < l0_1.length) = true := zE (by omega)
    clear c15
    obtain ⟨ji16, hji16⟩ : ∃ j_ : Int, (wrap64 ((l0_1.length : Int) - 1)) = j_ := ⟨_, rfl⟩
    replace H : (if 0 ≤ (ji16) then (if (ji16) < (l0_1.length : Int) then (some ((rd l0_1 (ji16)) != 0)) else (none)) else (none)) = some r := by first | (rw [hji16] at H; exact H) | (simp only [hji16] at H ⊢; exact H)
    have hji16w : (IntKind.i64.wrap ((l0_1.length : Int) - 1)) = ji16 := (i64_w _).trans hji16
    by_cases c17 : 0 ≤ (ji16)
    ·rw [if_pos c17] at H
     have c17b0 : decide (0 ≤ (ji16)) = true := zE c17
     clear c17
     by_cases c18 : (ji16) < (l0_1.length : Int)
     ·rw [if_pos c18] at H
      have c18b0 : decide ((ji16) < (l0_1.length : Int)) = true := zE c18
      clear c18
      obtain rfl := Option.some.inj H
      go_enter Try.func12, Try.ntmps12
      go_wp2_with (first | ((with_reducible refine gate_dst (N := 1) rfl ?_); refine box_event ?hg (N := 1) ?hd (cs := #[.bool a0_0, .slice A0_1 l0_1.length c0_1]) (t := 24) ?hr ?_; (case hd => rfl); (case hg => rfl); (case hr => first | (go_simp; done) | (go_simp; rfl)); intro gb397 hg w19 hbox hb; have BK397 := zM (hbox); have GW397 := zM ((by rw [hg]; exact (below_size (HB.out)) : w.heap.size ≤ gb397)); have GE397 := GW397; replace HB := zM (below_step (HB.out) hb); clear hb hbox hg; have hcz20_0 := pzc (v := .bool a0_0) BK397 0 rfl; have hcz20_1 := pzc (v := .slice A0_1 l0_1.length c0_1) BK397 1 rfl; have hfz20_0 := zF BK397.out 0; have hfz20_1 := zF BK397.out 1; have p399 : 0 ≤ ((ji16) : Int) := zD (by first | (with_reducible assumption) | assumption); have q399 : (ji16) < (l0_1.length : Int) := zD (by first | (with_reducible assumption) | assumption); obtain ⟨ad399, e399, hx399_0⟩ := Kd.at_int HR0_1.out (ji16) p399 q399; cases e399; replace hx399_0 := (HB.out.cell (World.block_lt_of_cell? w _ hx399_0)).trans hx399_0; replace p399 := eq_true p399; replace q399 := eq_true q399))
      go_ret
      exact ⟨by first | rfl | (simp [errW_none, errW_some] <;> rfl) | (simp only [← hji16]; first | rfl | (simp [errW_none, errW_some] <;> rfl)) | (simp [*, errW_none, errW_some] <;> rfl), by repeat (first | (with_reducible first | exact HB.out | apply pzA | apply pzD | apply pz1 | apply pzs | assumption) | exact HB.out)⟩
     ·rw [if_neg c18] at H
      exact absurd H (by simp)
    ·rw [if_neg c17] at H
     exact absurd H (by simp)
   ·rw [if_neg c15] at H
    have c15b0 : decide (0 < (l0_1.length : Int)) = false := decide_eq_false c15
    have c15b1 : decide (0 < l0_1.length) = false := decide_eq_false (by omega)
    clear c15
    obtain rfl := Option.some.inj H
    go_enter Try.func12, Try.ntmps12
    go_wp2_with (first | ((with_reducible refine gate_dst (N := 1) rfl ?_); refine box_event ?hg (N := 1) ?hd (cs := #[.bool a0_0, .slice A0_1 l0_1.length c0_1]) (t := 24) ?hr ?_; (case hd => rfl); (case hg => rfl); (case hr => first | (go_simp; done) | (go_simp; rfl)); intro gb397 hg w21 hbox hb; have BK397 := zM (hbox); have GW397 := zM ((by rw [hg]; exact (below_size (HB.out)) : w.heap.size ≤ gb397)); have GE397 := GW397; replace HB := zM (below_step (HB.out) hb); clear hb hbox hg; have hcz22_0 := pzc (v := .bool a0_0) BK397 0 rfl; have hcz22_1 := pzc (v := .slice A0_1 l0_1.length c0_1) BK397 1 rfl; have hfz22_0 := zF BK397.out 0; have hfz22_1 := zF BK397.out 1))
    go_ret
    exact ⟨by first | rfl | (simp [errW_none, errW_some] <;> rfl) | (simp [*, errW_none, errW_some] <;> rfl), by repeat (first | (with_reducible first | exact HB.out | apply pzA | apply pzD | apply pz1 | apply pzs | assumption) | exact HB.out)⟩
 ·rw [if_neg c2] at H
  have c2b0 : decide ((l0_1.length : Int) ≤ 128) = false := decide_eq_false c2
  have c2b1 : decide (l0_1.length ≤ 128) = false := decide_eq_false (by omega)
  clear c2
  obtain rfl := Option.some.inj H
  go_enter Try.func12, Try.ntmps12
  go_wp2_with (first | ((with_reducible refine gate_dst (N := 1) rfl ?_); refine box_event ?hg (N := 1) ?hd (cs := #[.bool a0_0, .slice A0_1 l0_1.length c0_1]) (t := 24) ?hr ?_; (case hd => rfl); (case hg => rfl); (case hr => first | (go_simp; done) | (go_simp; rfl)); intro gb397 hg w23 hbox hb; have BK397 := zM (hbox); have GW397 := zM ((by rw [hg]; exact (below_size (HB.out)) : w.heap.size ≤ gb397)); have GE397 := GW397; replace HB := zM (below_step (HB.out) hb); clear hb hbox hg; have hcz24_0 := pzc (v := .bool a0_0) BK397 0 rfl; have hcz24_1 := pzc (v := .slice A0_1 l0_1.length c0_1) BK397 1 rfl; have hfz24_0 := zF BK397.out 0; have hfz24_1 := zF BK397.out 1))
  go_ret
  exact ⟨by first | rfl | (simp [errW_none, errW_some] <;> rfl) | (simp [*, errW_none, errW_some] <;> rfl), by repeat (first | (with_reducible first | exact HB.out | apply pzA | apply pzD | apply pz1 | apply pzs | assumption) | exact HB.out)⟩

/-! ### brindlewoodref4_At: function 13 -/
def brindlewoodref4_At.f (a0 : Int) (a1 : Int) : Option (Int × Int) := some (a0, a1)
set_option maxHeartbeats 60000000 in
set_option maxRecDepth 100000 in
theorem brindlewoodref4_At.calls (a0 : Int) (a1 : Int) (r1 : Int) (r2 : Int) (w : World) (h : brindlewoodref4_At.f a0 a1 = some (r1, r2)) :
  Calls Try.prog 13 #[.int .i64 a0, .int .i64 a1] w fun e w' => e = .returned (.agg #[.int .i64 r1, .int .i64 r2]) ∧ Below w.heap.size w w' := by
 have hu29 := Try.underlying29
 have HB := zM (Below.refl w.heap.size w)
 have H : (some (a0, a1)) = some (r1, r2) := h
 clear h
 simp only [Option.some.injEq, Prod.mk.injEq] at H
 obtain ⟨rfl, rfl⟩ := H
 go_enter Try.func13, Try.ntmps13
 go_wp2_with (first | ((with_reducible refine gate_dst (N := 4) rfl ?_); refine box_event ?hg (N := 4) ?hd (cs := #[.int .i64 0, .int .i64 0]) (t := 29) ?hr ?_; (case hd => rfl); (case hg => rfl); (case hr => first | (go_simp; done) | (go_simp; rfl)); intro gb400 hg w3 hbox hb; have BK400 := zM (hbox); have GW400 := zM ((by rw [hg]; exact (below_size (HB.out)) : w.heap.size ≤ gb400)); have GE400 := GW400; replace HB := zM (below_step (HB.out) hb); clear hb hbox hg; have hcz4_0 := pzc (v := .int .i64 0) BK400 0 rfl; have hcz4_1 := pzc (v := .int .i64 0) BK400 1 rfl; have hfz4_0 := zF BK400.out 0; have hfz4_1 := zF BK400.out 1))
 refine bodyPost_ret (results_cell_row rfl _ _ gb400 29 #[.int .i64 a0, .int .i64 a1] (0, 0) _ rfl (by (with_reducible repeat (first | apply pzN | apply pzd | apply pza)); refine blk_put (cs := #[.int .i64 a0, .int .i64 0]) ?_ 1 _ rfl; (with_reducible repeat (first | apply pzN | apply pzd | apply pza)); refine blk_put (cs := #[.int .i64 0, .int .i64 0]) ?_ 0 _ rfl; (with_reducible repeat (first | apply pzN | apply pzd | apply pza)); exact BK400.out) Try.underlying29 rfl (by kernel_rfl)) rfl ?_
 exact ⟨by first | rfl | (simp [errW_none, errW_some] <;> rfl) | (simp [*, errW_none, errW_some] <;> rfl), by repeat (first | (with_reducible first | exact HB.out | apply pzA | apply pzD | apply pz1 | apply pzs | assumption) | exact HB.out)⟩

end Go.Proofs.Ytkhiohlfdkkhdaa.P
