-- Written by the session's own program wip/tools/mp.py (over the kit's print) out of the translation. Not trusted: Lean checks it.
import Derived.Test.YtkhiohlfdkkhdaaRPP0
import Derived.Test.YtkhiohlfdkkhdaaRPP1
import Derived.Test.YtkhiohlfdkkhdaaRPP2
import Derived.Test.YtkhiohlfdkkhdaaRPP6
namespace Go.Proofs.Ytkhiohlfdkkhdaa.P
open Go.RowKit Go.Proofs.YtkhiohlfdkkhdaaW.PrintWords Go.Proofs.YtkhiohlfdkkhdaaW.PrintLast Go.Proofs.YtkhiohlfdkkhdaaW.PrintMore
attribute [local go_sem] max2_int min2_int max_two min_two max_three min_three max_four min_four   -- for this text's walks alone
set_option linter.unusedVariables false
set_option linter.unusedSimpArgs false

attribute [local go_sem high] eqA27
attribute [local go_sem] Instr.field run_asAgg
/-! ### brindlewoodlaw4_draws: function 11 -/
def brindlewoodlaw4_draws.f (k : Nat)  : Option (Bool) := (brindlewoodlaw4_whole.f k 0).bind fun bt325 => ((random_Seed.f k bt325.2.1 bt325.2.2.1).bind fun bt336 => ((random_Next.f bt336.1 bt336.2.1).bind fun bt342 => ((brindlewoodlaw4_whole.f k 1).bind fun bt349 => ((random_Below.f k bt336.1 bt336.2.1 bt349.2.1 bt349.2.2.1).bind fun bt360 => ((brindlewoodlaw4_whole.f k 0).bind fun bt371 => ((brindlewoodref4_Seeded.f k bt371.2.1 bt371.2.2.1).bind fun bt382 => ((brindlewoodref4_Random_Draw.f bt382.1 bt382.2).bind fun bt385 => (if bt336.2.2.1 = 0 then (if bt342.2.2.2.1 = 0 then (if bt360.2.2.2.2.1 = 0 then (if bt336.1 = 0 then (if bt342.1 = bt385.1 then (if (bt342.2.1 == bt385.2.1 && (bt342.2.2.1 == bt385.2.2)) = true then ((brindlewoodref3_NoInt.f bt360.1 bt360.2.1).bind fun t388 => (if t388 = true then (some (bt360.2.2.1 == bt336.1 && (bt360.2.2.2.1 == bt336.2.1))) else (none))) else (none)) else (none)) else (none)) else (none)) else (none)) else (none)))))))))
theorem brindlewoodlaw4_draws.mono : ∀ k, LeO (brindlewoodlaw4_draws.f k ) (brindlewoodlaw4_draws.f (k + 1) ) := by
 intro  k
 unfold brindlewoodlaw4_draws.f
 repeat' first
   | (with_reducible exact brindlewoodlaw4_whole.mono _ _)
   | (with_reducible exact brindlewoodref4_Seeded.mono _ _ _)
   | (with_reducible exact random_Below.mono _ _ _ _ _)
   | (with_reducible exact random_Seed.mono _ _ _)
   | (with_reducible exact LeO.refl _)
   | (with_reducible exact LeO.none _)
   | (with_reducible refine LeO.ite ?_ ?_)
   | (with_reducible refine LeO.bind ?_ (fun _ => ?_))
   | exact brindlewoodlaw4_whole.mono _ _
   | exact brindlewoodref4_Seeded.mono _ _ _
   | exact random_Below.mono _ _ _ _ _
   | exact random_Seed.mono _ _ _
   | exact LeO.none _
   | refine LeO.ite ?_ ?_
   | refine LeO.bind ?_ (fun _ => ?_)
def brindlewoodlaw4_draws.T3 : Bool × List (List Nat × List Nat) := (true, [([], []), ([], []), ([1], [1]), ([0, 2, 1], [0, 2]), ([3], [3]), ([4], [4]), ([4], [4]), ([4], [4]), ([], []), ([], []), ([], []), ([8, 5, 3, 0, 1, 2, 3, 4, 5, 8, 9, 10], [5, 8]), ([9, 6, 11, 0, 1, 2, 3, 4, 5, 6, 8, 9, 10, 11], [6, 9]), ([10, 7, 12, 0, 1, 2, 3, 4, 5, 6, 7, 8, 9, 10, 11, 12], [7, 10])])
def brindlewoodlaw4_draws.B3 : List Nat := [0, 0, 2, 7, 15, 31, 31, 31, 0, 0, 0, 1855, 3967, 8191]
theorem brindlewoodlaw4_draws.tab3 : rtab .any (opsOf Try.f11 3) = brindlewoodlaw4_draws.T3 := by kernel_rfl
theorem brindlewoodlaw4_draws.bits3 : waitsOk brindlewoodlaw4_draws.T3.2 brindlewoodlaw4_draws.B3 = true := by kernel_rfl
set_option maxHeartbeats 60000000 in
set_option maxRecDepth 100000 in
theorem brindlewoodlaw4_draws.calls (k : Nat)  (r : Bool) (w : World) (h : brindlewoodlaw4_draws.f k  = some r) :
  Calls Try.prog 11 #[] w fun e w' => e = .returned (.bool r) ∧ Below w.heap.size w w' := by
 have hu27 := Try.underlying27
 have hu29 := Try.underlying29
 have hu24 := Try.underlying24
 have hu40 := Try.underlying40
 have HB := zM (Below.refl w.heap.size w)
 have H : ((brindlewoodlaw4_whole.f k 0).bind fun bt325 => ((random_Seed.f k bt325.2.1 bt325.2.2.1).bind fun bt336 => ((random_Next.f bt336.1 bt336.2.1).bind fun bt342 => ((brindlewoodlaw4_whole.f k 1).bind fun bt349 => ((random_Below.f k bt336.1 bt336.2.1 bt349.2.1 bt349.2.2.1).bind fun bt360 => ((brindlewoodlaw4_whole.f k 0).bind fun bt371 => ((brindlewoodref4_Seeded.f k bt371.2.1 bt371.2.2.1).bind fun bt382 => ((brindlewoodref4_Random_Draw.f bt382.1 bt382.2).bind fun bt385 => (if bt336.2.2.1 = 0 then (if bt342.2.2.2.1 = 0 then (if bt360.2.2.2.2.1 = 0 then (if bt336.1 = 0 then (if bt342.1 = bt385.1 then (if (bt342.2.1 == bt385.2.1 && (bt342.2.2.1 == bt385.2.2)) = true then ((brindlewoodref3_NoInt.f bt360.1 bt360.2.1).bind fun t388 => (if t388 = true then (some (bt360.2.2.1 == bt336.1 && (bt360.2.2.2.1 == bt336.2.1))) else (none))) else (none)) else (none)) else (none)) else (none)) else (none)) else (none)))))))))) = some r := h
 clear h
 replace H := zB H
 obtain ⟨⟨t325, t326, t327, t330, t331, t334, t335⟩, A10, H⟩ := H
 replace H : ((random_Seed.f k t326 t327).bind fun bt336 => ((random_Next.f bt336.1 bt336.2.1).bind fun bt342 => ((brindlewoodlaw4_whole.f k 1).bind fun bt349 => ((random_Below.f k bt336.1 bt336.2.1 bt349.2.1 bt349.2.2.1).bind fun bt360 => ((brindlewoodlaw4_whole.f k 0).bind fun bt371 => ((brindlewoodref4_Seeded.f k bt371.2.1 bt371.2.2.1).bind fun bt382 => ((brindlewoodref4_Random_Draw.f bt382.1 bt382.2).bind fun bt385 => (if bt336.2.2.1 = 0 then (if bt342.2.2.2.1 = 0 then (if bt360.2.2.2.2.1 = 0 then (if bt336.1 = 0 then (if bt342.1 = bt385.1 then (if (bt342.2.1 == bt385.2.1 && (bt342.2.2.1 == bt385.2.2)) = true then ((brindlewoodref3_NoInt.f bt360.1 bt360.2.1).bind fun t388 => (if t388 = true then (some (bt360.2.2.1 == bt336.1 && (bt360.2.2.2.1 == bt336.2.1))) else (none))) else (none)) else (none)) else (none)) else (none)) else (none)) else (none))))))))) = some r := H
 have A1 := zM A10
 clear A10
 replace H := zB H
 obtain ⟨⟨t336, t337, t338, t339⟩, A20, H⟩ := H
 replace H : ((random_Next.f t336 t337).bind fun bt342 => ((brindlewoodlaw4_whole.f k 1).bind fun bt349 => ((random_Below.f k t336 t337 bt349.2.1 bt349.2.2.1).bind fun bt360 => ((brindlewoodlaw4_whole.f k 0).bind fun bt371 => ((brindlewoodref4_Seeded.f k bt371.2.1 bt371.2.2.1).bind fun bt382 => ((brindlewoodref4_Random_Draw.f bt382.1 bt382.2).bind fun bt385 => (if t338 = 0 then (if bt342.2.2.2.1 = 0 then (if bt360.2.2.2.2.1 = 0 then (if t336 = 0 then (if bt342.1 = bt385.1 then (if (bt342.2.1 == bt385.2.1 && (bt342.2.2.1 == bt385.2.2)) = true then ((brindlewoodref3_NoInt.f bt360.1 bt360.2.1).bind fun t388 => (if t388 = true then (some (bt360.2.2.1 == t336 && (bt360.2.2.2.1 == t337))) else (none))) else (none)) else (none)) else (none)) else (none)) else (none)) else (none)))))))) = some r := H
 have A2 := zM A20
 clear A20
 replace H := zB H
 obtain ⟨⟨t342, t343, t344, t345, t346⟩, A30, H⟩ := H
 replace H : ((brindlewoodlaw4_whole.f k 1).bind fun bt349 => ((random_Below.f k t336 t337 bt349.2.1 bt349.2.2.1).bind fun bt360 => ((brindlewoodlaw4_whole.f k 0).bind fun bt371 => ((brindlewoodref4_Seeded.f k bt371.2.1 bt371.2.2.1).bind fun bt382 => ((brindlewoodref4_Random_Draw.f bt382.1 bt382.2).bind fun bt385 => (if t338 = 0 then (if t345 = 0 then (if bt360.2.2.2.2.1 = 0 then (if t336 = 0 then (if t342 = bt385.1 then (if (t343 == bt385.2.1 && (t344 == bt385.2.2)) = true then ((brindlewoodref3_NoInt.f bt360.1 bt360.2.1).bind fun t388 => (if t388 = true then (some (bt360.2.2.1 == t336 && (bt360.2.2.2.1 == t337))) else (none))) else (none)) else (none)) else (none)) else (none)) else (none)) else (none))))))) = some r := H
 have A3 := zM A30
 clear A30
 replace H := zB H
 obtain ⟨⟨t349, t350, t351, t354, t355, t358, t359⟩, A40, H⟩ := H
 replace H : ((random_Below.f k t336 t337 t350 t351).bind fun bt360 => ((brindlewoodlaw4_whole.f k 0).bind fun bt371 => ((brindlewoodref4_Seeded.f k bt371.2.1 bt371.2.2.1).bind fun bt382 => ((brindlewoodref4_Random_Draw.f bt382.1 bt382.2).bind fun bt385 => (if t338 = 0 then (if t345 = 0 then (if bt360.2.2.2.2.1 = 0 then (if t336 = 0 then (if t342 = bt385.1 then (if (t343 == bt385.2.1 && (t344 == bt385.2.2)) = true then ((brindlewoodref3_NoInt.f bt360.1 bt360.2.1).bind fun t388 => (if t388 = true then (some (bt360.2.2.1 == t336 && (bt360.2.2.2.1 == t337))) else (none))) else (none)) else (none)) else (none)) else (none)) else (none)) else (none)))))) = some r := H
 have A4 := zM A40
 clear A40
 replace H := zB H
 obtain ⟨⟨t360, t361, t364, t365, t366, t367⟩, A50, H⟩ := H
 replace H : ((brindlewoodlaw4_whole.f k 0).bind fun bt371 => ((brindlewoodref4_Seeded.f k bt371.2.1 bt371.2.2.1).bind fun bt382 => ((brindlewoodref4_Random_Draw.f bt382.1 bt382.2).bind fun bt385 => (if t338 = 0 then (if t345 = 0 then (if t366 = 0 then (if t336 = 0 then (if t342 = bt385.1 then (if (t343 == bt385.2.1 && (t344 == bt385.2.2)) = true then ((brindlewoodref3_NoInt.f t360 t361).bind fun t388 => (if t388 = true then (some (t364 == t336 && (t365 == t337))) else (none))) else (none)) else (none)) else (none)) else (none)) else (none)) else (none))))) = some r := H
 have A5 := zM A50
 clear A50
 replace H := zB H
 obtain ⟨⟨t371, t372, t373, t376, t377, t380, t381⟩, A60, H⟩ := H
 replace H : ((brindlewoodref4_Seeded.f k t372 t373).bind fun bt382 => ((brindlewoodref4_Random_Draw.f bt382.1 bt382.2).bind fun bt385 => (if t338 = 0 then (if t345 = 0 then (if t366 = 0 then (if t336 = 0 then (if t342 = bt385.1 then (if (t343 == bt385.2.1 && (t344 == bt385.2.2)) = true then ((brindlewoodref3_NoInt.f t360 t361).bind fun t388 => (if t388 = true then (some (t364 == t336 && (t365 == t337))) else (none))) else (none)) else (none)) else (none)) else (none)) else (none)) else (none)))) = some r := H
 have A6 := zM A60
 clear A60
 replace H := zB H
 obtain ⟨⟨t382, t383⟩, A70, H⟩ := H
 replace H : ((brindlewoodref4_Random_Draw.f t382 t383).bind fun bt385 => (if t338 = 0 then (if t345 = 0 then (if t366 = 0 then (if t336 = 0 then (if t342 = bt385.1 then (if (t343 == bt385.2.1 && (t344 == bt385.2.2)) = true then ((brindlewoodref3_NoInt.f t360 t361).bind fun t388 => (if t388 = true then (some (t364 == t336 && (t365 == t337))) else (none))) else (none)) else (none)) else (none)) else (none)) else (none)) else (none))) = some r := H
 have A7 := zM A70
 clear A70
 replace H := zB H
 obtain ⟨⟨t385, t386, t387⟩, A80, H⟩ := H
 replace H : (if t338 = 0 then (if t345 = 0 then (if t366 = 0 then (if t336 = 0 then (if t342 = t385 then (if (t343 == t386 && (t344 == t387)) = true then ((brindlewoodref3_NoInt.f t360 t361).bind fun t388 => (if t388 = true then (some (t364 == t336 && (t365 == t337))) else (none))) else (none)) else (none)) else (none)) else (none)) else (none)) else (none)) = some r := H
 have A8 := zM A80
 clear A80
 by_cases c9 : t338 = 0
 ·rw [if_pos c9] at H
  have c9b0 : (t338 == 0) = true := beq_iff_eq.mpr c9
  have c9b1 : (t338 != 0) = false := bne_eq_false_iff_eq.mpr c9
  clear c9
  by_cases c10 : t345 = 0
  ·rw [if_pos c10] at H
   have c10b0 : (t345 == 0) = true := beq_iff_eq.mpr c10
   have c10b1 : (t345 != 0) = false := bne_eq_false_iff_eq.mpr c10
   clear c10
   by_cases c11 : t366 = 0
   ·rw [if_pos c11] at H
    have c11b0 : (t366 == 0) = true := beq_iff_eq.mpr c11
    have c11b1 : (t366 != 0) = false := bne_eq_false_iff_eq.mpr c11
    clear c11
    by_cases c12 : t336 = 0
    ·rw [if_pos c12] at H
     have c12b0 : (t336 == 0) = true := beq_iff_eq.mpr c12
     have c12b1 : (t336 != 0) = false := bne_eq_false_iff_eq.mpr c12
     clear c12
     by_cases c13 : t342 = t385
     ·rw [if_pos c13] at H
      have c13b0 : (t342 == t385) = true := beq_iff_eq.mpr c13
      have c13b1 : (t342 != t385) = false := bne_eq_false_iff_eq.mpr c13
      clear c13
      by_cases c14 : (t343 == t386 && (t344 == t387)) = true
      ·rw [if_pos c14] at H
       have c14b0 : (t343 == t386 && (t344 == t387)) = true := c14
       (try (have c14b1 : decide (t343 = t386 && (t344 == t387)) = true := by simpa using c14))
       (try (have c14b2 : (t343 == t386 && (t344 == t387)) = true := by simpa using c14))
       clear c14
       replace H := zB H
       obtain ⟨t388, A150, H⟩ := H
       replace H : (if t388 = true then (some (t364 == t336 && (t365 == t337))) else (none)) = some r := H
       have A15 := zM A150
       clear A150
       by_cases c16 : t388 = true
       ·subst c16
        have H1 : (some (t364 == t336 && (t365 == t337))) = some r := by rw [if_pos rfl] at H; exact H
        clear H
        have H := H1
        clear H1
        obtain rfl := Option.some.inj H
        go_enter Try.func11, Try.ntmps11
        try go_wp2_with (first | ((with_reducible refine gate_callee (f := 41) rfl ?_); refine goesL_ (some 12) rfl rfl Try.func41 (by kernel_rfl) rfl #[.int .i64 0] rfl (by (try simp only [zT, zC, zN]); first | done | rfl | (simp only [zR, zL]; rfl)) ?_; (with_reducible refine (brindlewoodlaw4_whole.calls k 0 t325 t326 t327 t330 t331 t334 t335 _ A1.out).mono ?_); rintro e w17 ⟨v328, v332, rfl, ho0, ho1, hb⟩; refine ⟨_, rfl, ?_⟩; have HO329 := zM (Kd.R_lower ho0 (below_size (HB.out))); have HO333 := zM (Kd.R_lower ho1 (below_size (HB.out))); replace HB := zM (below_step (HB.out) hb); (try clear hb); (try clear hb2); (try clear hk); (try clear hi); (try clear ho0); (try clear ho1); obtain ⟨Ao18, co18, eo18⟩ := Kd.R_slice HO329.out; subst eo18) | ((with_reducible refine gate_callee (f := 8) rfl ?_); refine goesL_ (some 14) rfl rfl Try.func8 (by kernel_rfl) rfl #[.agg #[.bool t326, .slice Ao18 t327.length co18]] rfl (by (try simp only [zT, zC, zN]); first | done | rfl | (simp only [zR, zL]; rfl)) ?_; (with_reducible refine (random_Seed.calls k t326 _ _ t327 t336 t337 t338 t339 _ ?side1 ?side2 A2.out).mono ?_); (case side1 => repeat (first | exact (Kd.R_reads' HO329.out).2.2 | (with_reducible refine Kd.C_alloc ?_ _) | (with_reducible refine Kd.C_drewN ?_ _) | (with_reducible refine Kd.C_drew ?_))); (case side2 => exact (Kd.R_reads' HO329.out).2.1); rintro e w19 ⟨rfl, hb⟩; refine ⟨_, rfl, ?_⟩; replace HO329 := zM (Kd.R_below HO329.out hb); replace HO333 := zM (Kd.R_below HO333.out hb); replace HB := zM (below_step (HB.out) hb); (try clear hb); (try clear hb2); (try clear hk); (try clear hi)) | ((with_reducible refine gate_dst (N := 1) rfl ?_); refine box_event ?hg (N := 1) ?hd (cs := #[.int .u64 0, .int .u64 0]) (t := 27) ?hr ?_; (case hd => rfl); (case hg => rfl); (case hr => first | (go_simp; done) | (go_simp; rfl)); intro gb340 hg w20 hbox hb; have BK340 := zM (hbox); have GW340 := zM ((by rw [hg]; exact (below_size (HB.out)) : w.heap.size ≤ gb340)); have GE340 := GW340; replace HO329 := zM (Kd.R_below HO329.out hb); replace HO333 := zM (Kd.R_below HO333.out hb); replace HB := zM (below_step (HB.out) hb); clear hb hbox hg) | ((with_reducible refine gate_dst (N := 2) rfl ?_); refine box_event ?hg (N := 2) ?hd (cs := #[.int .i64 0, .int .i64 0]) (t := 29) ?hr ?_; (case hd => rfl); (case hg => rfl); (case hr => first | (go_simp; done) | (go_simp; rfl)); intro gb341 hg w21 hbox hb; have BK341 := zM (hbox); have GW341 := zM ((by rw [hg]; exact (below_size (by repeat (first | (with_reducible first | exact HB.out | apply pzA | apply pzD | apply pz1 | apply pzs | assumption) | exact HB.out))) : w.heap.size ≤ gb341)); have GE341 := GW341; have NB340_341 := pzf BK340 hg; have NB341_340 := pzg BK340 hg; replace HO329 := zM (Kd.R_below HO329.out hb); replace HO333 := zM (Kd.R_below HO333.out hb); replace BK340 := pzb BK340 hb; replace HB := zM (below_step (by repeat (first | (with_reducible first | exact HB.out | apply pzA | apply pzD | apply pz1 | apply pzs | assumption) | exact HB.out)) hb); clear hb hbox hg; have hnb22 := NB340_341.out; have hnc22 := NB341_340.out; have hcz23_0 := pzc (v := .int .u64 0) BK340 0 rfl; have hcz23_1 := pzc (v := .int .u64 0) BK340 1 rfl; have hfz23_0 := zF BK340.out 0; have hfz23_1 := zF BK340.out 1; have hcz24_0 := pzc (v := .int .i64 0) BK341 0 rfl; have hcz24_1 := pzc (v := .int .i64 0) BK341 1 rfl; have hfz24_0 := zF BK341.out 0; have hfz24_1 := zF BK341.out 1) | ((with_reducible refine gate_callee (f := 9) rfl ?_); refine goesL_ (some 19) rfl rfl Try.func9 (by kernel_rfl) rfl #[.agg #[.int .u64 t336, .int .u64 t337]] rfl (by (try simp only [zT, zC, zN]); first | done | rfl | (simp only [zR, zL]; rfl)) ?_; (with_reducible refine (random_Next.calls t336 t337 t342 t343 t344 t345 t346 _ A3.out).mono ?_); rintro e w25 ⟨rfl, hb⟩; refine ⟨_, rfl, ?_⟩; replace HO329 := zM (Kd.R_below (by (with_reducible repeat (first | apply Kd.R_alloc | apply Kd.R_drewN | apply Kd.R_drew)); exact (Kd.R_mono (Kd.R_mono (Kd.R_far (p := ⟨gb341, 1, none⟩) (Kd.R_far (p := ⟨gb341, 0, none⟩) (Kd.R_far (p := ⟨gb340, 1, none⟩) (Kd.R_far (p := ⟨gb340, 0, none⟩) (Kd.R_types (Kd.R_types HO329.out BK340.out (by decide)) BK341.out (by decide)) (fun _ hk => hk.1.2) (.int .u64 t336)) (fun _ hk => hk.1.2) (.int .u64 t337)) (fun _ hk => hk.2) (.int .i64 t338)) (fun _ hk => hk.2) (.int .i64 t339)) (fun _ h_ => h_.1)) (fun _ h_ => h_.1))) hb); replace HO333 := zM (Kd.R_below (by (with_reducible repeat (first | apply Kd.R_alloc | apply Kd.R_drewN | apply Kd.R_drew)); exact (Kd.R_mono (Kd.R_mono (Kd.R_far (p := ⟨gb341, 1, none⟩) (Kd.R_far (p := ⟨gb341, 0, none⟩) (Kd.R_far (p := ⟨gb340, 1, none⟩) (Kd.R_far (p := ⟨gb340, 0, none⟩) (Kd.R_types (Kd.R_types HO333.out BK340.out (by decide)) BK341.out (by decide)) (fun _ hk => hk.1.2) (.int .u64 t336)) (fun _ hk => hk.1.2) (.int .u64 t337)) (fun _ hk => hk.2) (.int .i64 t338)) (fun _ hk => hk.2) (.int .i64 t339)) (fun _ h_ => h_.1)) (fun _ h_ => h_.1))) hb); replace BK340 := zM (blk_below (g := gb340) (o := .cells #[.int .u64 t336, .int .u64 t337] 27 (0, 0)) (by (with_reducible repeat (first | apply pzN | apply pzd | apply pza)); refine blk_far ?_ NB340_341.out _; (with_reducible repeat (first | apply pzN | apply pzd | apply pza)); refine blk_far ?_ NB340_341.out _; (with_reducible repeat (first | apply pzN | apply pzd | apply pza)); refine blk_put (cs := #[.int .u64 t336, .int .u64 0]) ?_ 1 _ rfl; (with_reducible repeat (first | apply pzN | apply pzd | apply pza)); refine blk_put (cs := #[.int .u64 0, .int .u64 0]) ?_ 0 _ rfl; (with_reducible repeat (first | apply pzN | apply pzd | apply pza)); exact BK340.out) hb); replace BK341 := zM (blk_below (g := gb341) (o := .cells #[.int .i64 t338, .int .i64 t339] 29 (0, 0)) (by (with_reducible repeat (first | apply pzN | apply pzd | apply pza)); refine blk_put (cs := #[.int .i64 t338, .int .i64 0]) ?_ 1 _ rfl; (with_reducible repeat (first | apply pzN | apply pzd | apply pza)); refine blk_put (cs := #[.int .i64 0, .int .i64 0]) ?_ 0 _ rfl; (with_reducible repeat (first | apply pzN | apply pzd | apply pza)); refine blk_far ?_ NB341_340.out _; (with_reducible repeat (first | apply pzN | apply pzd | apply pza)); refine blk_far ?_ NB341_340.out _; (with_reducible repeat (first | apply pzN | apply pzd | apply pza)); exact BK341.out) hb); replace HB := zM (below_step (by repeat (first | (with_reducible first | exact HB.out | apply pzA | apply pzD | apply pz1 | apply pzs | assumption) | exact HB.out)) hb); (try clear hb); (try clear hb2); (try clear hk); (try clear hi)) | ((with_reducible refine gate_dst (N := 4) rfl ?_); refine box_event ?hg (N := 4) ?hd (cs := #[.int .u64 0, .int .u64 0]) (t := 27) ?hr ?_; (case hd => rfl); (case hg => rfl); (case hr => first | (go_simp; done) | (go_simp; rfl)); intro gb347 hg w26 hbox hb; have BK347 := zM (hbox); have GW347 := zM ((by rw [hg]; exact (below_size (by repeat (first | (with_reducible first | exact HB.out | apply pzA | apply pzD | apply pz1 | apply pzs | assumption) | exact HB.out))) : w.heap.size ≤ gb347)); have GE347 := GW347; have NB340_347 := pzf BK340 hg; have NB347_340 := pzg BK340 hg; have NB341_347 := pzf BK341 hg; have NB347_341 := pzg BK341 hg; replace HO329 := zM (Kd.R_below HO329.out hb); replace HO333 := zM (Kd.R_below HO333.out hb); replace BK340 := pzb BK340 hb; replace BK341 := pzb BK341 hb; replace HB := zM (below_step (by repeat (first | (with_reducible first | exact HB.out | apply pzA | apply pzD | apply pz1 | apply pzs | assumption) | exact HB.out)) hb); clear hb hbox hg) | ((with_reducible refine gate_dst (N := 5) rfl ?_); refine box_event ?hg (N := 5) ?hd (cs := #[.int .i64 0, .int .i64 0]) (t := 29) ?hr ?_; (case hd => rfl); (case hg => rfl); (case hr => first | (go_simp; done) | (go_simp; rfl)); intro gb348 hg w27 hbox hb; have BK348 := zM (hbox); have GW348 := zM ((by rw [hg]; exact (below_size (by repeat (first | (with_reducible first | exact HB.out | apply pzA | apply pzD | apply pz1 | apply pzs | assumption) | exact HB.out))) : w.heap.size ≤ gb348)); have GE348 := GW348; have NB340_348 := pzf BK340 hg; have NB348_340 := pzg BK340 hg; have NB341_348 := pzf BK341 hg; have NB348_341 := pzg BK341 hg; have NB347_348 := pzf BK347 hg; have NB348_347 := pzg BK347 hg; replace HO329 := zM (Kd.R_below HO329.out hb); replace HO333 := zM (Kd.R_below HO333.out hb); replace BK340 := pzb BK340 hb; replace BK341 := pzb BK341 hb; replace BK347 := pzb BK347 hb; replace HB := zM (below_step (by repeat (first | (with_reducible first | exact HB.out | apply pzA | apply pzD | apply pz1 | apply pzs | assumption) | exact HB.out)) hb); clear hb hbox hg; have hnb28 := NB347_340.out; have hnc28 := NB340_347.out; have hnb29 := NB347_341.out; have hnc29 := NB341_347.out; have hnb30 := NB347_348.out; have hnc30 := NB348_347.out; have hcz31_0 := pzc (v := .int .u64 0) BK347 0 rfl; have hcz31_1 := pzc (v := .int .u64 0) BK347 1 rfl; have hfz31_0 := zF BK347.out 0; have hfz31_1 := zF BK347.out 1; have hnb32 := NB348_340.out; have hnc32 := NB340_348.out; have hnb33 := NB348_341.out; have hnc33 := NB341_348.out; have hcz34_0 := pzc (v := .int .i64 0) BK348 0 rfl; have hcz34_1 := pzc (v := .int .i64 0) BK348 1 rfl; have hfz34_0 := zF BK348.out 0; have hfz34_1 := zF BK348.out 1))
        have n0_ : Aside0 (Kd.R (Kd.int .u32) 76 ((((w27.setCell ⟨gb347, 0, none⟩ (.int .u64 t343)).setCell ⟨gb347, 1, none⟩ (.int .u64 t344)).setCell ⟨gb348, 0, none⟩ (.int .i64 t345)).setCell ⟨gb348, 1, none⟩ (.int .i64 t346)) w.heap.size (fun k_ => some k_ ≠ (v332 : Value).ownBlock) (.slice Ao18 t327.length co18) t327) := ⟨by (with_reducible repeat (first | apply Kd.R_alloc | apply Kd.R_drewN | apply Kd.R_drew)); exact Kd.R_mono (Kd.R_far (p := ⟨gb348, 1, none⟩) (Kd.R_far (p := ⟨gb348, 0, none⟩) (Kd.R_far (p := ⟨gb347, 1, none⟩) (Kd.R_far (p := ⟨gb347, 0, none⟩) (Kd.R_types (Kd.R_types HO329.out BK347.out (by decide)) BK348.out (by decide)) (fun _ hk => hk.1.2) (.int .u64 t343)) (fun _ hk => hk.1.2) (.int .u64 t344)) (fun _ hk => hk.2) (.int .i64 t345)) (fun _ hk => hk.2) (.int .i64 t346)) (fun _ hk => hk.1.1)⟩
        have n1_ : Aside0 (Kd.R (Kd.int .u32) 76 ((((w27.setCell ⟨gb347, 0, none⟩ (.int .u64 t343)).setCell ⟨gb347, 1, none⟩ (.int .u64 t344)).setCell ⟨gb348, 0, none⟩ (.int .i64 t345)).setCell ⟨gb348, 1, none⟩ (.int .i64 t346)) w.heap.size (fun k_ => some k_ ≠ (.slice Ao18 t327.length co18 : Value).ownBlock) v332 t331) := ⟨by (with_reducible repeat (first | apply Kd.R_alloc | apply Kd.R_drewN | apply Kd.R_drew)); exact Kd.R_mono (Kd.R_far (p := ⟨gb348, 1, none⟩) (Kd.R_far (p := ⟨gb348, 0, none⟩) (Kd.R_far (p := ⟨gb347, 1, none⟩) (Kd.R_far (p := ⟨gb347, 0, none⟩) (Kd.R_types (Kd.R_types HO333.out BK347.out (by decide)) BK348.out (by decide)) (fun _ hk => hk.1.2) (.int .u64 t343)) (fun _ hk => hk.1.2) (.int .u64 t344)) (fun _ hk => hk.2) (.int .i64 t345)) (fun _ hk => hk.2) (.int .i64 t346)) (fun _ hk => hk.1.1)⟩
        have n2_ : Aside0 (((((w27.setCell ⟨gb347, 0, none⟩ (.int .u64 t343)).setCell ⟨gb347, 1, none⟩ (.int .u64 t344)).setCell ⟨gb348, 0, none⟩ (.int .i64 t345)).setCell ⟨gb348, 1, none⟩ (.int .i64 t346)).heap[gb340]? = some (.cells #[.int .u64 t336, .int .u64 t337] 27 (0, 0))) := ⟨by (with_reducible repeat (first | apply pzN | apply pzd | apply pza)); refine blk_far ?_ NB340_348.out _; (with_reducible repeat (first | apply pzN | apply pzd | apply pza)); refine blk_far ?_ NB340_348.out _; (with_reducible repeat (first | apply pzN | apply pzd | apply pza)); refine blk_far ?_ NB340_347.out _; (with_reducible repeat (first | apply pzN | apply pzd | apply pza)); refine blk_far ?_ NB340_347.out _; (with_reducible repeat (first | apply pzN | apply pzd | apply pza)); exact BK340.out⟩
        have n3_ : Aside0 (((((w27.setCell ⟨gb347, 0, none⟩ (.int .u64 t343)).setCell ⟨gb347, 1, none⟩ (.int .u64 t344)).setCell ⟨gb348, 0, none⟩ (.int .i64 t345)).setCell ⟨gb348, 1, none⟩ (.int .i64 t346)).heap[gb341]? = some (.cells #[.int .i64 t338, .int .i64 t339] 29 (0, 0))) := ⟨by (with_reducible repeat (first | apply pzN | apply pzd | apply pza)); refine blk_far ?_ NB341_348.out _; (with_reducible repeat (first | apply pzN | apply pzd | apply pza)); refine blk_far ?_ NB341_348.out _; (with_reducible repeat (first | apply pzN | apply pzd | apply pza)); refine blk_far ?_ NB341_347.out _; (with_reducible repeat (first | apply pzN | apply pzd | apply pza)); refine blk_far ?_ NB341_347.out _; (with_reducible repeat (first | apply pzN | apply pzd | apply pza)); exact BK341.out⟩
        have n4_ : Aside0 (((((w27.setCell ⟨gb347, 0, none⟩ (.int .u64 t343)).setCell ⟨gb347, 1, none⟩ (.int .u64 t344)).setCell ⟨gb348, 0, none⟩ (.int .i64 t345)).setCell ⟨gb348, 1, none⟩ (.int .i64 t346)).heap[gb347]? = some (.cells #[.int .u64 t343, .int .u64 t344] 27 (0, 0))) := ⟨by (with_reducible repeat (first | apply pzN | apply pzd | apply pza)); refine blk_far ?_ NB347_348.out _; (with_reducible repeat (first | apply pzN | apply pzd | apply pza)); refine blk_far ?_ NB347_348.out _; (with_reducible repeat (first | apply pzN | apply pzd | apply pza)); refine blk_put (cs := #[.int .u64 t343, .int .u64 0]) ?_ 1 _ rfl; (with_reducible repeat (first | apply pzN | apply pzd | apply pza)); refine blk_put (cs := #[.int .u64 0, .int .u64 0]) ?_ 0 _ rfl; (with_reducible repeat (first | apply pzN | apply pzd | apply pza)); exact BK347.out⟩
        have n5_ : Aside0 (((((w27.setCell ⟨gb347, 0, none⟩ (.int .u64 t343)).setCell ⟨gb347, 1, none⟩ (.int .u64 t344)).setCell ⟨gb348, 0, none⟩ (.int .i64 t345)).setCell ⟨gb348, 1, none⟩ (.int .i64 t346)).heap[gb348]? = some (.cells #[.int .i64 t345, .int .i64 t346] 29 (0, 0))) := ⟨by (with_reducible repeat (first | apply pzN | apply pzd | apply pza)); refine blk_put (cs := #[.int .i64 t345, .int .i64 0]) ?_ 1 _ rfl; (with_reducible repeat (first | apply pzN | apply pzd | apply pza)); refine blk_put (cs := #[.int .i64 0, .int .i64 0]) ?_ 0 _ rfl; (with_reducible repeat (first | apply pzN | apply pzd | apply pza)); refine blk_far ?_ NB348_347.out _; (with_reducible repeat (first | apply pzN | apply pzd | apply pza)); refine blk_far ?_ NB348_347.out _; (with_reducible repeat (first | apply pzN | apply pzd | apply pza)); exact BK348.out⟩
        have n6_ : Aside0 (Below w.heap.size w ((((w27.setCell ⟨gb347, 0, none⟩ (.int .u64 t343)).setCell ⟨gb347, 1, none⟩ (.int .u64 t344)).setCell ⟨gb348, 0, none⟩ (.int .i64 t345)).setCell ⟨gb348, 1, none⟩ (.int .i64 t346))) := ⟨by repeat (first | (with_reducible first | exact HB.out | apply pzA | apply pzD | apply pz1 | apply pzs | assumption) | exact HB.out)⟩
        (try clear HO329)
        (try clear HO333)
        (try clear BK340)
        (try clear BK341)
        (try clear BK347)
        (try clear BK348)
        (try clear HB)
        generalize ((((w27.setCell ⟨gb347, 0, none⟩ (.int .u64 t343)).setCell ⟨gb347, 1, none⟩ (.int .u64 t344)).setCell ⟨gb348, 0, none⟩ (.int .i64 t345)).setCell ⟨gb348, 1, none⟩ (.int .i64 t346)) = w35 at n0_ n1_ n2_ n3_ n4_ n5_ n6_ ⊢
        have HO329 := n0_
        have HO333 := n1_
        have BK340 := n2_
        have BK341 := n3_
        have BK347 := n4_
        have BK348 := n5_
        have HB := n6_
        clear n0_ n1_ n2_ n3_ n4_ n5_ n6_
        replace HO329 := zM (Kd.R_drew HO329.out)
        replace HO333 := zM (Kd.R_drew HO333.out)
        replace BK340 := zM (blk_drew BK340.out)
        replace BK341 := zM (blk_drew BK341.out)
        replace BK347 := zM (blk_drew BK347.out)
        replace BK348 := zM (blk_drew BK348.out)
        replace HB := zM (below_drew1 HB.out)
        refine start_ (n := 14) (S := fun w' => True) (ds := []) #[false, false, false, false, false, false, false, false, false, false, false, false, false, false] (by kernel_rfl) rfl rfl trivial (fun hHeld => ?_); refine with_tabW brindlewoodlaw4_draws.tab3 brindlewoodlaw4_draws.bits3 (fun HT_ HW_ => ?_)
        generalize w35.drew = w36 at HO329 HO333 BK340 BK341 BK347 BK348 HB hHeld ⊢
        refine inv_at [0, 1, 2, 3, 4, 5, 6, 7, 8, 9, 10, 11, 12, 13] (fun a0_ b a w' => ∃ (v352 : Value) (v356 : Value) (v362 : Value) (gb368 : Nat) (gb369 : Nat) (gb370 : Nat) (m1_ : Value) (m2_ : Value) (m3_ : Value) (m4_ : Value) (m5_ : Value) (m8_ : Value) (m9_ : Value) (m10_ : Value), a = putSel a0_ b [(0, 24, .agg #[.int .u64 t336, .int .u64 t337]), (1, 25, m1_), (2, 26, m2_), (3, 27, m3_), (4, 23, m4_), (5, 28, m5_), (6, 29, .agg #[.int .u64 t364, .int .u64 t365]), (7, 30, .agg #[.int .i64 t366, .int .i64 t367]), (8, 6, m8_), (9, 7, m9_), (10, 8, m10_)] ∧ (Kd.R (Kd.int .u32) 76 w' w.heap.size (fun k_ => some k_ ≠ (v332 : Value).ownBlock) (.slice Ao18 t327.length co18) t327) ∧ (Kd.R (Kd.int .u32) 76 w' w.heap.size (fun k_ => some k_ ≠ (.slice Ao18 t327.length co18 : Value).ownBlock) v332 t331) ∧ (w'.heap[gb340]? = some (.cells #[.int .u64 t336, .int .u64 t337] 27 (0, 0))) ∧ (w'.heap[gb341]? = some (.cells #[.int .i64 t338, .int .i64 t339] 29 (0, 0))) ∧ (w'.heap[gb347]? = some (.cells #[.int .u64 t343, .int .u64 t344] 27 (0, 0))) ∧ (w'.heap[gb348]? = some (.cells #[.int .i64 t345, .int .i64 t346] 29 (0, 0))) ∧ (Below w.heap.size w w') ∧ (b 8 = true → b 9 = true → gb369 ≠ gb368) ∧ (b 8 = true → b 9 = true → gb368 ≠ gb369) ∧ (b 8 = true → b 10 = true → gb370 ≠ gb368) ∧ (b 8 = true → b 10 = true → gb368 ≠ gb370) ∧ (b 9 = true → b 10 = true → gb370 ≠ gb369) ∧ (b 9 = true → b 10 = true → gb369 ≠ gb370) ∧ (b 1 = true → Kd.R (Kd.int .u32) 76 w' w.heap.size (fun k_ => some k_ ≠ (.slice Ao18 t327.length co18 : Value).ownBlock ∧ some k_ ≠ (v332 : Value).ownBlock) v352 t351) ∧ (b 1 = true → Kd.R (Kd.int .u32) 76 w' w.heap.size (fun k_ => some k_ ≠ (.slice Ao18 t327.length co18 : Value).ownBlock ∧ some k_ ≠ (v332 : Value).ownBlock) v356 t355) ∧ (b 3 = true → Kd.R (Kd.int .u32) 76 w' w.heap.size (fun k_ => some k_ ≠ (.slice Ao18 t327.length co18 : Value).ownBlock ∧ some k_ ≠ (v332 : Value).ownBlock) v362 t361) ∧ (b 8 = true → b 11 = false → w'.heap[gb368]? = some (.cells #[.bool false, .slice none 0 0] 24 (0, 0))) ∧ (b 8 = true → w.heap.size ≤ gb368) ∧ (b 8 = true → w.heap.size ≤ gb368) ∧ (b 8 = true → gb340 ≠ gb368) ∧ (b 8 = true → gb368 ≠ gb340) ∧ (b 8 = true → gb341 ≠ gb368) ∧ (b 8 = true → gb368 ≠ gb341) ∧ (b 8 = true → gb347 ≠ gb368) ∧ (b 8 = true → gb368 ≠ gb347) ∧ (b 8 = true → gb348 ≠ gb368) ∧ (b 8 = true → gb368 ≠ gb348) ∧ (b 9 = true → b 12 = false → w'.heap[gb369]? = some (.cells #[.int .u64 0, .int .u64 0] 27 (0, 0))) ∧ (b 9 = true → w.heap.size ≤ gb369) ∧ (b 9 = true → w.heap.size ≤ gb369) ∧ (b 9 = true → gb340 ≠ gb369) ∧ (b 9 = true → gb369 ≠ gb340) ∧ (b 9 = true → gb341 ≠ gb369) ∧ (b 9 = true → gb369 ≠ gb341) ∧ (b 9 = true → gb347 ≠ gb369) ∧ (b 9 = true → gb369 ≠ gb347) ∧ (b 9 = true → gb348 ≠ gb369) ∧ (b 9 = true → gb369 ≠ gb348) ∧ (b 10 = true → b 13 = false → w'.heap[gb370]? = some (.cells #[.int .i64 0, .int .i64 0] 29 (0, 0))) ∧ (b 10 = true → w.heap.size ≤ gb370) ∧ (b 10 = true → w.heap.size ≤ gb370) ∧ (b 10 = true → gb340 ≠ gb370) ∧ (b 10 = true → gb370 ≠ gb340) ∧ (b 10 = true → gb341 ≠ gb370) ∧ (b 10 = true → gb370 ≠ gb341) ∧ (b 10 = true → gb347 ≠ gb370) ∧ (b 10 = true → gb370 ≠ gb347) ∧ (b 10 = true → gb348 ≠ gb370) ∧ (b 10 = true → gb370 ≠ gb348) ∧ (b 11 = true → w'.heap[gb368]? = some (.cells #[.bool t360, v362] 24 (0, 0))) ∧ (b 12 = true → w'.heap[gb369]? = some (.cells #[.int .u64 t364, .int .u64 t365] 27 (0, 0))) ∧ (b 13 = true → w'.heap[gb370]? = some (.cells #[.int .i64 t366, .int .i64 t367] 29 (0, 0))) ∧ (b 1 = true → (m1_ : Value) = .agg #[.int .i64 t349, .bool t350, v352, .bool t354, v356, .string t358, .int .i64 t359]) ∧ (b 2 = true → (m2_ : Value) = .agg #[.bool t350, v352]) ∧ (b 3 = true → (m3_ : Value) = .tuple #[.agg #[.bool t360, v362], .agg #[.int .u64 t364, .int .u64 t365], .agg #[.int .i64 t366, .int .i64 t367]]) ∧ (b 4 = true → (m4_ : Value) = .tuple #[.agg #[.bool t360, v362], .agg #[.int .u64 t364, .int .u64 t365], .agg #[.int .i64 t366, .int .i64 t367]]) ∧ (b 5 = true → (m5_ : Value) = .agg #[.bool t360, v362]) ∧ (b 8 = true → (m8_ : Value) = .pointer (some ⟨gb368, 0, none⟩)) ∧ (b 9 = true → (m9_ : Value) = .pointer (some ⟨gb369, 0, none⟩)) ∧ (b 10 = true → (m10_ : Value) = .pointer (some ⟨gb370, 0, none⟩))) HT_.out HW_.out (by kernel_rfl) (by kernel_rfl) ?_ ?_ ?_
        ·exact ⟨.bool false, .bool false, .bool false, 0, 0, 0, .bool false, .bool false, .bool false, .bool false, .bool false, .bool false, .bool false, .bool false, by simp only [putSel, Bool.false_eq_true, if_false], HO329.out, HO333.out, BK340.out, BK341.out, BK347.out, BK348.out, HB.out, fun h_ => absurd h_ (by decide), fun h_ => absurd h_ (by decide), fun h_ => absurd h_ (by decide), fun h_ => absurd h_ (by decide), fun h_ => absurd h_ (by decide), fun h_ => absurd h_ (by decide), fun h_ => absurd h_ (by decide), fun h_ => absurd h_ (by decide), fun h_ => absurd h_ (by decide), fun h_ => absurd h_ (by decide), fun h_ => absurd h_ (by decide), fun h_ => absurd h_ (by decide), fun h_ => absurd h_ (by decide), fun h_ => absurd h_ (by decide), fun h_ => absurd h_ (by decide), fun h_ => absurd h_ (by decide), fun h_ => absurd h_ (by decide), fun h_ => absurd h_ (by decide), fun h_ => absurd h_ (by decide), fun h_ => absurd h_ (by decide), fun h_ => absurd h_ (by decide), fun h_ => absurd h_ (by decide), fun h_ => absurd h_ (by decide), fun h_ => absurd h_ (by decide), fun h_ => absurd h_ (by decide), fun h_ => absurd h_ (by decide), fun h_ => absurd h_ (by decide), fun h_ => absurd h_ (by decide), fun h_ => absurd h_ (by decide), fun h_ => absurd h_ (by decide), fun h_ => absurd h_ (by decide), fun h_ => absurd h_ (by decide), fun h_ => absurd h_ (by decide), fun h_ => absurd h_ (by decide), fun h_ => absurd h_ (by decide), fun h_ => absurd h_ (by decide), fun h_ => absurd h_ (by decide), fun h_ => absurd h_ (by decide), fun h_ => absurd h_ (by decide), fun h_ => absurd h_ (by decide), fun h_ => absurd h_ (by decide), fun h_ => absurd h_ (by decide), fun h_ => absurd h_ (by decide), fun h_ => absurd h_ (by decide), fun h_ => absurd h_ (by decide), fun h_ => absurd h_ (by decide), fun h_ => absurd h_ (by decide), fun h_ => absurd h_ (by decide), fun h_ => absurd h_ (by decide), fun h_ => absurd h_ (by decide), fun h_ => absurd h_ (by decide), fun h_ => absurd h_ (by decide), fun h_ => absurd h_ (by decide)⟩
        ·skip
         clear BK340 BK341 BK347 BK348 HB HO329 HO333
         refine steps_cons ?_ ?_
         ·rintro b a w' ⟨v352, v356, v362, gb368, gb369, gb370, m1_, m2_, m3_, m4_, m5_, m8_, m9_, m10_, ha, Q_HO329, Q_HO333, Q_BK340, Q_BK341, Q_BK347, Q_BK348, Q_HB, Q_NB369_368, Q_NB368_369, Q_NB370_368, Q_NB368_370, Q_NB370_369, Q_NB369_370, Q_HO353, Q_HO357, Q_HO363, Q_BK368, Q_GW368, Q_GE368, Q_NB340_368, Q_NB368_340, Q_NB341_368, Q_NB368_341, Q_NB347_368, Q_NB368_347, Q_NB348_368, Q_NB368_348, Q_BK369, Q_GW369, Q_GE369, Q_NB340_369, Q_NB369_340, Q_NB341_369, Q_NB369_341, Q_NB347_369, Q_NB369_347, Q_NB348_369, Q_NB369_348, Q_BK370, Q_GW370, Q_GE370, Q_NB340_370, Q_NB370_340, Q_NB341_370, Q_NB370_341, Q_NB347_370, Q_NB370_347, Q_NB348_370, Q_NB370_348, Q_BK368_e11, Q_BK369_e12, Q_BK370_e13, Q_X1_, Q_X2_, Q_X3_, Q_X4_, Q_X5_, Q_X8_, Q_X9_, Q_X10_⟩ hb_ hon hoff
          refine ⟨_, rfl, fun K hK => ?_⟩
          have e1 : a.tmps[1]? = some (.pointer (some ⟨gb340, 0, none⟩)) := by rw [ha]; exact (putSel_off rfl).trans rfl
          replace ha := zM ha
          have HO329 := zM Q_HO329
          have HO333 := zM Q_HO333
          have BK340 := zM Q_BK340
          have BK341 := zM Q_BK341
          have BK347 := zM Q_BK347
          have BK348 := zM Q_BK348
          have HB := zM Q_HB
          have hc0_ : w'.cell? ⟨gb340, 0, none⟩ = some (.int .u64 t336) := (blk_cell BK340.out 0).trans rfl
          have hc1_ : w'.cell? ⟨gb340, 1, none⟩ = some (.int .u64 t337) := (blk_cell BK340.out 1).trans rfl
          refine value_ (w1 := w') (v := .agg #[.int .u64 t336, .int .u64 t337]) (by rfl) rfl ?_ ?_
          ·go_simp
           (try simp only [i64_w])
           try rfl
          refine hK.out _ _ ⟨v352, v356, v362, gb368, gb369, gb370, m1_, m2_, m3_, m4_, m5_, m8_, m9_, m10_, (by rw [ha.out]; exact putSel_upk 0 hb_ rfl rfl rfl), Q_HO329, Q_HO333, Q_BK340, Q_BK341, Q_BK347, Q_BK348, Q_HB, Q_NB369_368, Q_NB368_369, Q_NB370_368, Q_NB368_370, Q_NB370_369, Q_NB369_370, Q_HO353, Q_HO357, fun h0_ => absurd ((hoff 3 (by kernel_rfl)).symm.trans h0_) (by decide), Q_BK368, Q_GW368, Q_GE368, Q_NB340_368, Q_NB368_340, Q_NB341_368, Q_NB368_341, Q_NB347_368, Q_NB368_347, Q_NB348_368, Q_NB368_348, Q_BK369, Q_GW369, Q_GE369, Q_NB340_369, Q_NB369_340, Q_NB341_369, Q_NB369_341, Q_NB347_369, Q_NB369_347, Q_NB348_369, Q_NB369_348, Q_BK370, Q_GW370, Q_GE370, Q_NB340_370, Q_NB370_340, Q_NB341_370, Q_NB370_341, Q_NB347_370, Q_NB370_347, Q_NB348_370, Q_NB370_348, fun h0_ => absurd ((hoff 11 (by kernel_rfl)).symm.trans h0_) (by decide), fun h0_ => absurd ((hoff 12 (by kernel_rfl)).symm.trans h0_) (by decide), fun h0_ => absurd ((hoff 13 (by kernel_rfl)).symm.trans h0_) (by decide), Q_X1_, Q_X2_, fun h0_ => absurd ((hoff 3 (by kernel_rfl)).symm.trans h0_) (by decide), fun h0_ => absurd ((hoff 4 (by kernel_rfl)).symm.trans h0_) (by decide), fun h0_ => absurd ((hoff 5 (by kernel_rfl)).symm.trans h0_) (by decide), Q_X8_, Q_X9_, Q_X10_⟩
         refine steps_cons ?_ ?_
         ·rintro b a w' ⟨v352, v356, v362, gb368, gb369, gb370, m1_, m2_, m3_, m4_, m5_, m8_, m9_, m10_, ha, Q_HO329, Q_HO333, Q_BK340, Q_BK341, Q_BK347, Q_BK348, Q_HB, Q_NB369_368, Q_NB368_369, Q_NB370_368, Q_NB368_370, Q_NB370_369, Q_NB369_370, Q_HO353, Q_HO357, Q_HO363, Q_BK368, Q_GW368, Q_GE368, Q_NB340_368, Q_NB368_340, Q_NB341_368, Q_NB368_341, Q_NB347_368, Q_NB368_347, Q_NB348_368, Q_NB368_348, Q_BK369, Q_GW369, Q_GE369, Q_NB340_369, Q_NB369_340, Q_NB341_369, Q_NB369_341, Q_NB347_369, Q_NB369_347, Q_NB348_369, Q_NB369_348, Q_BK370, Q_GW370, Q_GE370, Q_NB340_370, Q_NB370_340, Q_NB341_370, Q_NB370_341, Q_NB347_370, Q_NB370_347, Q_NB348_370, Q_NB370_348, Q_BK368_e11, Q_BK369_e12, Q_BK370_e13, Q_X1_, Q_X2_, Q_X3_, Q_X4_, Q_X5_, Q_X8_, Q_X9_, Q_X10_⟩ hb_ hon hoff
          refine ⟨_, rfl, fun K hK => ?_⟩
          replace ha := zM ha
          have HO329 := zM Q_HO329
          have HO333 := zM Q_HO333
          have BK340 := zM Q_BK340
          have BK341 := zM Q_BK341
          have BK347 := zM Q_BK347
          have BK348 := zM Q_BK348
          have HB := zM Q_HB
          refine goes_ Try.func41 (by kernel_rfl) rfl #[.int .i64 1] (by rfl) rfl rfl (by first | (simp only [zT, zC, zN, Act.eval, Array.getD_eq_getD_getElem?, Option.getD_some]; done) | (simp only [zT, zC, zN, Act.eval, Array.getD_eq_getD_getElem?, Option.getD_some]; rfl)) ?_
          with_reducible refine (brindlewoodlaw4_whole.calls k 1 t349 t350 t351 t354 t355 t358 t359 _ A4.out).mono ?_
          rintro e w37 ⟨v352, v356, rfl, ho0, ho1, hb⟩
          refine ⟨_, rfl, ?_⟩
          have n0_ := zM (Kd.R_mono (Kd.R_told (Kd.R_told (Kd.R_old HO329.out hb) (Kd.R_base ho0)) (Kd.R_base ho1)) (fun _ h_ => h_.1))
          have n1_ := zM (Kd.R_mono (Kd.R_told (Kd.R_told (Kd.R_old HO333.out hb) (Kd.R_base ho0)) (Kd.R_base ho1)) (fun _ h_ => h_.1))
          have n2_ := zM (Kd.R_lower (Kd.R_new' (Kd.R_new' ho0 (Kd.R_lt HO329.out)) (Kd.R_lt HO333.out)) (below_size (by repeat (first | (with_reducible first | exact HB.out | apply pzA | apply pzD | apply pz1 | apply pzs | assumption) | exact HB.out))))
          have n3_ := zM (Kd.R_lower (Kd.R_new' (Kd.R_new' ho1 (Kd.R_lt HO329.out)) (Kd.R_lt HO333.out)) (below_size (by repeat (first | (with_reducible first | exact HB.out | apply pzA | apply pzD | apply pz1 | apply pzs | assumption) | exact HB.out))))
          have n4_ := pzb BK340 hb
          have n5_ := pzb BK341 hb
          have n6_ := pzb BK347 hb
          have n7_ := pzb BK348 hb
          have n8_ := zM (below_step (by repeat (first | (with_reducible first | exact HB.out | apply pzA | apply pzD | apply pz1 | apply pzs | assumption) | exact HB.out)) hb)
          have z_BK368 := fun (h0_ : b 8 = true) (h1_ : b 11 = false) => (show w37.heap[gb368]? = some (.cells #[.bool false, .slice none 0 0] 24 (0, 0)) from by first | exact (blk_below (g := gb368) (o := .cells #[.bool false, .slice none 0 0] 24 (0, 0)) (by (with_reducible repeat (first | apply pzN | apply pzd | apply pza)); exact (Q_BK368 h0_ h1_)) hb))
          have z_BK369 := fun (h0_ : b 9 = true) (h1_ : b 12 = false) => (show w37.heap[gb369]? = some (.cells #[.int .u64 0, .int .u64 0] 27 (0, 0)) from by first | exact (blk_below (g := gb369) (o := .cells #[.int .u64 0, .int .u64 0] 27 (0, 0)) (by (with_reducible repeat (first | apply pzN | apply pzd | apply pza)); exact (Q_BK369 h0_ h1_)) hb))
          have z_BK370 := fun (h0_ : b 10 = true) (h1_ : b 13 = false) => (show w37.heap[gb370]? = some (.cells #[.int .i64 0, .int .i64 0] 29 (0, 0)) from by first | exact (blk_below (g := gb370) (o := .cells #[.int .i64 0, .int .i64 0] 29 (0, 0)) (by (with_reducible repeat (first | apply pzN | apply pzd | apply pza)); exact (Q_BK370 h0_ h1_)) hb))
          clear HO329
          clear HO333
          clear BK340
          clear BK341
          clear BK347
          clear BK348
          clear HB
          have HO329 := n0_
          have HO333 := n1_
          have HO353 := n2_
          have HO357 := n3_
          have BK340 := n4_
          have BK341 := n5_
          have BK347 := n6_
          have BK348 := n7_
          have HB := n8_
          clear n0_ n1_ n2_ n3_ n4_ n5_ n6_ n7_ n8_
          (try clear hb)
          (try clear hb2)
          (try clear hk)
          (try clear hi)
          (try clear ho0)
          (try clear ho1)
          refine hK.out _ _ ⟨v352, v356, v362, gb368, gb369, gb370, (.agg #[.int .i64 t349, .bool t350, v352, .bool t354, v356, .string t358, .int .i64 t359]), m2_, m3_, m4_, m5_, m8_, m9_, m10_, (by rw [ha.out]; exact putSel_upk 1 hb_ rfl rfl rfl), (by (with_reducible repeat (first | apply Kd.R_alloc | apply Kd.R_drewN | apply Kd.R_drew)); exact Kd.R_mono HO329.out (fun _ hk => by first | exact ⟨hk.1.1, ⟨hk.1.2, hk.2⟩⟩ | exact hk | simp only [ne_eq, hk, not_false_eq_true, and_self])), (by (with_reducible repeat (first | apply Kd.R_alloc | apply Kd.R_drewN | apply Kd.R_drew)); exact Kd.R_mono HO333.out (fun _ hk => by first | exact ⟨hk.1.1, ⟨hk.1.2, hk.2⟩⟩ | exact hk | simp only [ne_eq, hk, not_false_eq_true, and_self])), BK340.out, BK341.out, BK347.out, BK348.out, (by repeat (first | (with_reducible first | exact HB.out | apply pzA | apply pzD | apply pz1 | apply pzs | assumption) | exact HB.out)), Q_NB369_368, Q_NB368_369, Q_NB370_368, Q_NB368_370, Q_NB370_369, Q_NB369_370, fun _ => (by (with_reducible repeat (first | apply Kd.R_alloc | apply Kd.R_drewN | apply Kd.R_drew)); exact Kd.R_mono HO353.out (fun _ hk => by first | exact ⟨hk.1.2, ⟨hk.2, hk.1.1⟩⟩ | exact hk | simp only [ne_eq, hk, not_false_eq_true, and_self])), fun _ => (by (with_reducible repeat (first | apply Kd.R_alloc | apply Kd.R_drewN | apply Kd.R_drew)); exact Kd.R_mono HO357.out (fun _ hk => by first | exact ⟨hk.1.2, ⟨hk.2, hk.1.1⟩⟩ | exact hk | simp only [ne_eq, hk, not_false_eq_true, and_self])), fun h0_ => absurd ((hoff 3 (by kernel_rfl)).symm.trans h0_) (by decide), z_BK368, Q_GW368, Q_GE368, Q_NB340_368, Q_NB368_340, Q_NB341_368, Q_NB368_341, Q_NB347_368, Q_NB368_347, Q_NB348_368, Q_NB368_348, z_BK369, Q_GW369, Q_GE369, Q_NB340_369, Q_NB369_340, Q_NB341_369, Q_NB369_341, Q_NB347_369, Q_NB369_347, Q_NB348_369, Q_NB369_348, z_BK370, Q_GW370, Q_GE370, Q_NB340_370, Q_NB370_340, Q_NB341_370, Q_NB370_341, Q_NB347_370, Q_NB370_347, Q_NB348_370, Q_NB370_348, fun h0_ => absurd ((hoff 11 (by kernel_rfl)).symm.trans h0_) (by decide), fun h0_ => absurd ((hoff 12 (by kernel_rfl)).symm.trans h0_) (by decide), fun h0_ => absurd ((hoff 13 (by kernel_rfl)).symm.trans h0_) (by decide), fun _ => rfl, fun h0_ => absurd ((hoff 2 (by kernel_rfl)).symm.trans h0_) (by decide), fun h0_ => absurd ((hoff 3 (by kernel_rfl)).symm.trans h0_) (by decide), fun h0_ => absurd ((hoff 4 (by kernel_rfl)).symm.trans h0_) (by decide), fun h0_ => absurd ((hoff 5 (by kernel_rfl)).symm.trans h0_) (by decide), Q_X8_, Q_X9_, Q_X10_⟩
         refine steps_cons ?_ ?_
         ·rintro b a w' ⟨v352, v356, v362, gb368, gb369, gb370, m1_, m2_, m3_, m4_, m5_, m8_, m9_, m10_, ha, Q_HO329, Q_HO333, Q_BK340, Q_BK341, Q_BK347, Q_BK348, Q_HB, Q_NB369_368, Q_NB368_369, Q_NB370_368, Q_NB368_370, Q_NB370_369, Q_NB369_370, Q_HO353, Q_HO357, Q_HO363, Q_BK368, Q_GW368, Q_GE368, Q_NB340_368, Q_NB368_340, Q_NB341_368, Q_NB368_341, Q_NB347_368, Q_NB368_347, Q_NB348_368, Q_NB368_348, Q_BK369, Q_GW369, Q_GE369, Q_NB340_369, Q_NB369_340, Q_NB341_369, Q_NB369_341, Q_NB347_369, Q_NB369_347, Q_NB348_369, Q_NB369_348, Q_BK370, Q_GW370, Q_GE370, Q_NB340_370, Q_NB370_340, Q_NB341_370, Q_NB370_341, Q_NB347_370, Q_NB370_347, Q_NB348_370, Q_NB370_348, Q_BK368_e11, Q_BK369_e12, Q_BK370_e13, Q_X1_, Q_X2_, Q_X3_, Q_X4_, Q_X5_, Q_X8_, Q_X9_, Q_X10_⟩ hb_ hon hoff
          refine ⟨_, rfl, fun K hK => ?_⟩
          have e25 : a.tmps[25]? = some (m1_) := by rw [ha]; exact putSel_on (e := (1, 25, m1_)) 1 rfl rfl (hon 1 (by kernel_rfl)) rfl
          rw [Q_X1_ (hon 1 (by kernel_rfl))] at e25
          replace ha := zM ha
          have HO329 := zM Q_HO329
          have HO333 := zM Q_HO333
          have BK340 := zM Q_BK340
          have BK341 := zM Q_BK341
          have BK347 := zM Q_BK347
          have BK348 := zM Q_BK348
          have HB := zM Q_HB
          have HO353 := zM (Q_HO353 (hon 1 (by kernel_rfl)))
          have HO357 := zM (Q_HO357 (hon 1 (by kernel_rfl)))
          obtain ⟨Ao2_0, co2_0, eo_⟩ := Kd.R_slice HO353.out
          subst eo_
          obtain ⟨Ao2_1, co2_1, eo_⟩ := Kd.R_slice HO357.out
          subst eo_
          refine value_ (w1 := w') (v := .agg #[.bool t350, .slice Ao2_0 t351.length co2_0]) (by rfl) rfl ?_ ?_
          ·go_simp
           (try simp only [i64_w])
           try rfl
          refine hK.out _ _ ⟨.slice Ao2_0 t351.length co2_0, .slice Ao2_1 t355.length co2_1, v362, gb368, gb369, gb370, m1_, (.agg #[.bool t350, .slice Ao2_0 t351.length co2_0]), m3_, m4_, m5_, m8_, m9_, m10_, (by rw [ha.out]; exact putSel_upk 2 hb_ rfl rfl rfl), Q_HO329, Q_HO333, Q_BK340, Q_BK341, Q_BK347, Q_BK348, Q_HB, Q_NB369_368, Q_NB368_369, Q_NB370_368, Q_NB368_370, Q_NB370_369, Q_NB369_370, Q_HO353, Q_HO357, fun h0_ => absurd ((hoff 3 (by kernel_rfl)).symm.trans h0_) (by decide), Q_BK368, Q_GW368, Q_GE368, Q_NB340_368, Q_NB368_340, Q_NB341_368, Q_NB368_341, Q_NB347_368, Q_NB368_347, Q_NB348_368, Q_NB368_348, Q_BK369, Q_GW369, Q_GE369, Q_NB340_369, Q_NB369_340, Q_NB341_369, Q_NB369_341, Q_NB347_369, Q_NB369_347, Q_NB348_369, Q_NB369_348, Q_BK370, Q_GW370, Q_GE370, Q_NB340_370, Q_NB370_340, Q_NB341_370, Q_NB370_341, Q_NB347_370, Q_NB370_347, Q_NB348_370, Q_NB370_348, fun h0_ => absurd ((hoff 11 (by kernel_rfl)).symm.trans h0_) (by decide), fun h0_ => absurd ((hoff 12 (by kernel_rfl)).symm.trans h0_) (by decide), fun h0_ => absurd ((hoff 13 (by kernel_rfl)).symm.trans h0_) (by decide), Q_X1_, fun _ => rfl, fun h0_ => absurd ((hoff 3 (by kernel_rfl)).symm.trans h0_) (by decide), fun h0_ => absurd ((hoff 4 (by kernel_rfl)).symm.trans h0_) (by decide), fun h0_ => absurd ((hoff 5 (by kernel_rfl)).symm.trans h0_) (by decide), Q_X8_, Q_X9_, Q_X10_⟩
         refine steps_cons ?_ ?_
         ·rintro b a w' ⟨v352, v356, v362, gb368, gb369, gb370, m1_, m2_, m3_, m4_, m5_, m8_, m9_, m10_, ha, Q_HO329, Q_HO333, Q_BK340, Q_BK341, Q_BK347, Q_BK348, Q_HB, Q_NB369_368, Q_NB368_369, Q_NB370_368, Q_NB368_370, Q_NB370_369, Q_NB369_370, Q_HO353, Q_HO357, Q_HO363, Q_BK368, Q_GW368, Q_GE368, Q_NB340_368, Q_NB368_340, Q_NB341_368, Q_NB368_341, Q_NB347_368, Q_NB368_347, Q_NB348_368, Q_NB368_348, Q_BK369, Q_GW369, Q_GE369, Q_NB340_369, Q_NB369_340, Q_NB341_369, Q_NB369_341, Q_NB347_369, Q_NB369_347, Q_NB348_369, Q_NB369_348, Q_BK370, Q_GW370, Q_GE370, Q_NB340_370, Q_NB370_340, Q_NB341_370, Q_NB370_341, Q_NB347_370, Q_NB370_347, Q_NB348_370, Q_NB370_348, Q_BK368_e11, Q_BK369_e12, Q_BK370_e13, Q_X1_, Q_X2_, Q_X3_, Q_X4_, Q_X5_, Q_X8_, Q_X9_, Q_X10_⟩ hb_ hon hoff
          refine ⟨_, rfl, fun K hK => ?_⟩
          have e24 : a.tmps[24]? = some (.agg #[.int .u64 t336, .int .u64 t337]) := by rw [ha]; exact putSel_on (e := (0, 24, .agg #[.int .u64 t336, .int .u64 t337])) 0 rfl rfl (hon 0 (by kernel_rfl)) rfl
          have e26 : a.tmps[26]? = some (m2_) := by rw [ha]; exact putSel_on (e := (2, 26, m2_)) 2 rfl rfl (hon 2 (by kernel_rfl)) rfl
          rw [Q_X2_ (hon 2 (by kernel_rfl))] at e26
          replace ha := zM ha
          have HO329 := zM Q_HO329
          have HO333 := zM Q_HO333
          have BK340 := zM Q_BK340
          have BK341 := zM Q_BK341
          have BK347 := zM Q_BK347
          have BK348 := zM Q_BK348
          have HB := zM Q_HB
          have HO353 := zM (Q_HO353 (hon 1 (by kernel_rfl)))
          have HO357 := zM (Q_HO357 (hon 1 (by kernel_rfl)))
          obtain ⟨Ao39, co39, eo39⟩ := Kd.R_slice HO353.out
          (first | subst eo39 | (injection eo39 with f1_ f2_ f3_; have f4_ := f1_.symm; have f5_ := f3_.symm; clear f1_ f2_ f3_; subst f4_; subst f5_))
          refine goes_ Try.func16 (by kernel_rfl) rfl #[.agg #[.int .u64 t336, .int .u64 t337], .agg #[.bool t350, .slice Ao39 t351.length co39]] (by rfl) rfl rfl (by first | (simp only [zT, zC, zN, Act.eval, Array.getD_eq_getD_getElem?, Option.getD_some, e24, e26]; done) | (simp only [zT, zC, zN, Act.eval, Array.getD_eq_getD_getElem?, Option.getD_some, e24, e26]; rfl)) ?_
          with_reducible refine (random_Below.calls k t336 t337 t350 _ _ t351 t360 t361 t364 t365 t366 t367 _ ?side1 ?side2 A5.out).mono ?_
          (case side1 => repeat (first | exact (Kd.R_reads' HO353.out).2.2 | (with_reducible refine Kd.C_alloc ?_ _) | (with_reducible refine Kd.C_drewN ?_ _) | (with_reducible refine Kd.C_drew ?_)))
          (case side2 => exact (Kd.R_reads' HO353.out).2.1)
          rintro e w40 ⟨v362, rfl, ho0, hb⟩
          refine ⟨_, rfl, ?_⟩
          have n0_ := zM (Kd.R_elder' HO329.out (Kd.R_base ho0) hb)
          have n1_ := zM (Kd.R_elder' HO333.out (Kd.R_base ho0) hb)
          have n2_ := zM (Kd.R_elder' HO353.out (Kd.R_base ho0) hb)
          have n3_ := zM (Kd.R_elder' HO357.out (Kd.R_base ho0) hb)
          have n4_ := zM (Kd.R_lower (Kd.R_new' (Kd.R_new' (Kd.R_new' (Kd.R_new' ho0 (Kd.R_lt HO329.out)) (Kd.R_lt HO333.out)) (Kd.R_lt HO353.out)) (Kd.R_lt HO357.out)) (below_size (by repeat (first | (with_reducible first | exact HB.out | apply pzA | apply pzD | apply pz1 | apply pzs | assumption) | exact HB.out))))
          have n5_ := pzb BK340 hb
          have n6_ := pzb BK341 hb
          have n7_ := pzb BK347 hb
          have n8_ := pzb BK348 hb
          have n9_ := zM (below_step (by repeat (first | (with_reducible first | exact HB.out | apply pzA | apply pzD | apply pz1 | apply pzs | assumption) | exact HB.out)) hb)
          have z_BK368 := fun (h0_ : b 8 = true) (h1_ : b 11 = false) => (show w40.heap[gb368]? = some (.cells #[.bool false, .slice none 0 0] 24 (0, 0)) from by first | exact (blk_below (g := gb368) (o := .cells #[.bool false, .slice none 0 0] 24 (0, 0)) (by (with_reducible repeat (first | apply pzN | apply pzd | apply pza)); exact (Q_BK368 h0_ h1_)) hb))
          have z_BK369 := fun (h0_ : b 9 = true) (h1_ : b 12 = false) => (show w40.heap[gb369]? = some (.cells #[.int .u64 0, .int .u64 0] 27 (0, 0)) from by first | exact (blk_below (g := gb369) (o := .cells #[.int .u64 0, .int .u64 0] 27 (0, 0)) (by (with_reducible repeat (first | apply pzN | apply pzd | apply pza)); exact (Q_BK369 h0_ h1_)) hb))
          have z_BK370 := fun (h0_ : b 10 = true) (h1_ : b 13 = false) => (show w40.heap[gb370]? = some (.cells #[.int .i64 0, .int .i64 0] 29 (0, 0)) from by first | exact (blk_below (g := gb370) (o := .cells #[.int .i64 0, .int .i64 0] 29 (0, 0)) (by (with_reducible repeat (first | apply pzN | apply pzd | apply pza)); exact (Q_BK370 h0_ h1_)) hb))
          clear HO329
          clear HO333
          clear HO353
          clear HO357
          clear BK340
          clear BK341
          clear BK347
          clear BK348
          clear HB
          have HO329 := n0_
          have HO333 := n1_
          have HO353 := n2_
          have HO357 := n3_
          have HO363 := n4_
          have BK340 := n5_
          have BK341 := n6_
          have BK347 := n7_
          have BK348 := n8_
          have HB := n9_
          clear n0_ n1_ n2_ n3_ n4_ n5_ n6_ n7_ n8_ n9_
          (try clear hb)
          (try clear hb2)
          (try clear hk)
          (try clear hi)
          (try clear ho0)
          refine hK.out _ _ ⟨.slice Ao39 t351.length co39, v356, v362, gb368, gb369, gb370, m1_, m2_, (.tuple #[.agg #[.bool t360, v362], .agg #[.int .u64 t364, .int .u64 t365], .agg #[.int .i64 t366, .int .i64 t367]]), m4_, m5_, m8_, m9_, m10_, (by rw [ha.out]; exact putSel_upk 3 hb_ rfl rfl rfl), (by (with_reducible repeat (first | apply Kd.R_alloc | apply Kd.R_drewN | apply Kd.R_drew)); exact Kd.R_mono HO329.out (fun _ hk => by first | exact ⟨hk.1.1, ⟨hk.1.2.1, ⟨hk.1.2.2, hk.2⟩⟩⟩ | exact hk | simp only [ne_eq, hk, not_false_eq_true, and_self])), (by (with_reducible repeat (first | apply Kd.R_alloc | apply Kd.R_drewN | apply Kd.R_drew)); exact Kd.R_mono HO333.out (fun _ hk => by first | exact ⟨hk.1.1, ⟨hk.1.2.1, ⟨hk.1.2.2, hk.2⟩⟩⟩ | exact hk | simp only [ne_eq, hk, not_false_eq_true, and_self])), BK340.out, BK341.out, BK347.out, BK348.out, (by repeat (first | (with_reducible first | exact HB.out | apply pzA | apply pzD | apply pz1 | apply pzs | assumption) | exact HB.out)), Q_NB369_368, Q_NB368_369, Q_NB370_368, Q_NB368_370, Q_NB370_369, Q_NB369_370, fun _ => (by (with_reducible repeat (first | apply Kd.R_alloc | apply Kd.R_drewN | apply Kd.R_drew)); exact Kd.R_mono HO353.out (fun _ hk => by first | exact ⟨hk.1.1, ⟨hk.1.2.1, ⟨hk.1.2.2, hk.2⟩⟩⟩ | exact hk | simp only [ne_eq, hk, not_false_eq_true, and_self])), fun _ => (by (with_reducible repeat (first | apply Kd.R_alloc | apply Kd.R_drewN | apply Kd.R_drew)); exact Kd.R_mono HO357.out (fun _ hk => by first | exact ⟨hk.1.1, ⟨hk.1.2.1, ⟨hk.1.2.2, hk.2⟩⟩⟩ | exact hk | simp only [ne_eq, hk, not_false_eq_true, and_self])), fun _ => (by (with_reducible repeat (first | apply Kd.R_alloc | apply Kd.R_drewN | apply Kd.R_drew)); exact Kd.R_mono HO363.out (fun _ hk => by first | exact ⟨hk.1.1.1.2, ⟨hk.1.1.2, ⟨hk.1.2, hk.2⟩⟩⟩ | exact hk | simp only [ne_eq, hk, not_false_eq_true, and_self])), z_BK368, Q_GW368, Q_GE368, Q_NB340_368, Q_NB368_340, Q_NB341_368, Q_NB368_341, Q_NB347_368, Q_NB368_347, Q_NB348_368, Q_NB368_348, z_BK369, Q_GW369, Q_GE369, Q_NB340_369, Q_NB369_340, Q_NB341_369, Q_NB369_341, Q_NB347_369, Q_NB369_347, Q_NB348_369, Q_NB369_348, z_BK370, Q_GW370, Q_GE370, Q_NB340_370, Q_NB370_340, Q_NB341_370, Q_NB370_341, Q_NB347_370, Q_NB370_347, Q_NB348_370, Q_NB370_348, fun h0_ => absurd ((hoff 11 (by kernel_rfl)).symm.trans h0_) (by decide), fun h0_ => absurd ((hoff 12 (by kernel_rfl)).symm.trans h0_) (by decide), fun h0_ => absurd ((hoff 13 (by kernel_rfl)).symm.trans h0_) (by decide), Q_X1_, Q_X2_, fun _ => rfl, fun h0_ => absurd ((hoff 4 (by kernel_rfl)).symm.trans h0_) (by decide), fun h0_ => absurd ((hoff 5 (by kernel_rfl)).symm.trans h0_) (by decide), Q_X8_, Q_X9_, Q_X10_⟩
         refine steps_cons ?_ ?_
         ·rintro b a w' ⟨v352, v356, v362, gb368, gb369, gb370, m1_, m2_, m3_, m4_, m5_, m8_, m9_, m10_, ha, Q_HO329, Q_HO333, Q_BK340, Q_BK341, Q_BK347, Q_BK348, Q_HB, Q_NB369_368, Q_NB368_369, Q_NB370_368, Q_NB368_370, Q_NB370_369, Q_NB369_370, Q_HO353, Q_HO357, Q_HO363, Q_BK368, Q_GW368, Q_GE368, Q_NB340_368, Q_NB368_340, Q_NB341_368, Q_NB368_341, Q_NB347_368, Q_NB368_347, Q_NB348_368, Q_NB368_348, Q_BK369, Q_GW369, Q_GE369, Q_NB340_369, Q_NB369_340, Q_NB341_369, Q_NB369_341, Q_NB347_369, Q_NB369_347, Q_NB348_369, Q_NB369_348, Q_BK370, Q_GW370, Q_GE370, Q_NB340_370, Q_NB370_340, Q_NB341_370, Q_NB370_341, Q_NB347_370, Q_NB370_347, Q_NB348_370, Q_NB370_348, Q_BK368_e11, Q_BK369_e12, Q_BK370_e13, Q_X1_, Q_X2_, Q_X3_, Q_X4_, Q_X5_, Q_X8_, Q_X9_, Q_X10_⟩ hb_ hon hoff
          refine ⟨_, rfl, fun K hK => ?_⟩
          have e27 : a.tmps[27]? = some (m3_) := by rw [ha]; exact putSel_on (e := (3, 27, m3_)) 3 rfl rfl (hon 3 (by kernel_rfl)) rfl
          rw [Q_X3_ (hon 3 (by kernel_rfl))] at e27
          replace ha := zM ha
          have HO329 := zM Q_HO329
          have HO333 := zM Q_HO333
          have BK340 := zM Q_BK340
          have BK341 := zM Q_BK341
          have BK347 := zM Q_BK347
          have BK348 := zM Q_BK348
          have HB := zM Q_HB
          have HO353 := zM (Q_HO353 (hon 1 (by kernel_rfl)))
          have HO357 := zM (Q_HO357 (hon 1 (by kernel_rfl)))
          have HO363 := zM (Q_HO363 (hon 3 (by kernel_rfl)))
          refine value_ (w1 := w') (v := .tuple #[.agg #[.bool t360, v362], .agg #[.int .u64 t364, .int .u64 t365], .agg #[.int .i64 t366, .int .i64 t367]]) (by rfl) rfl ?_ ?_
          ·go_simp
           (try simp only [i64_w])
           try rfl
          refine hK.out _ _ ⟨v352, v356, v362, gb368, gb369, gb370, m1_, m2_, m3_, (.tuple #[.agg #[.bool t360, v362], .agg #[.int .u64 t364, .int .u64 t365], .agg #[.int .i64 t366, .int .i64 t367]]), m5_, m8_, m9_, m10_, (by rw [ha.out]; exact putSel_upk 4 hb_ rfl rfl rfl), Q_HO329, Q_HO333, Q_BK340, Q_BK341, Q_BK347, Q_BK348, Q_HB, Q_NB369_368, Q_NB368_369, Q_NB370_368, Q_NB368_370, Q_NB370_369, Q_NB369_370, Q_HO353, Q_HO357, Q_HO363, Q_BK368, Q_GW368, Q_GE368, Q_NB340_368, Q_NB368_340, Q_NB341_368, Q_NB368_341, Q_NB347_368, Q_NB368_347, Q_NB348_368, Q_NB368_348, Q_BK369, Q_GW369, Q_GE369, Q_NB340_369, Q_NB369_340, Q_NB341_369, Q_NB369_341, Q_NB347_369, Q_NB369_347, Q_NB348_369, Q_NB369_348, Q_BK370, Q_GW370, Q_GE370, Q_NB340_370, Q_NB370_340, Q_NB341_370, Q_NB370_341, Q_NB347_370, Q_NB370_347, Q_NB348_370, Q_NB370_348, fun h0_ => absurd ((hoff 11 (by kernel_rfl)).symm.trans h0_) (by decide), fun h0_ => absurd ((hoff 12 (by kernel_rfl)).symm.trans h0_) (by decide), fun h0_ => absurd ((hoff 13 (by kernel_rfl)).symm.trans h0_) (by decide), Q_X1_, Q_X2_, Q_X3_, fun _ => rfl, fun h0_ => absurd ((hoff 5 (by kernel_rfl)).symm.trans h0_) (by decide), Q_X8_, Q_X9_, Q_X10_⟩
         refine steps_cons ?_ ?_
         ·rintro b a w' ⟨v352, v356, v362, gb368, gb369, gb370, m1_, m2_, m3_, m4_, m5_, m8_, m9_, m10_, ha, Q_HO329, Q_HO333, Q_BK340, Q_BK341, Q_BK347, Q_BK348, Q_HB, Q_NB369_368, Q_NB368_369, Q_NB370_368, Q_NB368_370, Q_NB370_369, Q_NB369_370, Q_HO353, Q_HO357, Q_HO363, Q_BK368, Q_GW368, Q_GE368, Q_NB340_368, Q_NB368_340, Q_NB341_368, Q_NB368_341, Q_NB347_368, Q_NB368_347, Q_NB348_368, Q_NB368_348, Q_BK369, Q_GW369, Q_GE369, Q_NB340_369, Q_NB369_340, Q_NB341_369, Q_NB369_341, Q_NB347_369, Q_NB369_347, Q_NB348_369, Q_NB369_348, Q_BK370, Q_GW370, Q_GE370, Q_NB340_370, Q_NB370_340, Q_NB341_370, Q_NB370_341, Q_NB347_370, Q_NB370_347, Q_NB348_370, Q_NB370_348, Q_BK368_e11, Q_BK369_e12, Q_BK370_e13, Q_X1_, Q_X2_, Q_X3_, Q_X4_, Q_X5_, Q_X8_, Q_X9_, Q_X10_⟩ hb_ hon hoff
          refine ⟨_, rfl, fun K hK => ?_⟩
          have e23 : a.tmps[23]? = some (m4_) := by rw [ha]; exact putSel_on (e := (4, 23, m4_)) 4 rfl rfl (hon 4 (by kernel_rfl)) rfl
          rw [Q_X4_ (hon 4 (by kernel_rfl))] at e23
          replace ha := zM ha
          have HO329 := zM Q_HO329
          have HO333 := zM Q_HO333
          have BK340 := zM Q_BK340
          have BK341 := zM Q_BK341
          have BK347 := zM Q_BK347
          have BK348 := zM Q_BK348
          have HB := zM Q_HB
          have HO353 := zM (Q_HO353 (hon 1 (by kernel_rfl)))
          have HO357 := zM (Q_HO357 (hon 1 (by kernel_rfl)))
          have HO363 := zM (Q_HO363 (hon 3 (by kernel_rfl)))
          refine value_ (w1 := w') (v := .agg #[.bool t360, v362]) (by rfl) rfl ?_ ?_
          ·go_simp
           (try simp only [i64_w])
           try rfl
          refine hK.out _ _ ⟨v352, v356, v362, gb368, gb369, gb370, m1_, m2_, m3_, m4_, (.agg #[.bool t360, v362]), m8_, m9_, m10_, (by rw [ha.out]; exact putSel_upk 5 hb_ rfl rfl rfl), Q_HO329, Q_HO333, Q_BK340, Q_BK341, Q_BK347, Q_BK348, Q_HB, Q_NB369_368, Q_NB368_369, Q_NB370_368, Q_NB368_370, Q_NB370_369, Q_NB369_370, Q_HO353, Q_HO357, Q_HO363, Q_BK368, Q_GW368, Q_GE368, Q_NB340_368, Q_NB368_340, Q_NB341_368, Q_NB368_341, Q_NB347_368, Q_NB368_347, Q_NB348_368, Q_NB368_348, Q_BK369, Q_GW369, Q_GE369, Q_NB340_369, Q_NB369_340, Q_NB341_369, Q_NB369_341, Q_NB347_369, Q_NB369_347, Q_NB348_369, Q_NB369_348, Q_BK370, Q_GW370, Q_GE370, Q_NB340_370, Q_NB370_340, Q_NB341_370, Q_NB370_341, Q_NB347_370, Q_NB370_347, Q_NB348_370, Q_NB370_348, fun h0_ => absurd ((hoff 11 (by kernel_rfl)).symm.trans h0_) (by decide), fun h0_ => absurd ((hoff 12 (by kernel_rfl)).symm.trans h0_) (by decide), fun h0_ => absurd ((hoff 13 (by kernel_rfl)).symm.trans h0_) (by decide), Q_X1_, Q_X2_, Q_X3_, Q_X4_, fun _ => rfl, Q_X8_, Q_X9_, Q_X10_⟩
         refine steps_cons ?_ ?_
         ·rintro b a w' ⟨v352, v356, v362, gb368, gb369, gb370, m1_, m2_, m3_, m4_, m5_, m8_, m9_, m10_, ha, Q_HO329, Q_HO333, Q_BK340, Q_BK341, Q_BK347, Q_BK348, Q_HB, Q_NB369_368, Q_NB368_369, Q_NB370_368, Q_NB368_370, Q_NB370_369, Q_NB369_370, Q_HO353, Q_HO357, Q_HO363, Q_BK368, Q_GW368, Q_GE368, Q_NB340_368, Q_NB368_340, Q_NB341_368, Q_NB368_341, Q_NB347_368, Q_NB368_347, Q_NB348_368, Q_NB368_348, Q_BK369, Q_GW369, Q_GE369, Q_NB340_369, Q_NB369_340, Q_NB341_369, Q_NB369_341, Q_NB347_369, Q_NB369_347, Q_NB348_369, Q_NB369_348, Q_BK370, Q_GW370, Q_GE370, Q_NB340_370, Q_NB370_340, Q_NB341_370, Q_NB370_341, Q_NB347_370, Q_NB370_347, Q_NB348_370, Q_NB370_348, Q_BK368_e11, Q_BK369_e12, Q_BK370_e13, Q_X1_, Q_X2_, Q_X3_, Q_X4_, Q_X5_, Q_X8_, Q_X9_, Q_X10_⟩ hb_ hon hoff
          refine ⟨_, rfl, fun K hK => ?_⟩
          have e23 : a.tmps[23]? = some (m4_) := by rw [ha]; exact putSel_on (e := (4, 23, m4_)) 4 rfl rfl (hon 4 (by kernel_rfl)) rfl
          rw [Q_X4_ (hon 4 (by kernel_rfl))] at e23
          replace ha := zM ha
          have HO329 := zM Q_HO329
          have HO333 := zM Q_HO333
          have BK340 := zM Q_BK340
          have BK341 := zM Q_BK341
          have BK347 := zM Q_BK347
          have BK348 := zM Q_BK348
          have HB := zM Q_HB
          have HO353 := zM (Q_HO353 (hon 1 (by kernel_rfl)))
          have HO357 := zM (Q_HO357 (hon 1 (by kernel_rfl)))
          have HO363 := zM (Q_HO363 (hon 3 (by kernel_rfl)))
          refine value_ (w1 := w') (v := .agg #[.int .u64 t364, .int .u64 t365]) (by rfl) rfl ?_ ?_
          ·go_simp
           (try simp only [i64_w])
           try rfl
          refine hK.out _ _ ⟨v352, v356, v362, gb368, gb369, gb370, m1_, m2_, m3_, m4_, m5_, m8_, m9_, m10_, (by rw [ha.out]; exact putSel_upk 6 hb_ rfl rfl rfl), Q_HO329, Q_HO333, Q_BK340, Q_BK341, Q_BK347, Q_BK348, Q_HB, Q_NB369_368, Q_NB368_369, Q_NB370_368, Q_NB368_370, Q_NB370_369, Q_NB369_370, Q_HO353, Q_HO357, Q_HO363, Q_BK368, Q_GW368, Q_GE368, Q_NB340_368, Q_NB368_340, Q_NB341_368, Q_NB368_341, Q_NB347_368, Q_NB368_347, Q_NB348_368, Q_NB368_348, Q_BK369, Q_GW369, Q_GE369, Q_NB340_369, Q_NB369_340, Q_NB341_369, Q_NB369_341, Q_NB347_369, Q_NB369_347, Q_NB348_369, Q_NB369_348, Q_BK370, Q_GW370, Q_GE370, Q_NB340_370, Q_NB370_340, Q_NB341_370, Q_NB370_341, Q_NB347_370, Q_NB370_347, Q_NB348_370, Q_NB370_348, Q_BK368_e11, fun h0_ => absurd ((hoff 12 (by kernel_rfl)).symm.trans h0_) (by decide), fun h0_ => absurd ((hoff 13 (by kernel_rfl)).symm.trans h0_) (by decide), Q_X1_, Q_X2_, Q_X3_, Q_X4_, Q_X5_, Q_X8_, Q_X9_, Q_X10_⟩
         refine steps_cons ?_ ?_
         ·rintro b a w' ⟨v352, v356, v362, gb368, gb369, gb370, m1_, m2_, m3_, m4_, m5_, m8_, m9_, m10_, ha, Q_HO329, Q_HO333, Q_BK340, Q_BK341, Q_BK347, Q_BK348, Q_HB, Q_NB369_368, Q_NB368_369, Q_NB370_368, Q_NB368_370, Q_NB370_369, Q_NB369_370, Q_HO353, Q_HO357, Q_HO363, Q_BK368, Q_GW368, Q_GE368, Q_NB340_368, Q_NB368_340, Q_NB341_368, Q_NB368_341, Q_NB347_368, Q_NB368_347, Q_NB348_368, Q_NB368_348, Q_BK369, Q_GW369, Q_GE369, Q_NB340_369, Q_NB369_340, Q_NB341_369, Q_NB369_341, Q_NB347_369, Q_NB369_347, Q_NB348_369, Q_NB369_348, Q_BK370, Q_GW370, Q_GE370, Q_NB340_370, Q_NB370_340, Q_NB341_370, Q_NB370_341, Q_NB347_370, Q_NB370_347, Q_NB348_370, Q_NB370_348, Q_BK368_e11, Q_BK369_e12, Q_BK370_e13, Q_X1_, Q_X2_, Q_X3_, Q_X4_, Q_X5_, Q_X8_, Q_X9_, Q_X10_⟩ hb_ hon hoff
          refine ⟨_, rfl, fun K hK => ?_⟩
          have e23 : a.tmps[23]? = some (m4_) := by rw [ha]; exact putSel_on (e := (4, 23, m4_)) 4 rfl rfl (hon 4 (by kernel_rfl)) rfl
          rw [Q_X4_ (hon 4 (by kernel_rfl))] at e23
          replace ha := zM ha
          have HO329 := zM Q_HO329
          have HO333 := zM Q_HO333
          have BK340 := zM Q_BK340
          have BK341 := zM Q_BK341
          have BK347 := zM Q_BK347
          have BK348 := zM Q_BK348
          have HB := zM Q_HB
          have HO353 := zM (Q_HO353 (hon 1 (by kernel_rfl)))
          have HO357 := zM (Q_HO357 (hon 1 (by kernel_rfl)))
          have HO363 := zM (Q_HO363 (hon 3 (by kernel_rfl)))
          refine value_ (w1 := w') (v := .agg #[.int .i64 t366, .int .i64 t367]) (by rfl) rfl ?_ ?_
          ·go_simp
           (try simp only [i64_w])
           try rfl
          refine hK.out _ _ ⟨v352, v356, v362, gb368, gb369, gb370, m1_, m2_, m3_, m4_, m5_, m8_, m9_, m10_, (by rw [ha.out]; exact putSel_upk 7 hb_ rfl rfl rfl), Q_HO329, Q_HO333, Q_BK340, Q_BK341, Q_BK347, Q_BK348, Q_HB, Q_NB369_368, Q_NB368_369, Q_NB370_368, Q_NB368_370, Q_NB370_369, Q_NB369_370, Q_HO353, Q_HO357, Q_HO363, Q_BK368, Q_GW368, Q_GE368, Q_NB340_368, Q_NB368_340, Q_NB341_368, Q_NB368_341, Q_NB347_368, Q_NB368_347, Q_NB348_368, Q_NB368_348, Q_BK369, Q_GW369, Q_GE369, Q_NB340_369, Q_NB369_340, Q_NB341_369, Q_NB369_341, Q_NB347_369, Q_NB369_347, Q_NB348_369, Q_NB369_348, Q_BK370, Q_GW370, Q_GE370, Q_NB340_370, Q_NB370_340, Q_NB341_370, Q_NB370_341, Q_NB347_370, Q_NB370_347, Q_NB348_370, Q_NB370_348, Q_BK368_e11, Q_BK369_e12, fun h0_ => absurd ((hoff 13 (by kernel_rfl)).symm.trans h0_) (by decide), Q_X1_, Q_X2_, Q_X3_, Q_X4_, Q_X5_, Q_X8_, Q_X9_, Q_X10_⟩
         refine steps_cons ?_ ?_
         ·rintro b a w' ⟨v352, v356, v362, gb368, gb369, gb370, m1_, m2_, m3_, m4_, m5_, m8_, m9_, m10_, ha, Q_HO329, Q_HO333, Q_BK340, Q_BK341, Q_BK347, Q_BK348, Q_HB, Q_NB369_368, Q_NB368_369, Q_NB370_368, Q_NB368_370, Q_NB370_369, Q_NB369_370, Q_HO353, Q_HO357, Q_HO363, Q_BK368, Q_GW368, Q_GE368, Q_NB340_368, Q_NB368_340, Q_NB341_368, Q_NB368_341, Q_NB347_368, Q_NB368_347, Q_NB348_368, Q_NB368_348, Q_BK369, Q_GW369, Q_GE369, Q_NB340_369, Q_NB369_340, Q_NB341_369, Q_NB369_341, Q_NB347_369, Q_NB369_347, Q_NB348_369, Q_NB369_348, Q_BK370, Q_GW370, Q_GE370, Q_NB340_370, Q_NB370_340, Q_NB341_370, Q_NB370_341, Q_NB347_370, Q_NB370_347, Q_NB348_370, Q_NB370_348, Q_BK368_e11, Q_BK369_e12, Q_BK370_e13, Q_X1_, Q_X2_, Q_X3_, Q_X4_, Q_X5_, Q_X8_, Q_X9_, Q_X10_⟩ hb_ hon hoff
          refine ⟨_, rfl, fun K hK => ?_⟩
          replace ha := zM ha
          have HO329 := zM Q_HO329
          have HO333 := zM Q_HO333
          have BK340 := zM Q_BK340
          have BK341 := zM Q_BK341
          have BK347 := zM Q_BK347
          have BK348 := zM Q_BK348
          have HB := zM Q_HB
          refine box_step ?hg (N := 6) ?hd (cs := #[.bool false, .slice none 0 0]) (t := 24) ?hr ?_; (case hd => rfl); (case hg => rfl); (case hr => first | (go_simp; done) | (go_simp; rfl))
          intro gb368 hg w37 hbox hb
          have n0_ := zM (Kd.R_below HO329.out hb)
          have n1_ := zM (Kd.R_below HO333.out hb)
          have n2_ := pzb BK340 hb
          have n3_ := pzb BK341 hb
          have n4_ := pzb BK347 hb
          have n5_ := pzb BK348 hb
          have n6_ := zM (below_step (by repeat (first | (with_reducible first | exact HB.out | apply pzA | apply pzD | apply pz1 | apply pzs | assumption) | exact HB.out)) hb)
          have n7_ := zM (hbox)
          have n8_ := zM ((by rw [hg]; exact (below_size (by repeat (first | (with_reducible first | exact HB.out | apply pzA | apply pzD | apply pz1 | apply pzs | assumption) | exact HB.out))) : w.heap.size ≤ gb368))
          have n9_ := zM ((by rw [hg]; exact (below_size (by repeat (first | (with_reducible first | exact HB.out | apply pzA | apply pzD | apply pz1 | apply pzs | assumption) | exact HB.out))) : w.heap.size ≤ gb368))
          have n10_ := zM ((by rw [hg]; exact Nat.ne_of_lt (blk_lt (g := gb340) (o := .cells #[.int .u64 t336, .int .u64 t337] 27 (0, 0)) BK340.out) : gb340 ≠ gb368))
          have n11_ := zM ((by rw [hg]; exact Nat.ne_of_gt (blk_lt (g := gb340) (o := .cells #[.int .u64 t336, .int .u64 t337] 27 (0, 0)) BK340.out) : gb368 ≠ gb340))
          have n12_ := zM ((by rw [hg]; exact Nat.ne_of_lt (blk_lt (g := gb341) (o := .cells #[.int .i64 t338, .int .i64 t339] 29 (0, 0)) BK341.out) : gb341 ≠ gb368))
          have n13_ := zM ((by rw [hg]; exact Nat.ne_of_gt (blk_lt (g := gb341) (o := .cells #[.int .i64 t338, .int .i64 t339] 29 (0, 0)) BK341.out) : gb368 ≠ gb341))
          have n14_ := zM ((by rw [hg]; exact Nat.ne_of_lt (blk_lt (g := gb347) (o := .cells #[.int .u64 t343, .int .u64 t344] 27 (0, 0)) BK347.out) : gb347 ≠ gb368))
          have n15_ := zM ((by rw [hg]; exact Nat.ne_of_gt (blk_lt (g := gb347) (o := .cells #[.int .u64 t343, .int .u64 t344] 27 (0, 0)) BK347.out) : gb368 ≠ gb347))
          have n16_ := zM ((by rw [hg]; exact Nat.ne_of_lt (blk_lt (g := gb348) (o := .cells #[.int .i64 t345, .int .i64 t346] 29 (0, 0)) BK348.out) : gb348 ≠ gb368))
          have n17_ := zM ((by rw [hg]; exact Nat.ne_of_gt (blk_lt (g := gb348) (o := .cells #[.int .i64 t345, .int .i64 t346] 29 (0, 0)) BK348.out) : gb368 ≠ gb348))
          have z_NB369_368 := fun (h0_ : up b 8 8 = true) (h1_ : up b 8 9 = true) => (show gb369 ≠ gb368 from ((by rw [hg]; exact Nat.ne_of_lt (blk_lt (g := gb369) (o := .cells #[.int .u64 0, .int .u64 0] 27 (0, 0)) (by (with_reducible repeat (first | apply pzN | apply pzd | apply pza)); exact (Q_BK369 h1_ (hoff 12 (by kernel_rfl))))) : gb369 ≠ gb368)))
          have z_NB368_369 := fun (h0_ : up b 8 8 = true) (h1_ : up b 8 9 = true) => (show gb368 ≠ gb369 from ((by rw [hg]; exact Nat.ne_of_gt (blk_lt (g := gb369) (o := .cells #[.int .u64 0, .int .u64 0] 27 (0, 0)) (by (with_reducible repeat (first | apply pzN | apply pzd | apply pza)); exact (Q_BK369 h1_ (hoff 12 (by kernel_rfl))))) : gb368 ≠ gb369)))
          have z_NB370_368 := fun (h0_ : up b 8 8 = true) (h1_ : up b 8 10 = true) => (show gb370 ≠ gb368 from ((by rw [hg]; exact Nat.ne_of_lt (blk_lt (g := gb370) (o := .cells #[.int .i64 0, .int .i64 0] 29 (0, 0)) (by (with_reducible repeat (first | apply pzN | apply pzd | apply pza)); exact (Q_BK370 h1_ (hoff 13 (by kernel_rfl))))) : gb370 ≠ gb368)))
          have z_NB368_370 := fun (h0_ : up b 8 8 = true) (h1_ : up b 8 10 = true) => (show gb368 ≠ gb370 from ((by rw [hg]; exact Nat.ne_of_gt (blk_lt (g := gb370) (o := .cells #[.int .i64 0, .int .i64 0] 29 (0, 0)) (by (with_reducible repeat (first | apply pzN | apply pzd | apply pza)); exact (Q_BK370 h1_ (hoff 13 (by kernel_rfl))))) : gb368 ≠ gb370)))
          have z_HO353 := fun (h0_ : b 1 = true) => (show Kd.R (Kd.int .u32) 76 w37 w.heap.size (fun k_ => some k_ ≠ (.slice Ao18 t327.length co18 : Value).ownBlock ∧ some k_ ≠ (v332 : Value).ownBlock) v352 t351 from by first | exact (Kd.R_below (by (with_reducible repeat (first | apply Kd.R_alloc | apply Kd.R_drewN | apply Kd.R_drew)); exact (Q_HO353 h0_)) hb) | exact Kd.R_mono (Kd.R_below (by (with_reducible repeat (first | apply Kd.R_alloc | apply Kd.R_drewN | apply Kd.R_drew)); exact (Q_HO353 h0_)) hb) (fun _ h_ => by first | trivial | exact h_ | exact h_.1))
          have z_HO357 := fun (h0_ : b 1 = true) => (show Kd.R (Kd.int .u32) 76 w37 w.heap.size (fun k_ => some k_ ≠ (.slice Ao18 t327.length co18 : Value).ownBlock ∧ some k_ ≠ (v332 : Value).ownBlock) v356 t355 from by first | exact (Kd.R_below (by (with_reducible repeat (first | apply Kd.R_alloc | apply Kd.R_drewN | apply Kd.R_drew)); exact (Q_HO357 h0_)) hb) | exact Kd.R_mono (Kd.R_below (by (with_reducible repeat (first | apply Kd.R_alloc | apply Kd.R_drewN | apply Kd.R_drew)); exact (Q_HO357 h0_)) hb) (fun _ h_ => by first | trivial | exact h_ | exact h_.1))
          have z_HO363 := fun (h0_ : b 3 = true) => (show Kd.R (Kd.int .u32) 76 w37 w.heap.size (fun k_ => some k_ ≠ (.slice Ao18 t327.length co18 : Value).ownBlock ∧ some k_ ≠ (v332 : Value).ownBlock) v362 t361 from by first | exact (Kd.R_below (by (with_reducible repeat (first | apply Kd.R_alloc | apply Kd.R_drewN | apply Kd.R_drew)); exact (Q_HO363 h0_)) hb) | exact Kd.R_mono (Kd.R_below (by (with_reducible repeat (first | apply Kd.R_alloc | apply Kd.R_drewN | apply Kd.R_drew)); exact (Q_HO363 h0_)) hb) (fun _ h_ => by first | trivial | exact h_ | exact h_.1))
          have z_BK369 := fun (h0_ : b 9 = true) (h1_ : b 12 = false) => (show w37.heap[gb369]? = some (.cells #[.int .u64 0, .int .u64 0] 27 (0, 0)) from by first | exact (blk_below (g := gb369) (o := .cells #[.int .u64 0, .int .u64 0] 27 (0, 0)) (by (with_reducible repeat (first | apply pzN | apply pzd | apply pza)); exact (Q_BK369 h0_ h1_)) hb))
          have z_BK370 := fun (h0_ : b 10 = true) (h1_ : b 13 = false) => (show w37.heap[gb370]? = some (.cells #[.int .i64 0, .int .i64 0] 29 (0, 0)) from by first | exact (blk_below (g := gb370) (o := .cells #[.int .i64 0, .int .i64 0] 29 (0, 0)) (by (with_reducible repeat (first | apply pzN | apply pzd | apply pza)); exact (Q_BK370 h0_ h1_)) hb))
          clear HO329
          clear HO333
          clear BK340
          clear BK341
          clear BK347
          clear BK348
          clear HB
          have HO329 := n0_
          have HO333 := n1_
          have BK340 := n2_
          have BK341 := n3_
          have BK347 := n4_
          have BK348 := n5_
          have HB := n6_
          have BK368 := n7_
          have GW368 := n8_
          have GE368 := n9_
          have NB340_368 := n10_
          have NB368_340 := n11_
          have NB341_368 := n12_
          have NB368_341 := n13_
          have NB347_368 := n14_
          have NB368_347 := n15_
          have NB348_368 := n16_
          have NB368_348 := n17_
          clear n0_ n1_ n2_ n3_ n4_ n5_ n6_ n7_ n8_ n9_ n10_ n11_ n12_ n13_ n14_ n15_ n16_ n17_
          clear hb hbox hg
          refine hK.out _ _ ⟨v352, v356, v362, gb368, gb369, gb370, m1_, m2_, m3_, m4_, m5_, (.pointer (some ⟨gb368, 0, none⟩)), m9_, m10_, (by rw [ha.out]; exact putSel_upk 8 hb_ rfl rfl rfl), HO329.out, HO333.out, BK340.out, BK341.out, BK347.out, BK348.out, (by repeat (first | (with_reducible first | exact HB.out | apply pzA | apply pzD | apply pz1 | apply pzs | assumption) | exact HB.out)), z_NB369_368, z_NB368_369, z_NB370_368, z_NB368_370, Q_NB370_369, Q_NB369_370, z_HO353, z_HO357, z_HO363, fun _ _ => BK368.out, fun _ => GW368.out, fun _ => GE368.out, fun _ => NB340_368.out, fun _ => NB368_340.out, fun _ => NB341_368.out, fun _ => NB368_341.out, fun _ => NB347_368.out, fun _ => NB368_347.out, fun _ => NB348_368.out, fun _ => NB368_348.out, z_BK369, Q_GW369, Q_GE369, Q_NB340_369, Q_NB369_340, Q_NB341_369, Q_NB369_341, Q_NB347_369, Q_NB369_347, Q_NB348_369, Q_NB369_348, z_BK370, Q_GW370, Q_GE370, Q_NB340_370, Q_NB370_340, Q_NB341_370, Q_NB370_341, Q_NB347_370, Q_NB370_347, Q_NB348_370, Q_NB370_348, fun h0_ => absurd ((hoff 11 (by kernel_rfl)).symm.trans h0_) (by decide), fun h0_ => absurd ((hoff 12 (by kernel_rfl)).symm.trans h0_) (by decide), fun h0_ => absurd ((hoff 13 (by kernel_rfl)).symm.trans h0_) (by decide), Q_X1_, Q_X2_, Q_X3_, Q_X4_, Q_X5_, fun _ => rfl, Q_X9_, Q_X10_⟩
         refine steps_cons ?_ ?_
         ·rintro b a w' ⟨v352, v356, v362, gb368, gb369, gb370, m1_, m2_, m3_, m4_, m5_, m8_, m9_, m10_, ha, Q_HO329, Q_HO333, Q_BK340, Q_BK341, Q_BK347, Q_BK348, Q_HB, Q_NB369_368, Q_NB368_369, Q_NB370_368, Q_NB368_370, Q_NB370_369, Q_NB369_370, Q_HO353, Q_HO357, Q_HO363, Q_BK368, Q_GW368, Q_GE368, Q_NB340_368, Q_NB368_340, Q_NB341_368, Q_NB368_341, Q_NB347_368, Q_NB368_347, Q_NB348_368, Q_NB368_348, Q_BK369, Q_GW369, Q_GE369, Q_NB340_369, Q_NB369_340, Q_NB341_369, Q_NB369_341, Q_NB347_369, Q_NB369_347, Q_NB348_369, Q_NB369_348, Q_BK370, Q_GW370, Q_GE370, Q_NB340_370, Q_NB370_340, Q_NB341_370, Q_NB370_341, Q_NB347_370, Q_NB370_347, Q_NB348_370, Q_NB370_348, Q_BK368_e11, Q_BK369_e12, Q_BK370_e13, Q_X1_, Q_X2_, Q_X3_, Q_X4_, Q_X5_, Q_X8_, Q_X9_, Q_X10_⟩ hb_ hon hoff
          refine ⟨_, rfl, fun K hK => ?_⟩
          replace ha := zM ha
          have HO329 := zM Q_HO329
          have HO333 := zM Q_HO333
          have BK340 := zM Q_BK340
          have BK341 := zM Q_BK341
          have BK347 := zM Q_BK347
          have BK348 := zM Q_BK348
          have HB := zM Q_HB
          refine box_step ?hg (N := 7) ?hd (cs := #[.int .u64 0, .int .u64 0]) (t := 27) ?hr ?_; (case hd => rfl); (case hg => rfl); (case hr => first | (go_simp; done) | (go_simp; rfl))
          intro gb369 hg w37 hbox hb
          have n0_ := zM (Kd.R_below HO329.out hb)
          have n1_ := zM (Kd.R_below HO333.out hb)
          have n2_ := pzb BK340 hb
          have n3_ := pzb BK341 hb
          have n4_ := pzb BK347 hb
          have n5_ := pzb BK348 hb
          have n6_ := zM (below_step (by repeat (first | (with_reducible first | exact HB.out | apply pzA | apply pzD | apply pz1 | apply pzs | assumption) | exact HB.out)) hb)
          have n7_ := zM (hbox)
          have n8_ := zM ((by rw [hg]; exact (below_size (by repeat (first | (with_reducible first | exact HB.out | apply pzA | apply pzD | apply pz1 | apply pzs | assumption) | exact HB.out))) : w.heap.size ≤ gb369))
          have n9_ := zM ((by rw [hg]; exact (below_size (by repeat (first | (with_reducible first | exact HB.out | apply pzA | apply pzD | apply pz1 | apply pzs | assumption) | exact HB.out))) : w.heap.size ≤ gb369))
          have n10_ := zM ((by rw [hg]; exact Nat.ne_of_lt (blk_lt (g := gb340) (o := .cells #[.int .u64 t336, .int .u64 t337] 27 (0, 0)) BK340.out) : gb340 ≠ gb369))
          have n11_ := zM ((by rw [hg]; exact Nat.ne_of_gt (blk_lt (g := gb340) (o := .cells #[.int .u64 t336, .int .u64 t337] 27 (0, 0)) BK340.out) : gb369 ≠ gb340))
          have n12_ := zM ((by rw [hg]; exact Nat.ne_of_lt (blk_lt (g := gb341) (o := .cells #[.int .i64 t338, .int .i64 t339] 29 (0, 0)) BK341.out) : gb341 ≠ gb369))
          have n13_ := zM ((by rw [hg]; exact Nat.ne_of_gt (blk_lt (g := gb341) (o := .cells #[.int .i64 t338, .int .i64 t339] 29 (0, 0)) BK341.out) : gb369 ≠ gb341))
          have n14_ := zM ((by rw [hg]; exact Nat.ne_of_lt (blk_lt (g := gb347) (o := .cells #[.int .u64 t343, .int .u64 t344] 27 (0, 0)) BK347.out) : gb347 ≠ gb369))
          have n15_ := zM ((by rw [hg]; exact Nat.ne_of_gt (blk_lt (g := gb347) (o := .cells #[.int .u64 t343, .int .u64 t344] 27 (0, 0)) BK347.out) : gb369 ≠ gb347))
          have n16_ := zM ((by rw [hg]; exact Nat.ne_of_lt (blk_lt (g := gb348) (o := .cells #[.int .i64 t345, .int .i64 t346] 29 (0, 0)) BK348.out) : gb348 ≠ gb369))
          have n17_ := zM ((by rw [hg]; exact Nat.ne_of_gt (blk_lt (g := gb348) (o := .cells #[.int .i64 t345, .int .i64 t346] 29 (0, 0)) BK348.out) : gb369 ≠ gb348))
          have z_NB369_368 := fun (h0_ : up b 9 8 = true) (h1_ : up b 9 9 = true) => (show gb369 ≠ gb368 from ((by rw [hg]; exact Nat.ne_of_gt (blk_lt (g := gb368) (o := .cells #[.bool false, .slice none 0 0] 24 (0, 0)) (by (with_reducible repeat (first | apply pzN | apply pzd | apply pza)); exact (Q_BK368 h0_ (hoff 11 (by kernel_rfl))))) : gb369 ≠ gb368)))
          have z_NB368_369 := fun (h0_ : up b 9 8 = true) (h1_ : up b 9 9 = true) => (show gb368 ≠ gb369 from ((by rw [hg]; exact Nat.ne_of_lt (blk_lt (g := gb368) (o := .cells #[.bool false, .slice none 0 0] 24 (0, 0)) (by (with_reducible repeat (first | apply pzN | apply pzd | apply pza)); exact (Q_BK368 h0_ (hoff 11 (by kernel_rfl))))) : gb368 ≠ gb369)))
          have z_NB370_369 := fun (h0_ : up b 9 9 = true) (h1_ : up b 9 10 = true) => (show gb370 ≠ gb369 from ((by rw [hg]; exact Nat.ne_of_lt (blk_lt (g := gb370) (o := .cells #[.int .i64 0, .int .i64 0] 29 (0, 0)) (by (with_reducible repeat (first | apply pzN | apply pzd | apply pza)); exact (Q_BK370 h1_ (hoff 13 (by kernel_rfl))))) : gb370 ≠ gb369)))
          have z_NB369_370 := fun (h0_ : up b 9 9 = true) (h1_ : up b 9 10 = true) => (show gb369 ≠ gb370 from ((by rw [hg]; exact Nat.ne_of_gt (blk_lt (g := gb370) (o := .cells #[.int .i64 0, .int .i64 0] 29 (0, 0)) (by (with_reducible repeat (first | apply pzN | apply pzd | apply pza)); exact (Q_BK370 h1_ (hoff 13 (by kernel_rfl))))) : gb369 ≠ gb370)))
          have z_HO353 := fun (h0_ : b 1 = true) => (show Kd.R (Kd.int .u32) 76 w37 w.heap.size (fun k_ => some k_ ≠ (.slice Ao18 t327.length co18 : Value).ownBlock ∧ some k_ ≠ (v332 : Value).ownBlock) v352 t351 from by first | exact (Kd.R_below (by (with_reducible repeat (first | apply Kd.R_alloc | apply Kd.R_drewN | apply Kd.R_drew)); exact (Q_HO353 h0_)) hb) | exact Kd.R_mono (Kd.R_below (by (with_reducible repeat (first | apply Kd.R_alloc | apply Kd.R_drewN | apply Kd.R_drew)); exact (Q_HO353 h0_)) hb) (fun _ h_ => by first | trivial | exact h_ | exact h_.1))
          have z_HO357 := fun (h0_ : b 1 = true) => (show Kd.R (Kd.int .u32) 76 w37 w.heap.size (fun k_ => some k_ ≠ (.slice Ao18 t327.length co18 : Value).ownBlock ∧ some k_ ≠ (v332 : Value).ownBlock) v356 t355 from by first | exact (Kd.R_below (by (with_reducible repeat (first | apply Kd.R_alloc | apply Kd.R_drewN | apply Kd.R_drew)); exact (Q_HO357 h0_)) hb) | exact Kd.R_mono (Kd.R_below (by (with_reducible repeat (first | apply Kd.R_alloc | apply Kd.R_drewN | apply Kd.R_drew)); exact (Q_HO357 h0_)) hb) (fun _ h_ => by first | trivial | exact h_ | exact h_.1))
          have z_HO363 := fun (h0_ : b 3 = true) => (show Kd.R (Kd.int .u32) 76 w37 w.heap.size (fun k_ => some k_ ≠ (.slice Ao18 t327.length co18 : Value).ownBlock ∧ some k_ ≠ (v332 : Value).ownBlock) v362 t361 from by first | exact (Kd.R_below (by (with_reducible repeat (first | apply Kd.R_alloc | apply Kd.R_drewN | apply Kd.R_drew)); exact (Q_HO363 h0_)) hb) | exact Kd.R_mono (Kd.R_below (by (with_reducible repeat (first | apply Kd.R_alloc | apply Kd.R_drewN | apply Kd.R_drew)); exact (Q_HO363 h0_)) hb) (fun _ h_ => by first | trivial | exact h_ | exact h_.1))
          have z_BK368 := fun (h0_ : b 8 = true) (h1_ : b 11 = false) => (show w37.heap[gb368]? = some (.cells #[.bool false, .slice none 0 0] 24 (0, 0)) from by first | exact (blk_below (g := gb368) (o := .cells #[.bool false, .slice none 0 0] 24 (0, 0)) (by (with_reducible repeat (first | apply pzN | apply pzd | apply pza)); exact (Q_BK368 h0_ h1_)) hb))
          have z_BK370 := fun (h0_ : b 10 = true) (h1_ : b 13 = false) => (show w37.heap[gb370]? = some (.cells #[.int .i64 0, .int .i64 0] 29 (0, 0)) from by first | exact (blk_below (g := gb370) (o := .cells #[.int .i64 0, .int .i64 0] 29 (0, 0)) (by (with_reducible repeat (first | apply pzN | apply pzd | apply pza)); exact (Q_BK370 h0_ h1_)) hb))
          clear HO329
          clear HO333
          clear BK340
          clear BK341
          clear BK347
          clear BK348
          clear HB
          have HO329 := n0_
          have HO333 := n1_
          have BK340 := n2_
          have BK341 := n3_
          have BK347 := n4_
          have BK348 := n5_
          have HB := n6_
          have BK369 := n7_
          have GW369 := n8_
          have GE369 := n9_
          have NB340_369 := n10_
          have NB369_340 := n11_
          have NB341_369 := n12_
          have NB369_341 := n13_
          have NB347_369 := n14_
          have NB369_347 := n15_
          have NB348_369 := n16_
          have NB369_348 := n17_
          clear n0_ n1_ n2_ n3_ n4_ n5_ n6_ n7_ n8_ n9_ n10_ n11_ n12_ n13_ n14_ n15_ n16_ n17_
          clear hb hbox hg
          refine hK.out _ _ ⟨v352, v356, v362, gb368, gb369, gb370, m1_, m2_, m3_, m4_, m5_, m8_, (.pointer (some ⟨gb369, 0, none⟩)), m10_, (by rw [ha.out]; exact putSel_upk 9 hb_ rfl rfl rfl), HO329.out, HO333.out, BK340.out, BK341.out, BK347.out, BK348.out, (by repeat (first | (with_reducible first | exact HB.out | apply pzA | apply pzD | apply pz1 | apply pzs | assumption) | exact HB.out)), z_NB369_368, z_NB368_369, Q_NB370_368, Q_NB368_370, z_NB370_369, z_NB369_370, z_HO353, z_HO357, z_HO363, z_BK368, Q_GW368, Q_GE368, Q_NB340_368, Q_NB368_340, Q_NB341_368, Q_NB368_341, Q_NB347_368, Q_NB368_347, Q_NB348_368, Q_NB368_348, fun _ _ => BK369.out, fun _ => GW369.out, fun _ => GE369.out, fun _ => NB340_369.out, fun _ => NB369_340.out, fun _ => NB341_369.out, fun _ => NB369_341.out, fun _ => NB347_369.out, fun _ => NB369_347.out, fun _ => NB348_369.out, fun _ => NB369_348.out, z_BK370, Q_GW370, Q_GE370, Q_NB340_370, Q_NB370_340, Q_NB341_370, Q_NB370_341, Q_NB347_370, Q_NB370_347, Q_NB348_370, Q_NB370_348, fun h0_ => absurd ((hoff 11 (by kernel_rfl)).symm.trans h0_) (by decide), fun h0_ => absurd ((hoff 12 (by kernel_rfl)).symm.trans h0_) (by decide), fun h0_ => absurd ((hoff 13 (by kernel_rfl)).symm.trans h0_) (by decide), Q_X1_, Q_X2_, Q_X3_, Q_X4_, Q_X5_, Q_X8_, fun _ => rfl, Q_X10_⟩
         refine steps_cons ?_ ?_
         ·rintro b a w' ⟨v352, v356, v362, gb368, gb369, gb370, m1_, m2_, m3_, m4_, m5_, m8_, m9_, m10_, ha, Q_HO329, Q_HO333, Q_BK340, Q_BK341, Q_BK347, Q_BK348, Q_HB, Q_NB369_368, Q_NB368_369, Q_NB370_368, Q_NB368_370, Q_NB370_369, Q_NB369_370, Q_HO353, Q_HO357, Q_HO363, Q_BK368, Q_GW368, Q_GE368, Q_NB340_368, Q_NB368_340, Q_NB341_368, Q_NB368_341, Q_NB347_368, Q_NB368_347, Q_NB348_368, Q_NB368_348, Q_BK369, Q_GW369, Q_GE369, Q_NB340_369, Q_NB369_340, Q_NB341_369, Q_NB369_341, Q_NB347_369, Q_NB369_347, Q_NB348_369, Q_NB369_348, Q_BK370, Q_GW370, Q_GE370, Q_NB340_370, Q_NB370_340, Q_NB341_370, Q_NB370_341, Q_NB347_370, Q_NB370_347, Q_NB348_370, Q_NB370_348, Q_BK368_e11, Q_BK369_e12, Q_BK370_e13, Q_X1_, Q_X2_, Q_X3_, Q_X4_, Q_X5_, Q_X8_, Q_X9_, Q_X10_⟩ hb_ hon hoff
          refine ⟨_, rfl, fun K hK => ?_⟩
          replace ha := zM ha
          have HO329 := zM Q_HO329
          have HO333 := zM Q_HO333
          have BK340 := zM Q_BK340
          have BK341 := zM Q_BK341
          have BK347 := zM Q_BK347
          have BK348 := zM Q_BK348
          have HB := zM Q_HB
          refine box_step ?hg (N := 8) ?hd (cs := #[.int .i64 0, .int .i64 0]) (t := 29) ?hr ?_; (case hd => rfl); (case hg => rfl); (case hr => first | (go_simp; done) | (go_simp; rfl))
          intro gb370 hg w37 hbox hb
          have n0_ := zM (Kd.R_below HO329.out hb)
          have n1_ := zM (Kd.R_below HO333.out hb)
          have n2_ := pzb BK340 hb
          have n3_ := pzb BK341 hb
          have n4_ := pzb BK347 hb
          have n5_ := pzb BK348 hb
          have n6_ := zM (below_step (by repeat (first | (with_reducible first | exact HB.out | apply pzA | apply pzD | apply pz1 | apply pzs | assumption) | exact HB.out)) hb)
          have n7_ := zM (hbox)
          have n8_ := zM ((by rw [hg]; exact (below_size (by repeat (first | (with_reducible first | exact HB.out | apply pzA | apply pzD | apply pz1 | apply pzs | assumption) | exact HB.out))) : w.heap.size ≤ gb370))
          have n9_ := zM ((by rw [hg]; exact (below_size (by repeat (first | (with_reducible first | exact HB.out | apply pzA | apply pzD | apply pz1 | apply pzs | assumption) | exact HB.out))) : w.heap.size ≤ gb370))
          have n10_ := zM ((by rw [hg]; exact Nat.ne_of_lt (blk_lt (g := gb340) (o := .cells #[.int .u64 t336, .int .u64 t337] 27 (0, 0)) BK340.out) : gb340 ≠ gb370))
          have n11_ := zM ((by rw [hg]; exact Nat.ne_of_gt (blk_lt (g := gb340) (o := .cells #[.int .u64 t336, .int .u64 t337] 27 (0, 0)) BK340.out) : gb370 ≠ gb340))
          have n12_ := zM ((by rw [hg]; exact Nat.ne_of_lt (blk_lt (g := gb341) (o := .cells #[.int .i64 t338, .int .i64 t339] 29 (0, 0)) BK341.out) : gb341 ≠ gb370))
          have n13_ := zM ((by rw [hg]; exact Nat.ne_of_gt (blk_lt (g := gb341) (o := .cells #[.int .i64 t338, .int .i64 t339] 29 (0, 0)) BK341.out) : gb370 ≠ gb341))
          have n14_ := zM ((by rw [hg]; exact Nat.ne_of_lt (blk_lt (g := gb347) (o := .cells #[.int .u64 t343, .int .u64 t344] 27 (0, 0)) BK347.out) : gb347 ≠ gb370))
          have n15_ := zM ((by rw [hg]; exact Nat.ne_of_gt (blk_lt (g := gb347) (o := .cells #[.int .u64 t343, .int .u64 t344] 27 (0, 0)) BK347.out) : gb370 ≠ gb347))
          have n16_ := zM ((by rw [hg]; exact Nat.ne_of_lt (blk_lt (g := gb348) (o := .cells #[.int .i64 t345, .int .i64 t346] 29 (0, 0)) BK348.out) : gb348 ≠ gb370))
          have n17_ := zM ((by rw [hg]; exact Nat.ne_of_gt (blk_lt (g := gb348) (o := .cells #[.int .i64 t345, .int .i64 t346] 29 (0, 0)) BK348.out) : gb370 ≠ gb348))
          have z_NB370_368 := fun (h0_ : up b 10 8 = true) (h1_ : up b 10 10 = true) => (show gb370 ≠ gb368 from ((by rw [hg]; exact Nat.ne_of_gt (blk_lt (g := gb368) (o := .cells #[.bool false, .slice none 0 0] 24 (0, 0)) (by (with_reducible repeat (first | apply pzN | apply pzd | apply pza)); exact (Q_BK368 h0_ (hoff 11 (by kernel_rfl))))) : gb370 ≠ gb368)))
          have z_NB368_370 := fun (h0_ : up b 10 8 = true) (h1_ : up b 10 10 = true) => (show gb368 ≠ gb370 from ((by rw [hg]; exact Nat.ne_of_lt (blk_lt (g := gb368) (o := .cells #[.bool false, .slice none 0 0] 24 (0, 0)) (by (with_reducible repeat (first | apply pzN | apply pzd | apply pza)); exact (Q_BK368 h0_ (hoff 11 (by kernel_rfl))))) : gb368 ≠ gb370)))
          have z_NB370_369 := fun (h0_ : up b 10 9 = true) (h1_ : up b 10 10 = true) => (show gb370 ≠ gb369 from ((by rw [hg]; exact Nat.ne_of_gt (blk_lt (g := gb369) (o := .cells #[.int .u64 0, .int .u64 0] 27 (0, 0)) (by (with_reducible repeat (first | apply pzN | apply pzd | apply pza)); exact (Q_BK369 h0_ (hoff 12 (by kernel_rfl))))) : gb370 ≠ gb369)))
          have z_NB369_370 := fun (h0_ : up b 10 9 = true) (h1_ : up b 10 10 = true) => (show gb369 ≠ gb370 from ((by rw [hg]; exact Nat.ne_of_lt (blk_lt (g := gb369) (o := .cells #[.int .u64 0, .int .u64 0] 27 (0, 0)) (by (with_reducible repeat (first | apply pzN | apply pzd | apply pza)); exact (Q_BK369 h0_ (hoff 12 (by kernel_rfl))))) : gb369 ≠ gb370)))
          have z_HO353 := fun (h0_ : b 1 = true) => (show Kd.R (Kd.int .u32) 76 w37 w.heap.size (fun k_ => some k_ ≠ (.slice Ao18 t327.length co18 : Value).ownBlock ∧ some k_ ≠ (v332 : Value).ownBlock) v352 t351 from by first | exact (Kd.R_below (by (with_reducible repeat (first | apply Kd.R_alloc | apply Kd.R_drewN | apply Kd.R_drew)); exact (Q_HO353 h0_)) hb) | exact Kd.R_mono (Kd.R_below (by (with_reducible repeat (first | apply Kd.R_alloc | apply Kd.R_drewN | apply Kd.R_drew)); exact (Q_HO353 h0_)) hb) (fun _ h_ => by first | trivial | exact h_ | exact h_.1))
          have z_HO357 := fun (h0_ : b 1 = true) => (show Kd.R (Kd.int .u32) 76 w37 w.heap.size (fun k_ => some k_ ≠ (.slice Ao18 t327.length co18 : Value).ownBlock ∧ some k_ ≠ (v332 : Value).ownBlock) v356 t355 from by first | exact (Kd.R_below (by (with_reducible repeat (first | apply Kd.R_alloc | apply Kd.R_drewN | apply Kd.R_drew)); exact (Q_HO357 h0_)) hb) | exact Kd.R_mono (Kd.R_below (by (with_reducible repeat (first | apply Kd.R_alloc | apply Kd.R_drewN | apply Kd.R_drew)); exact (Q_HO357 h0_)) hb) (fun _ h_ => by first | trivial | exact h_ | exact h_.1))
          have z_HO363 := fun (h0_ : b 3 = true) => (show Kd.R (Kd.int .u32) 76 w37 w.heap.size (fun k_ => some k_ ≠ (.slice Ao18 t327.length co18 : Value).ownBlock ∧ some k_ ≠ (v332 : Value).ownBlock) v362 t361 from by first | exact (Kd.R_below (by (with_reducible repeat (first | apply Kd.R_alloc | apply Kd.R_drewN | apply Kd.R_drew)); exact (Q_HO363 h0_)) hb) | exact Kd.R_mono (Kd.R_below (by (with_reducible repeat (first | apply Kd.R_alloc | apply Kd.R_drewN | apply Kd.R_drew)); exact (Q_HO363 h0_)) hb) (fun _ h_ => by first | trivial | exact h_ | exact h_.1))
          have z_BK368 := fun (h0_ : b 8 = true) (h1_ : b 11 = false) => (show w37.heap[gb368]? = some (.cells #[.bool false, .slice none 0 0] 24 (0, 0)) from by first | exact (blk_below (g := gb368) (o := .cells #[.bool false, .slice none 0 0] 24 (0, 0)) (by (with_reducible repeat (first | apply pzN | apply pzd | apply pza)); exact (Q_BK368 h0_ h1_)) hb))
          have z_BK369 := fun (h0_ : b 9 = true) (h1_ : b 12 = false) => (show w37.heap[gb369]? = some (.cells #[.int .u64 0, .int .u64 0] 27 (0, 0)) from by first | exact (blk_below (g := gb369) (o := .cells #[.int .u64 0, .int .u64 0] 27 (0, 0)) (by (with_reducible repeat (first | apply pzN | apply pzd | apply pza)); exact (Q_BK369 h0_ h1_)) hb))
          clear HO329
          clear HO333
          clear BK340
          clear BK341
          clear BK347
          clear BK348
          clear HB
          have HO329 := n0_
          have HO333 := n1_
          have BK340 := n2_
          have BK341 := n3_
          have BK347 := n4_
          have BK348 := n5_
          have HB := n6_
          have BK370 := n7_
          have GW370 := n8_
          have GE370 := n9_
          have NB340_370 := n10_
          have NB370_340 := n11_
          have NB341_370 := n12_
          have NB370_341 := n13_
          have NB347_370 := n14_
          have NB370_347 := n15_
          have NB348_370 := n16_
          have NB370_348 := n17_
          clear n0_ n1_ n2_ n3_ n4_ n5_ n6_ n7_ n8_ n9_ n10_ n11_ n12_ n13_ n14_ n15_ n16_ n17_
          clear hb hbox hg
          refine hK.out _ _ ⟨v352, v356, v362, gb368, gb369, gb370, m1_, m2_, m3_, m4_, m5_, m8_, m9_, (.pointer (some ⟨gb370, 0, none⟩)), (by rw [ha.out]; exact putSel_upk 10 hb_ rfl rfl rfl), HO329.out, HO333.out, BK340.out, BK341.out, BK347.out, BK348.out, (by repeat (first | (with_reducible first | exact HB.out | apply pzA | apply pzD | apply pz1 | apply pzs | assumption) | exact HB.out)), Q_NB369_368, Q_NB368_369, z_NB370_368, z_NB368_370, z_NB370_369, z_NB369_370, z_HO353, z_HO357, z_HO363, z_BK368, Q_GW368, Q_GE368, Q_NB340_368, Q_NB368_340, Q_NB341_368, Q_NB368_341, Q_NB347_368, Q_NB368_347, Q_NB348_368, Q_NB368_348, z_BK369, Q_GW369, Q_GE369, Q_NB340_369, Q_NB369_340, Q_NB341_369, Q_NB369_341, Q_NB347_369, Q_NB369_347, Q_NB348_369, Q_NB369_348, fun _ _ => BK370.out, fun _ => GW370.out, fun _ => GE370.out, fun _ => NB340_370.out, fun _ => NB370_340.out, fun _ => NB341_370.out, fun _ => NB370_341.out, fun _ => NB347_370.out, fun _ => NB370_347.out, fun _ => NB348_370.out, fun _ => NB370_348.out, fun h0_ => absurd ((hoff 11 (by kernel_rfl)).symm.trans h0_) (by decide), fun h0_ => absurd ((hoff 12 (by kernel_rfl)).symm.trans h0_) (by decide), fun h0_ => absurd ((hoff 13 (by kernel_rfl)).symm.trans h0_) (by decide), Q_X1_, Q_X2_, Q_X3_, Q_X4_, Q_X5_, Q_X8_, Q_X9_, fun _ => rfl⟩
         refine steps_cons ?_ ?_
         ·rintro b a w' ⟨v352, v356, v362, gb368, gb369, gb370, m1_, m2_, m3_, m4_, m5_, m8_, m9_, m10_, ha, Q_HO329, Q_HO333, Q_BK340, Q_BK341, Q_BK347, Q_BK348, Q_HB, Q_NB369_368, Q_NB368_369, Q_NB370_368, Q_NB368_370, Q_NB370_369, Q_NB369_370, Q_HO353, Q_HO357, Q_HO363, Q_BK368, Q_GW368, Q_GE368, Q_NB340_368, Q_NB368_340, Q_NB341_368, Q_NB368_341, Q_NB347_368, Q_NB368_347, Q_NB348_368, Q_NB368_348, Q_BK369, Q_GW369, Q_GE369, Q_NB340_369, Q_NB369_340, Q_NB341_369, Q_NB369_341, Q_NB347_369, Q_NB369_347, Q_NB348_369, Q_NB369_348, Q_BK370, Q_GW370, Q_GE370, Q_NB340_370, Q_NB370_340, Q_NB341_370, Q_NB370_341, Q_NB347_370, Q_NB370_347, Q_NB348_370, Q_NB370_348, Q_BK368_e11, Q_BK369_e12, Q_BK370_e13, Q_X1_, Q_X2_, Q_X3_, Q_X4_, Q_X5_, Q_X8_, Q_X9_, Q_X10_⟩ hb_ hon hoff
          refine ⟨_, rfl, fun K hK => ?_⟩
          have e6 : a.tmps[6]? = some (m8_) := by rw [ha]; exact putSel_on (e := (8, 6, m8_)) 8 rfl rfl (hon 8 (by kernel_rfl)) rfl
          rw [Q_X8_ (hon 8 (by kernel_rfl))] at e6
          have e28 : a.tmps[28]? = some (m5_) := by rw [ha]; exact putSel_on (e := (5, 28, m5_)) 5 rfl rfl (hon 5 (by kernel_rfl)) rfl
          rw [Q_X5_ (hon 5 (by kernel_rfl))] at e28
          replace ha := zM ha
          have HO329 := zM Q_HO329
          have HO333 := zM Q_HO333
          have BK340 := zM Q_BK340
          have BK341 := zM Q_BK341
          have BK347 := zM Q_BK347
          have BK348 := zM Q_BK348
          have HB := zM Q_HB
          have NB369_368 := zM (Q_NB369_368 (hon 8 (by kernel_rfl)) (hon 9 (by kernel_rfl)))
          have NB368_369 := zM (Q_NB368_369 (hon 8 (by kernel_rfl)) (hon 9 (by kernel_rfl)))
          have NB370_368 := zM (Q_NB370_368 (hon 8 (by kernel_rfl)) (hon 10 (by kernel_rfl)))
          have NB368_370 := zM (Q_NB368_370 (hon 8 (by kernel_rfl)) (hon 10 (by kernel_rfl)))
          have NB370_369 := zM (Q_NB370_369 (hon 9 (by kernel_rfl)) (hon 10 (by kernel_rfl)))
          have NB369_370 := zM (Q_NB369_370 (hon 9 (by kernel_rfl)) (hon 10 (by kernel_rfl)))
          have HO353 := zM (Q_HO353 (hon 1 (by kernel_rfl)))
          have HO357 := zM (Q_HO357 (hon 1 (by kernel_rfl)))
          have HO363 := zM (Q_HO363 (hon 3 (by kernel_rfl)))
          have BK368 := zM (Q_BK368 (hon 8 (by kernel_rfl)) hb_)
          have GW368 := zM (Q_GW368 (hon 8 (by kernel_rfl)))
          have GE368 := zM (Q_GE368 (hon 8 (by kernel_rfl)))
          have NB340_368 := zM (Q_NB340_368 (hon 8 (by kernel_rfl)))
          have NB368_340 := zM (Q_NB368_340 (hon 8 (by kernel_rfl)))
          have NB341_368 := zM (Q_NB341_368 (hon 8 (by kernel_rfl)))
          have NB368_341 := zM (Q_NB368_341 (hon 8 (by kernel_rfl)))
          have NB347_368 := zM (Q_NB347_368 (hon 8 (by kernel_rfl)))
          have NB368_347 := zM (Q_NB368_347 (hon 8 (by kernel_rfl)))
          have NB348_368 := zM (Q_NB348_368 (hon 8 (by kernel_rfl)))
          have NB368_348 := zM (Q_NB368_348 (hon 8 (by kernel_rfl)))
          have BK369 := zM (Q_BK369 (hon 9 (by kernel_rfl)) (hoff 12 (by kernel_rfl)))
          have GW369 := zM (Q_GW369 (hon 9 (by kernel_rfl)))
          have GE369 := zM (Q_GE369 (hon 9 (by kernel_rfl)))
          have NB340_369 := zM (Q_NB340_369 (hon 9 (by kernel_rfl)))
          have NB369_340 := zM (Q_NB369_340 (hon 9 (by kernel_rfl)))
          have NB341_369 := zM (Q_NB341_369 (hon 9 (by kernel_rfl)))
          have NB369_341 := zM (Q_NB369_341 (hon 9 (by kernel_rfl)))
          have NB347_369 := zM (Q_NB347_369 (hon 9 (by kernel_rfl)))
          have NB369_347 := zM (Q_NB369_347 (hon 9 (by kernel_rfl)))
          have NB348_369 := zM (Q_NB348_369 (hon 9 (by kernel_rfl)))
          have NB369_348 := zM (Q_NB369_348 (hon 9 (by kernel_rfl)))
          have BK370 := zM (Q_BK370 (hon 10 (by kernel_rfl)) (hoff 13 (by kernel_rfl)))
          have GW370 := zM (Q_GW370 (hon 10 (by kernel_rfl)))
          have GE370 := zM (Q_GE370 (hon 10 (by kernel_rfl)))
          have NB340_370 := zM (Q_NB340_370 (hon 10 (by kernel_rfl)))
          have NB370_340 := zM (Q_NB370_340 (hon 10 (by kernel_rfl)))
          have NB341_370 := zM (Q_NB341_370 (hon 10 (by kernel_rfl)))
          have NB370_341 := zM (Q_NB370_341 (hon 10 (by kernel_rfl)))
          have NB347_370 := zM (Q_NB347_370 (hon 10 (by kernel_rfl)))
          have NB370_347 := zM (Q_NB370_347 (hon 10 (by kernel_rfl)))
          have NB348_370 := zM (Q_NB348_370 (hon 10 (by kernel_rfl)))
          have NB370_348 := zM (Q_NB370_348 (hon 10 (by kernel_rfl)))
          obtain ⟨Ao45, co45, eo45⟩ := Kd.R_slice HO363.out
          (first | subst eo45 | (injection eo45 with f1_ f2_ f3_; have f4_ := f1_.symm; have f5_ := f3_.symm; clear f1_ f2_ f3_; subst f4_; subst f5_))
          have hs44 : w'.cell? ⟨gb368, 0, none⟩ = some (.bool false) := (blk_cell BK368.out 0).trans rfl
          have hfs44 := zF BK368.out 0
          have hns44_0 := NB340_368.out
          have hns44_1 := NB341_368.out
          have hns44_2 := NB347_368.out
          have hns44_3 := NB348_368.out
          have hns44_5 := NB369_368.out
          have hns44_6 := NB370_368.out
          have hms44_0 := NB368_340.out
          have hms44_1 := NB368_341.out
          have hms44_2 := NB368_347.out
          have hms44_3 := NB368_348.out
          have hms44_5 := NB368_369.out
          have hms44_6 := NB368_370.out
          have hs46 : w'.cell? ⟨gb368, 1, none⟩ = some (.slice none 0 0) := (blk_cell BK368.out 1).trans rfl
          have hfs46 := zF BK368.out 1
          have hns46_0 := NB340_368.out
          have hns46_1 := NB341_368.out
          have hns46_2 := NB347_368.out
          have hns46_3 := NB348_368.out
          have hns46_5 := NB369_368.out
          have hns46_6 := NB370_368.out
          have hms46_0 := NB368_340.out
          have hms46_1 := NB368_341.out
          have hms46_2 := NB368_347.out
          have hms46_3 := NB368_348.out
          have hms46_5 := NB368_369.out
          have hms46_6 := NB368_370.out
          refine skip_ (w1 := ?_) (by rfl) rfl ?_ ?_
          rotate_left
          ·go_simp
           rfl
          refine hK.out _ _ ⟨v352, v356, .slice Ao45 t361.length co45, gb368, gb369, gb370, m1_, m2_, m3_, m4_, m5_, m8_, m9_, m10_, (by rw [ha.out]; exact putSel_none (v := undef) rfl), (by (with_reducible repeat (first | apply Kd.R_alloc | apply Kd.R_drewN | apply Kd.R_drew)); exact Kd.R_mono (Kd.R_far (p := ⟨gb368, 1, none⟩) (Kd.R_far (p := ⟨gb368, 0, none⟩) (Kd.R_types HO329.out BK368.out (by decide)) (fun _ hk => by first | exact hk.2 | exact hk | simp only [ne_eq, hk, not_false_eq_true, and_self]) (.bool t360)) (fun _ hk => by first | exact hk.2 | exact hk | simp only [ne_eq, hk, not_false_eq_true, and_self]) (.slice Ao45 t361.length co45)) (fun _ hk => by first | exact ⟨hk.1.1, ⟨hk.1.2.1, ⟨hk.1.2.2.1, hk.1.2.2.2⟩⟩⟩ | exact hk | simp only [ne_eq, hk, not_false_eq_true, and_self])), (by (with_reducible repeat (first | apply Kd.R_alloc | apply Kd.R_drewN | apply Kd.R_drew)); exact Kd.R_mono (Kd.R_far (p := ⟨gb368, 1, none⟩) (Kd.R_far (p := ⟨gb368, 0, none⟩) (Kd.R_types HO333.out BK368.out (by decide)) (fun _ hk => by first | exact hk.2 | exact hk | simp only [ne_eq, hk, not_false_eq_true, and_self]) (.bool t360)) (fun _ hk => by first | exact hk.2 | exact hk | simp only [ne_eq, hk, not_false_eq_true, and_self]) (.slice Ao45 t361.length co45)) (fun _ hk => by first | exact ⟨hk.1.1, ⟨hk.1.2.1, ⟨hk.1.2.2.1, hk.1.2.2.2⟩⟩⟩ | exact hk | simp only [ne_eq, hk, not_false_eq_true, and_self])), (by (with_reducible repeat (first | apply pzN | apply pzd | apply pza)); refine blk_far ?_ NB340_368.out _; (with_reducible repeat (first | apply pzN | apply pzd | apply pza)); refine blk_far ?_ NB340_368.out _; (with_reducible repeat (first | apply pzN | apply pzd | apply pza)); exact BK340.out), (by (with_reducible repeat (first | apply pzN | apply pzd | apply pza)); refine blk_far ?_ NB341_368.out _; (with_reducible repeat (first | apply pzN | apply pzd | apply pza)); refine blk_far ?_ NB341_368.out _; (with_reducible repeat (first | apply pzN | apply pzd | apply pza)); exact BK341.out), (by (with_reducible repeat (first | apply pzN | apply pzd | apply pza)); refine blk_far ?_ NB347_368.out _; (with_reducible repeat (first | apply pzN | apply pzd | apply pza)); refine blk_far ?_ NB347_368.out _; (with_reducible repeat (first | apply pzN | apply pzd | apply pza)); exact BK347.out), (by (with_reducible repeat (first | apply pzN | apply pzd | apply pza)); refine blk_far ?_ NB348_368.out _; (with_reducible repeat (first | apply pzN | apply pzd | apply pza)); refine blk_far ?_ NB348_368.out _; (with_reducible repeat (first | apply pzN | apply pzd | apply pza)); exact BK348.out), (by repeat (first | (with_reducible first | exact HB.out | apply pzA | apply pzD | apply pz1 | apply pzs | assumption) | exact HB.out)), fun _ _ => NB369_368.out, fun _ _ => NB368_369.out, fun _ _ => NB370_368.out, fun _ _ => NB368_370.out, fun _ _ => NB370_369.out, fun _ _ => NB369_370.out, fun _ => (by (with_reducible repeat (first | apply Kd.R_alloc | apply Kd.R_drewN | apply Kd.R_drew)); exact Kd.R_mono (Kd.R_far (p := ⟨gb368, 1, none⟩) (Kd.R_far (p := ⟨gb368, 0, none⟩) (Kd.R_types HO353.out BK368.out (by decide)) (fun _ hk => by first | exact hk.2 | exact hk | simp only [ne_eq, hk, not_false_eq_true, and_self]) (.bool t360)) (fun _ hk => by first | exact hk.2 | exact hk | simp only [ne_eq, hk, not_false_eq_true, and_self]) (.slice Ao45 t361.length co45)) (fun _ hk => by first | exact ⟨hk.1.1, ⟨hk.1.2.1, ⟨hk.1.2.2.1, hk.1.2.2.2⟩⟩⟩ | exact hk | simp only [ne_eq, hk, not_false_eq_true, and_self])), fun _ => (by (with_reducible repeat (first | apply Kd.R_alloc | apply Kd.R_drewN | apply Kd.R_drew)); exact Kd.R_mono (Kd.R_far (p := ⟨gb368, 1, none⟩) (Kd.R_far (p := ⟨gb368, 0, none⟩) (Kd.R_types HO357.out BK368.out (by decide)) (fun _ hk => by first | exact hk.2 | exact hk | simp only [ne_eq, hk, not_false_eq_true, and_self]) (.bool t360)) (fun _ hk => by first | exact hk.2 | exact hk | simp only [ne_eq, hk, not_false_eq_true, and_self]) (.slice Ao45 t361.length co45)) (fun _ hk => by first | exact ⟨hk.1.1, ⟨hk.1.2.1, ⟨hk.1.2.2.1, hk.1.2.2.2⟩⟩⟩ | exact hk | simp only [ne_eq, hk, not_false_eq_true, and_self])), fun _ => (by (with_reducible repeat (first | apply Kd.R_alloc | apply Kd.R_drewN | apply Kd.R_drew)); exact Kd.R_mono (Kd.R_far (p := ⟨gb368, 1, none⟩) (Kd.R_far (p := ⟨gb368, 0, none⟩) (Kd.R_types HO363.out BK368.out (by decide)) (fun _ hk => by first | exact hk.2 | exact hk | simp only [ne_eq, hk, not_false_eq_true, and_self]) (.bool t360)) (fun _ hk => by first | exact hk.2 | exact hk | simp only [ne_eq, hk, not_false_eq_true, and_self]) (.slice Ao45 t361.length co45)) (fun _ hk => by first | exact ⟨hk.1.1, ⟨hk.1.2.1, ⟨hk.1.2.2.1, hk.1.2.2.2⟩⟩⟩ | exact hk | simp only [ne_eq, hk, not_false_eq_true, and_self])), fun _ h1_ => absurd ((up_self b 11).symm.trans h1_) (by decide), fun _ => GW368.out, fun _ => GE368.out, fun _ => NB340_368.out, fun _ => NB368_340.out, fun _ => NB341_368.out, fun _ => NB368_341.out, fun _ => NB347_368.out, fun _ => NB368_347.out, fun _ => NB348_368.out, fun _ => NB368_348.out, fun _ _ => (by (with_reducible repeat (first | apply pzN | apply pzd | apply pza)); refine blk_far ?_ NB369_368.out _; (with_reducible repeat (first | apply pzN | apply pzd | apply pza)); refine blk_far ?_ NB369_368.out _; (with_reducible repeat (first | apply pzN | apply pzd | apply pza)); exact BK369.out), fun _ => GW369.out, fun _ => GE369.out, fun _ => NB340_369.out, fun _ => NB369_340.out, fun _ => NB341_369.out, fun _ => NB369_341.out, fun _ => NB347_369.out, fun _ => NB369_347.out, fun _ => NB348_369.out, fun _ => NB369_348.out, fun _ _ => (by (with_reducible repeat (first | apply pzN | apply pzd | apply pza)); refine blk_far ?_ NB370_368.out _; (with_reducible repeat (first | apply pzN | apply pzd | apply pza)); refine blk_far ?_ NB370_368.out _; (with_reducible repeat (first | apply pzN | apply pzd | apply pza)); exact BK370.out), fun _ => GW370.out, fun _ => GE370.out, fun _ => NB340_370.out, fun _ => NB370_340.out, fun _ => NB341_370.out, fun _ => NB370_341.out, fun _ => NB347_370.out, fun _ => NB370_347.out, fun _ => NB348_370.out, fun _ => NB370_348.out, fun _ => (by (with_reducible repeat (first | apply pzN | apply pzd | apply pza)); refine blk_put (cs := #[.bool t360, .slice none 0 0]) ?_ 1 _ rfl; (with_reducible repeat (first | apply pzN | apply pzd | apply pza)); refine blk_put (cs := #[.bool false, .slice none 0 0]) ?_ 0 _ rfl; (with_reducible repeat (first | apply pzN | apply pzd | apply pza)); exact BK368.out), fun h0_ => absurd ((hoff 12 (by kernel_rfl)).symm.trans h0_) (by decide), fun h0_ => absurd ((hoff 13 (by kernel_rfl)).symm.trans h0_) (by decide), Q_X1_, Q_X2_, Q_X3_, Q_X4_, Q_X5_, Q_X8_, Q_X9_, Q_X10_⟩
         refine steps_cons ?_ ?_
         ·rintro b a w' ⟨v352, v356, v362, gb368, gb369, gb370, m1_, m2_, m3_, m4_, m5_, m8_, m9_, m10_, ha, Q_HO329, Q_HO333, Q_BK340, Q_BK341, Q_BK347, Q_BK348, Q_HB, Q_NB369_368, Q_NB368_369, Q_NB370_368, Q_NB368_370, Q_NB370_369, Q_NB369_370, Q_HO353, Q_HO357, Q_HO363, Q_BK368, Q_GW368, Q_GE368, Q_NB340_368, Q_NB368_340, Q_NB341_368, Q_NB368_341, Q_NB347_368, Q_NB368_347, Q_NB348_368, Q_NB368_348, Q_BK369, Q_GW369, Q_GE369, Q_NB340_369, Q_NB369_340, Q_NB341_369, Q_NB369_341, Q_NB347_369, Q_NB369_347, Q_NB348_369, Q_NB369_348, Q_BK370, Q_GW370, Q_GE370, Q_NB340_370, Q_NB370_340, Q_NB341_370, Q_NB370_341, Q_NB347_370, Q_NB370_347, Q_NB348_370, Q_NB370_348, Q_BK368_e11, Q_BK369_e12, Q_BK370_e13, Q_X1_, Q_X2_, Q_X3_, Q_X4_, Q_X5_, Q_X8_, Q_X9_, Q_X10_⟩ hb_ hon hoff
          refine ⟨_, rfl, fun K hK => ?_⟩
          have e7 : a.tmps[7]? = some (m9_) := by rw [ha]; exact putSel_on (e := (9, 7, m9_)) 9 rfl rfl (hon 9 (by kernel_rfl)) rfl
          rw [Q_X9_ (hon 9 (by kernel_rfl))] at e7
          have e29 : a.tmps[29]? = some (.agg #[.int .u64 t364, .int .u64 t365]) := by rw [ha]; exact putSel_on (e := (6, 29, .agg #[.int .u64 t364, .int .u64 t365])) 6 rfl rfl (hon 6 (by kernel_rfl)) rfl
          replace ha := zM ha
          have HO329 := zM Q_HO329
          have HO333 := zM Q_HO333
          have BK340 := zM Q_BK340
          have BK341 := zM Q_BK341
          have BK347 := zM Q_BK347
          have BK348 := zM Q_BK348
          have HB := zM Q_HB
          have NB369_368 := zM (Q_NB369_368 (hon 8 (by kernel_rfl)) (hon 9 (by kernel_rfl)))
          have NB368_369 := zM (Q_NB368_369 (hon 8 (by kernel_rfl)) (hon 9 (by kernel_rfl)))
          have NB370_368 := zM (Q_NB370_368 (hon 8 (by kernel_rfl)) (hon 10 (by kernel_rfl)))
          have NB368_370 := zM (Q_NB368_370 (hon 8 (by kernel_rfl)) (hon 10 (by kernel_rfl)))
          have NB370_369 := zM (Q_NB370_369 (hon 9 (by kernel_rfl)) (hon 10 (by kernel_rfl)))
          have NB369_370 := zM (Q_NB369_370 (hon 9 (by kernel_rfl)) (hon 10 (by kernel_rfl)))
          have HO353 := zM (Q_HO353 (hon 1 (by kernel_rfl)))
          have HO357 := zM (Q_HO357 (hon 1 (by kernel_rfl)))
          have HO363 := zM (Q_HO363 (hon 3 (by kernel_rfl)))
          have GW368 := zM (Q_GW368 (hon 8 (by kernel_rfl)))
          have GE368 := zM (Q_GE368 (hon 8 (by kernel_rfl)))
          have NB340_368 := zM (Q_NB340_368 (hon 8 (by kernel_rfl)))
          have NB368_340 := zM (Q_NB368_340 (hon 8 (by kernel_rfl)))
          have NB341_368 := zM (Q_NB341_368 (hon 8 (by kernel_rfl)))
          have NB368_341 := zM (Q_NB368_341 (hon 8 (by kernel_rfl)))
          have NB347_368 := zM (Q_NB347_368 (hon 8 (by kernel_rfl)))
          have NB368_347 := zM (Q_NB368_347 (hon 8 (by kernel_rfl)))
          have NB348_368 := zM (Q_NB348_368 (hon 8 (by kernel_rfl)))
          have NB368_348 := zM (Q_NB368_348 (hon 8 (by kernel_rfl)))
          have BK369 := zM (Q_BK369 (hon 9 (by kernel_rfl)) hb_)
          have GW369 := zM (Q_GW369 (hon 9 (by kernel_rfl)))
          have GE369 := zM (Q_GE369 (hon 9 (by kernel_rfl)))
          have NB340_369 := zM (Q_NB340_369 (hon 9 (by kernel_rfl)))
          have NB369_340 := zM (Q_NB369_340 (hon 9 (by kernel_rfl)))
          have NB341_369 := zM (Q_NB341_369 (hon 9 (by kernel_rfl)))
          have NB369_341 := zM (Q_NB369_341 (hon 9 (by kernel_rfl)))
          have NB347_369 := zM (Q_NB347_369 (hon 9 (by kernel_rfl)))
          have NB369_347 := zM (Q_NB369_347 (hon 9 (by kernel_rfl)))
          have NB348_369 := zM (Q_NB348_369 (hon 9 (by kernel_rfl)))
          have NB369_348 := zM (Q_NB369_348 (hon 9 (by kernel_rfl)))
          have BK370 := zM (Q_BK370 (hon 10 (by kernel_rfl)) (hoff 13 (by kernel_rfl)))
          have GW370 := zM (Q_GW370 (hon 10 (by kernel_rfl)))
          have GE370 := zM (Q_GE370 (hon 10 (by kernel_rfl)))
          have NB340_370 := zM (Q_NB340_370 (hon 10 (by kernel_rfl)))
          have NB370_340 := zM (Q_NB370_340 (hon 10 (by kernel_rfl)))
          have NB341_370 := zM (Q_NB341_370 (hon 10 (by kernel_rfl)))
          have NB370_341 := zM (Q_NB370_341 (hon 10 (by kernel_rfl)))
          have NB347_370 := zM (Q_NB347_370 (hon 10 (by kernel_rfl)))
          have NB370_347 := zM (Q_NB370_347 (hon 10 (by kernel_rfl)))
          have NB348_370 := zM (Q_NB348_370 (hon 10 (by kernel_rfl)))
          have NB370_348 := zM (Q_NB370_348 (hon 10 (by kernel_rfl)))
          have BK368 := zM (Q_BK368_e11 (hon 11 (by kernel_rfl)))
          have hs47 : w'.cell? ⟨gb369, 0, none⟩ = some (.int .u64 0) := (blk_cell BK369.out 0).trans rfl
          have hfs47 := zF BK369.out 0
          have hns47_0 := NB340_369.out
          have hns47_1 := NB341_369.out
          have hns47_2 := NB347_369.out
          have hns47_3 := NB348_369.out
          have hns47_4 := NB368_369.out
          have hns47_6 := NB370_369.out
          have hms47_0 := NB369_340.out
          have hms47_1 := NB369_341.out
          have hms47_2 := NB369_347.out
          have hms47_3 := NB369_348.out
          have hms47_4 := NB369_368.out
          have hms47_6 := NB369_370.out
          have hs48 : w'.cell? ⟨gb369, 1, none⟩ = some (.int .u64 0) := (blk_cell BK369.out 1).trans rfl
          have hfs48 := zF BK369.out 1
          have hns48_0 := NB340_369.out
          have hns48_1 := NB341_369.out
          have hns48_2 := NB347_369.out
          have hns48_3 := NB348_369.out
          have hns48_4 := NB368_369.out
          have hns48_6 := NB370_369.out
          have hms48_0 := NB369_340.out
          have hms48_1 := NB369_341.out
          have hms48_2 := NB369_347.out
          have hms48_3 := NB369_348.out
          have hms48_4 := NB369_368.out
          have hms48_6 := NB369_370.out
          refine skip_ (w1 := ?_) (by rfl) rfl ?_ ?_
          rotate_left
          ·go_simp
           rfl
          refine hK.out _ _ ⟨v352, v356, v362, gb368, gb369, gb370, m1_, m2_, m3_, m4_, m5_, m8_, m9_, m10_, (by rw [ha.out]; exact putSel_none (v := undef) rfl), (by (with_reducible repeat (first | apply Kd.R_alloc | apply Kd.R_drewN | apply Kd.R_drew)); exact Kd.R_mono (Kd.R_far (p := ⟨gb369, 1, none⟩) (Kd.R_far (p := ⟨gb369, 0, none⟩) (Kd.R_types HO329.out BK369.out (by decide)) (fun _ hk => by first | exact hk.2 | exact hk | simp only [ne_eq, hk, not_false_eq_true, and_self]) (.int .u64 t364)) (fun _ hk => by first | exact hk.2 | exact hk | simp only [ne_eq, hk, not_false_eq_true, and_self]) (.int .u64 t365)) (fun _ hk => by first | exact ⟨hk.1.1, ⟨hk.1.2.1, ⟨hk.1.2.2.1, hk.1.2.2.2⟩⟩⟩ | exact hk | simp only [ne_eq, hk, not_false_eq_true, and_self])), (by (with_reducible repeat (first | apply Kd.R_alloc | apply Kd.R_drewN | apply Kd.R_drew)); exact Kd.R_mono (Kd.R_far (p := ⟨gb369, 1, none⟩) (Kd.R_far (p := ⟨gb369, 0, none⟩) (Kd.R_types HO333.out BK369.out (by decide)) (fun _ hk => by first | exact hk.2 | exact hk | simp only [ne_eq, hk, not_false_eq_true, and_self]) (.int .u64 t364)) (fun _ hk => by first | exact hk.2 | exact hk | simp only [ne_eq, hk, not_false_eq_true, and_self]) (.int .u64 t365)) (fun _ hk => by first | exact ⟨hk.1.1, ⟨hk.1.2.1, ⟨hk.1.2.2.1, hk.1.2.2.2⟩⟩⟩ | exact hk | simp only [ne_eq, hk, not_false_eq_true, and_self])), (by (with_reducible repeat (first | apply pzN | apply pzd | apply pza)); refine blk_far ?_ NB340_369.out _; (with_reducible repeat (first | apply pzN | apply pzd | apply pza)); refine blk_far ?_ NB340_369.out _; (with_reducible repeat (first | apply pzN | apply pzd | apply pza)); exact BK340.out), (by (with_reducible repeat (first | apply pzN | apply pzd | apply pza)); refine blk_far ?_ NB341_369.out _; (with_reducible repeat (first | apply pzN | apply pzd | apply pza)); refine blk_far ?_ NB341_369.out _; (with_reducible repeat (first | apply pzN | apply pzd | apply pza)); exact BK341.out), (by (with_reducible repeat (first | apply pzN | apply pzd | apply pza)); refine blk_far ?_ NB347_369.out _; (with_reducible repeat (first | apply pzN | apply pzd | apply pza)); refine blk_far ?_ NB347_369.out _; (with_reducible repeat (first | apply pzN | apply pzd | apply pza)); exact BK347.out), (by (with_reducible repeat (first | apply pzN | apply pzd | apply pza)); refine blk_far ?_ NB348_369.out _; (with_reducible repeat (first | apply pzN | apply pzd | apply pza)); refine blk_far ?_ NB348_369.out _; (with_reducible repeat (first | apply pzN | apply pzd | apply pza)); exact BK348.out), (by repeat (first | (with_reducible first | exact HB.out | apply pzA | apply pzD | apply pz1 | apply pzs | assumption) | exact HB.out)), fun _ _ => NB369_368.out, fun _ _ => NB368_369.out, fun _ _ => NB370_368.out, fun _ _ => NB368_370.out, fun _ _ => NB370_369.out, fun _ _ => NB369_370.out, fun _ => (by (with_reducible repeat (first | apply Kd.R_alloc | apply Kd.R_drewN | apply Kd.R_drew)); exact Kd.R_mono (Kd.R_far (p := ⟨gb369, 1, none⟩) (Kd.R_far (p := ⟨gb369, 0, none⟩) (Kd.R_types HO353.out BK369.out (by decide)) (fun _ hk => by first | exact hk.2 | exact hk | simp only [ne_eq, hk, not_false_eq_true, and_self]) (.int .u64 t364)) (fun _ hk => by first | exact hk.2 | exact hk | simp only [ne_eq, hk, not_false_eq_true, and_self]) (.int .u64 t365)) (fun _ hk => by first | exact ⟨hk.1.1, ⟨hk.1.2.1, ⟨hk.1.2.2.1, hk.1.2.2.2⟩⟩⟩ | exact hk | simp only [ne_eq, hk, not_false_eq_true, and_self])), fun _ => (by (with_reducible repeat (first | apply Kd.R_alloc | apply Kd.R_drewN | apply Kd.R_drew)); exact Kd.R_mono (Kd.R_far (p := ⟨gb369, 1, none⟩) (Kd.R_far (p := ⟨gb369, 0, none⟩) (Kd.R_types HO357.out BK369.out (by decide)) (fun _ hk => by first | exact hk.2 | exact hk | simp only [ne_eq, hk, not_false_eq_true, and_self]) (.int .u64 t364)) (fun _ hk => by first | exact hk.2 | exact hk | simp only [ne_eq, hk, not_false_eq_true, and_self]) (.int .u64 t365)) (fun _ hk => by first | exact ⟨hk.1.1, ⟨hk.1.2.1, ⟨hk.1.2.2.1, hk.1.2.2.2⟩⟩⟩ | exact hk | simp only [ne_eq, hk, not_false_eq_true, and_self])), fun _ => (by (with_reducible repeat (first | apply Kd.R_alloc | apply Kd.R_drewN | apply Kd.R_drew)); exact Kd.R_mono (Kd.R_far (p := ⟨gb369, 1, none⟩) (Kd.R_far (p := ⟨gb369, 0, none⟩) (Kd.R_types HO363.out BK369.out (by decide)) (fun _ hk => by first | exact hk.2 | exact hk | simp only [ne_eq, hk, not_false_eq_true, and_self]) (.int .u64 t364)) (fun _ hk => by first | exact hk.2 | exact hk | simp only [ne_eq, hk, not_false_eq_true, and_self]) (.int .u64 t365)) (fun _ hk => by first | exact ⟨hk.1.1, ⟨hk.1.2.1, ⟨hk.1.2.2.1, hk.1.2.2.2⟩⟩⟩ | exact hk | simp only [ne_eq, hk, not_false_eq_true, and_self])), fun _ h1_ => absurd ((hon 11 (by kernel_rfl)).symm.trans h1_) (by decide), fun _ => GW368.out, fun _ => GE368.out, fun _ => NB340_368.out, fun _ => NB368_340.out, fun _ => NB341_368.out, fun _ => NB368_341.out, fun _ => NB347_368.out, fun _ => NB368_347.out, fun _ => NB348_368.out, fun _ => NB368_348.out, fun _ h1_ => absurd ((up_self b 12).symm.trans h1_) (by decide), fun _ => GW369.out, fun _ => GE369.out, fun _ => NB340_369.out, fun _ => NB369_340.out, fun _ => NB341_369.out, fun _ => NB369_341.out, fun _ => NB347_369.out, fun _ => NB369_347.out, fun _ => NB348_369.out, fun _ => NB369_348.out, fun _ _ => (by (with_reducible repeat (first | apply pzN | apply pzd | apply pza)); refine blk_far ?_ NB370_369.out _; (with_reducible repeat (first | apply pzN | apply pzd | apply pza)); refine blk_far ?_ NB370_369.out _; (with_reducible repeat (first | apply pzN | apply pzd | apply pza)); exact BK370.out), fun _ => GW370.out, fun _ => GE370.out, fun _ => NB340_370.out, fun _ => NB370_340.out, fun _ => NB341_370.out, fun _ => NB370_341.out, fun _ => NB347_370.out, fun _ => NB370_347.out, fun _ => NB348_370.out, fun _ => NB370_348.out, fun _ => (by (with_reducible repeat (first | apply pzN | apply pzd | apply pza)); refine blk_far ?_ NB368_369.out _; (with_reducible repeat (first | apply pzN | apply pzd | apply pza)); refine blk_far ?_ NB368_369.out _; (with_reducible repeat (first | apply pzN | apply pzd | apply pza)); exact BK368.out), fun _ => (by (with_reducible repeat (first | apply pzN | apply pzd | apply pza)); refine blk_put (cs := #[.int .u64 t364, .int .u64 0]) ?_ 1 _ rfl; (with_reducible repeat (first | apply pzN | apply pzd | apply pza)); refine blk_put (cs := #[.int .u64 0, .int .u64 0]) ?_ 0 _ rfl; (with_reducible repeat (first | apply pzN | apply pzd | apply pza)); exact BK369.out), fun h0_ => absurd ((hoff 13 (by kernel_rfl)).symm.trans h0_) (by decide), Q_X1_, Q_X2_, Q_X3_, Q_X4_, Q_X5_, Q_X8_, Q_X9_, Q_X10_⟩
         refine steps_cons ?_ ?_
         ·rintro b a w' ⟨v352, v356, v362, gb368, gb369, gb370, m1_, m2_, m3_, m4_, m5_, m8_, m9_, m10_, ha, Q_HO329, Q_HO333, Q_BK340, Q_BK341, Q_BK347, Q_BK348, Q_HB, Q_NB369_368, Q_NB368_369, Q_NB370_368, Q_NB368_370, Q_NB370_369, Q_NB369_370, Q_HO353, Q_HO357, Q_HO363, Q_BK368, Q_GW368, Q_GE368, Q_NB340_368, Q_NB368_340, Q_NB341_368, Q_NB368_341, Q_NB347_368, Q_NB368_347, Q_NB348_368, Q_NB368_348, Q_BK369, Q_GW369, Q_GE369, Q_NB340_369, Q_NB369_340, Q_NB341_369, Q_NB369_341, Q_NB347_369, Q_NB369_347, Q_NB348_369, Q_NB369_348, Q_BK370, Q_GW370, Q_GE370, Q_NB340_370, Q_NB370_340, Q_NB341_370, Q_NB370_341, Q_NB347_370, Q_NB370_347, Q_NB348_370, Q_NB370_348, Q_BK368_e11, Q_BK369_e12, Q_BK370_e13, Q_X1_, Q_X2_, Q_X3_, Q_X4_, Q_X5_, Q_X8_, Q_X9_, Q_X10_⟩ hb_ hon hoff
          refine ⟨_, rfl, fun K hK => ?_⟩
          have e8 : a.tmps[8]? = some (m10_) := by rw [ha]; exact putSel_on (e := (10, 8, m10_)) 10 rfl rfl (hon 10 (by kernel_rfl)) rfl
          rw [Q_X10_ (hon 10 (by kernel_rfl))] at e8
          have e30 : a.tmps[30]? = some (.agg #[.int .i64 t366, .int .i64 t367]) := by rw [ha]; exact putSel_on (e := (7, 30, .agg #[.int .i64 t366, .int .i64 t367])) 7 rfl rfl (hon 7 (by kernel_rfl)) rfl
          replace ha := zM ha
          have HO329 := zM Q_HO329
          have HO333 := zM Q_HO333
          have BK340 := zM Q_BK340
          have BK341 := zM Q_BK341
          have BK347 := zM Q_BK347
          have BK348 := zM Q_BK348
          have HB := zM Q_HB
          have NB369_368 := zM (Q_NB369_368 (hon 8 (by kernel_rfl)) (hon 9 (by kernel_rfl)))
          have NB368_369 := zM (Q_NB368_369 (hon 8 (by kernel_rfl)) (hon 9 (by kernel_rfl)))
          have NB370_368 := zM (Q_NB370_368 (hon 8 (by kernel_rfl)) (hon 10 (by kernel_rfl)))
          have NB368_370 := zM (Q_NB368_370 (hon 8 (by kernel_rfl)) (hon 10 (by kernel_rfl)))
          have NB370_369 := zM (Q_NB370_369 (hon 9 (by kernel_rfl)) (hon 10 (by kernel_rfl)))
          have NB369_370 := zM (Q_NB369_370 (hon 9 (by kernel_rfl)) (hon 10 (by kernel_rfl)))
          have HO353 := zM (Q_HO353 (hon 1 (by kernel_rfl)))
          have HO357 := zM (Q_HO357 (hon 1 (by kernel_rfl)))
          have HO363 := zM (Q_HO363 (hon 3 (by kernel_rfl)))
          have GW368 := zM (Q_GW368 (hon 8 (by kernel_rfl)))
          have GE368 := zM (Q_GE368 (hon 8 (by kernel_rfl)))
          have NB340_368 := zM (Q_NB340_368 (hon 8 (by kernel_rfl)))
          have NB368_340 := zM (Q_NB368_340 (hon 8 (by kernel_rfl)))
          have NB341_368 := zM (Q_NB341_368 (hon 8 (by kernel_rfl)))
          have NB368_341 := zM (Q_NB368_341 (hon 8 (by kernel_rfl)))
          have NB347_368 := zM (Q_NB347_368 (hon 8 (by kernel_rfl)))
          have NB368_347 := zM (Q_NB368_347 (hon 8 (by kernel_rfl)))
          have NB348_368 := zM (Q_NB348_368 (hon 8 (by kernel_rfl)))
          have NB368_348 := zM (Q_NB368_348 (hon 8 (by kernel_rfl)))
          have GW369 := zM (Q_GW369 (hon 9 (by kernel_rfl)))
          have GE369 := zM (Q_GE369 (hon 9 (by kernel_rfl)))
          have NB340_369 := zM (Q_NB340_369 (hon 9 (by kernel_rfl)))
          have NB369_340 := zM (Q_NB369_340 (hon 9 (by kernel_rfl)))
          have NB341_369 := zM (Q_NB341_369 (hon 9 (by kernel_rfl)))
          have NB369_341 := zM (Q_NB369_341 (hon 9 (by kernel_rfl)))
          have NB347_369 := zM (Q_NB347_369 (hon 9 (by kernel_rfl)))
          have NB369_347 := zM (Q_NB369_347 (hon 9 (by kernel_rfl)))
          have NB348_369 := zM (Q_NB348_369 (hon 9 (by kernel_rfl)))
          have NB369_348 := zM (Q_NB369_348 (hon 9 (by kernel_rfl)))
          have BK370 := zM (Q_BK370 (hon 10 (by kernel_rfl)) hb_)
          have GW370 := zM (Q_GW370 (hon 10 (by kernel_rfl)))
          have GE370 := zM (Q_GE370 (hon 10 (by kernel_rfl)))
          have NB340_370 := zM (Q_NB340_370 (hon 10 (by kernel_rfl)))
          have NB370_340 := zM (Q_NB370_340 (hon 10 (by kernel_rfl)))
          have NB341_370 := zM (Q_NB341_370 (hon 10 (by kernel_rfl)))
          have NB370_341 := zM (Q_NB370_341 (hon 10 (by kernel_rfl)))
          have NB347_370 := zM (Q_NB347_370 (hon 10 (by kernel_rfl)))
          have NB370_347 := zM (Q_NB370_347 (hon 10 (by kernel_rfl)))
          have NB348_370 := zM (Q_NB348_370 (hon 10 (by kernel_rfl)))
          have NB370_348 := zM (Q_NB370_348 (hon 10 (by kernel_rfl)))
          have BK368 := zM (Q_BK368_e11 (hon 11 (by kernel_rfl)))
          have BK369 := zM (Q_BK369_e12 (hon 12 (by kernel_rfl)))
          have hs49 : w'.cell? ⟨gb370, 0, none⟩ = some (.int .i64 0) := (blk_cell BK370.out 0).trans rfl
          have hfs49 := zF BK370.out 0
          have hns49_0 := NB340_370.out
          have hns49_1 := NB341_370.out
          have hns49_2 := NB347_370.out
          have hns49_3 := NB348_370.out
          have hns49_4 := NB368_370.out
          have hns49_5 := NB369_370.out
          have hms49_0 := NB370_340.out
          have hms49_1 := NB370_341.out
          have hms49_2 := NB370_347.out
          have hms49_3 := NB370_348.out
          have hms49_4 := NB370_368.out
          have hms49_5 := NB370_369.out
          have hs50 : w'.cell? ⟨gb370, 1, none⟩ = some (.int .i64 0) := (blk_cell BK370.out 1).trans rfl
          have hfs50 := zF BK370.out 1
          have hns50_0 := NB340_370.out
          have hns50_1 := NB341_370.out
          have hns50_2 := NB347_370.out
          have hns50_3 := NB348_370.out
          have hns50_4 := NB368_370.out
          have hns50_5 := NB369_370.out
          have hms50_0 := NB370_340.out
          have hms50_1 := NB370_341.out
          have hms50_2 := NB370_347.out
          have hms50_3 := NB370_348.out
          have hms50_4 := NB370_368.out
          have hms50_5 := NB370_369.out
          refine skip_ (w1 := ?_) (by rfl) rfl ?_ ?_
          rotate_left
          ·go_simp
           rfl
          refine hK.out _ _ ⟨v352, v356, v362, gb368, gb369, gb370, m1_, m2_, m3_, m4_, m5_, m8_, m9_, m10_, (by rw [ha.out]; exact putSel_none (v := undef) rfl), (by (with_reducible repeat (first | apply Kd.R_alloc | apply Kd.R_drewN | apply Kd.R_drew)); exact Kd.R_mono (Kd.R_far (p := ⟨gb370, 1, none⟩) (Kd.R_far (p := ⟨gb370, 0, none⟩) (Kd.R_types HO329.out BK370.out (by decide)) (fun _ hk => by first | exact hk.2 | exact hk | simp only [ne_eq, hk, not_false_eq_true, and_self]) (.int .i64 t366)) (fun _ hk => by first | exact hk.2 | exact hk | simp only [ne_eq, hk, not_false_eq_true, and_self]) (.int .i64 t367)) (fun _ hk => by first | exact ⟨hk.1.1, ⟨hk.1.2.1, ⟨hk.1.2.2.1, hk.1.2.2.2⟩⟩⟩ | exact hk | simp only [ne_eq, hk, not_false_eq_true, and_self])), (by (with_reducible repeat (first | apply Kd.R_alloc | apply Kd.R_drewN | apply Kd.R_drew)); exact Kd.R_mono (Kd.R_far (p := ⟨gb370, 1, none⟩) (Kd.R_far (p := ⟨gb370, 0, none⟩) (Kd.R_types HO333.out BK370.out (by decide)) (fun _ hk => by first | exact hk.2 | exact hk | simp only [ne_eq, hk, not_false_eq_true, and_self]) (.int .i64 t366)) (fun _ hk => by first | exact hk.2 | exact hk | simp only [ne_eq, hk, not_false_eq_true, and_self]) (.int .i64 t367)) (fun _ hk => by first | exact ⟨hk.1.1, ⟨hk.1.2.1, ⟨hk.1.2.2.1, hk.1.2.2.2⟩⟩⟩ | exact hk | simp only [ne_eq, hk, not_false_eq_true, and_self])), (by (with_reducible repeat (first | apply pzN | apply pzd | apply pza)); refine blk_far ?_ NB340_370.out _; (with_reducible repeat (first | apply pzN | apply pzd | apply pza)); refine blk_far ?_ NB340_370.out _; (with_reducible repeat (first | apply pzN | apply pzd | apply pza)); exact BK340.out), (by (with_reducible repeat (first | apply pzN | apply pzd | apply pza)); refine blk_far ?_ NB341_370.out _; (with_reducible repeat (first | apply pzN | apply pzd | apply pza)); refine blk_far ?_ NB341_370.out _; (with_reducible repeat (first | apply pzN | apply pzd | apply pza)); exact BK341.out), (by (with_reducible repeat (first | apply pzN | apply pzd | apply pza)); refine blk_far ?_ NB347_370.out _; (with_reducible repeat (first | apply pzN | apply pzd | apply pza)); refine blk_far ?_ NB347_370.out _; (with_reducible repeat (first | apply pzN | apply pzd | apply pza)); exact BK347.out), (by (with_reducible repeat (first | apply pzN | apply pzd | apply pza)); refine blk_far ?_ NB348_370.out _; (with_reducible repeat (first | apply pzN | apply pzd | apply pza)); refine blk_far ?_ NB348_370.out _; (with_reducible repeat (first | apply pzN | apply pzd | apply pza)); exact BK348.out), (by repeat (first | (with_reducible first | exact HB.out | apply pzA | apply pzD | apply pz1 | apply pzs | assumption) | exact HB.out)), fun _ _ => NB369_368.out, fun _ _ => NB368_369.out, fun _ _ => NB370_368.out, fun _ _ => NB368_370.out, fun _ _ => NB370_369.out, fun _ _ => NB369_370.out, fun _ => (by (with_reducible repeat (first | apply Kd.R_alloc | apply Kd.R_drewN | apply Kd.R_drew)); exact Kd.R_mono (Kd.R_far (p := ⟨gb370, 1, none⟩) (Kd.R_far (p := ⟨gb370, 0, none⟩) (Kd.R_types HO353.out BK370.out (by decide)) (fun _ hk => by first | exact hk.2 | exact hk | simp only [ne_eq, hk, not_false_eq_true, and_self]) (.int .i64 t366)) (fun _ hk => by first | exact hk.2 | exact hk | simp only [ne_eq, hk, not_false_eq_true, and_self]) (.int .i64 t367)) (fun _ hk => by first | exact ⟨hk.1.1, ⟨hk.1.2.1, ⟨hk.1.2.2.1, hk.1.2.2.2⟩⟩⟩ | exact hk | simp only [ne_eq, hk, not_false_eq_true, and_self])), fun _ => (by (with_reducible repeat (first | apply Kd.R_alloc | apply Kd.R_drewN | apply Kd.R_drew)); exact Kd.R_mono (Kd.R_far (p := ⟨gb370, 1, none⟩) (Kd.R_far (p := ⟨gb370, 0, none⟩) (Kd.R_types HO357.out BK370.out (by decide)) (fun _ hk => by first | exact hk.2 | exact hk | simp only [ne_eq, hk, not_false_eq_true, and_self]) (.int .i64 t366)) (fun _ hk => by first | exact hk.2 | exact hk | simp only [ne_eq, hk, not_false_eq_true, and_self]) (.int .i64 t367)) (fun _ hk => by first | exact ⟨hk.1.1, ⟨hk.1.2.1, ⟨hk.1.2.2.1, hk.1.2.2.2⟩⟩⟩ | exact hk | simp only [ne_eq, hk, not_false_eq_true, and_self])), fun _ => (by (with_reducible repeat (first | apply Kd.R_alloc | apply Kd.R_drewN | apply Kd.R_drew)); exact Kd.R_mono (Kd.R_far (p := ⟨gb370, 1, none⟩) (Kd.R_far (p := ⟨gb370, 0, none⟩) (Kd.R_types HO363.out BK370.out (by decide)) (fun _ hk => by first | exact hk.2 | exact hk | simp only [ne_eq, hk, not_false_eq_true, and_self]) (.int .i64 t366)) (fun _ hk => by first | exact hk.2 | exact hk | simp only [ne_eq, hk, not_false_eq_true, and_self]) (.int .i64 t367)) (fun _ hk => by first | exact ⟨hk.1.1, ⟨hk.1.2.1, ⟨hk.1.2.2.1, hk.1.2.2.2⟩⟩⟩ | exact hk | simp only [ne_eq, hk, not_false_eq_true, and_self])), fun _ h1_ => absurd ((hon 11 (by kernel_rfl)).symm.trans h1_) (by decide), fun _ => GW368.out, fun _ => GE368.out, fun _ => NB340_368.out, fun _ => NB368_340.out, fun _ => NB341_368.out, fun _ => NB368_341.out, fun _ => NB347_368.out, fun _ => NB368_347.out, fun _ => NB348_368.out, fun _ => NB368_348.out, fun _ h1_ => absurd ((hon 12 (by kernel_rfl)).symm.trans h1_) (by decide), fun _ => GW369.out, fun _ => GE369.out, fun _ => NB340_369.out, fun _ => NB369_340.out, fun _ => NB341_369.out, fun _ => NB369_341.out, fun _ => NB347_369.out, fun _ => NB369_347.out, fun _ => NB348_369.out, fun _ => NB369_348.out, fun _ h1_ => absurd ((up_self b 13).symm.trans h1_) (by decide), fun _ => GW370.out, fun _ => GE370.out, fun _ => NB340_370.out, fun _ => NB370_340.out, fun _ => NB341_370.out, fun _ => NB370_341.out, fun _ => NB347_370.out, fun _ => NB370_347.out, fun _ => NB348_370.out, fun _ => NB370_348.out, fun _ => (by (with_reducible repeat (first | apply pzN | apply pzd | apply pza)); refine blk_far ?_ NB368_370.out _; (with_reducible repeat (first | apply pzN | apply pzd | apply pza)); refine blk_far ?_ NB368_370.out _; (with_reducible repeat (first | apply pzN | apply pzd | apply pza)); exact BK368.out), fun _ => (by (with_reducible repeat (first | apply pzN | apply pzd | apply pza)); refine blk_far ?_ NB369_370.out _; (with_reducible repeat (first | apply pzN | apply pzd | apply pza)); refine blk_far ?_ NB369_370.out _; (with_reducible repeat (first | apply pzN | apply pzd | apply pza)); exact BK369.out), fun _ => (by (with_reducible repeat (first | apply pzN | apply pzd | apply pza)); refine blk_put (cs := #[.int .i64 t366, .int .i64 0]) ?_ 1 _ rfl; (with_reducible repeat (first | apply pzN | apply pzd | apply pza)); refine blk_put (cs := #[.int .i64 0, .int .i64 0]) ?_ 0 _ rfl; (with_reducible repeat (first | apply pzN | apply pzd | apply pza)); exact BK370.out), Q_X1_, Q_X2_, Q_X3_, Q_X4_, Q_X5_, Q_X8_, Q_X9_, Q_X10_⟩
         exact steps_nil
        rintro b a w50 hall ⟨v352, v356, v362, gb368, gb369, gb370, m1_, m2_, m3_, m4_, m5_, m8_, m9_, m10_, ha, Q_HO329, Q_HO333, Q_BK340, Q_BK341, Q_BK347, Q_BK348, Q_HB, Q_NB369_368, Q_NB368_369, Q_NB370_368, Q_NB368_370, Q_NB370_369, Q_NB369_370, Q_HO353, Q_HO357, Q_HO363, Q_BK368, Q_GW368, Q_GE368, Q_NB340_368, Q_NB368_340, Q_NB341_368, Q_NB368_341, Q_NB347_368, Q_NB368_347, Q_NB348_368, Q_NB368_348, Q_BK369, Q_GW369, Q_GE369, Q_NB340_369, Q_NB369_340, Q_NB341_369, Q_NB369_341, Q_NB347_369, Q_NB369_347, Q_NB348_369, Q_NB369_348, Q_BK370, Q_GW370, Q_GE370, Q_NB340_370, Q_NB370_340, Q_NB341_370, Q_NB370_341, Q_NB347_370, Q_NB370_347, Q_NB348_370, Q_NB370_348, Q_BK368_e11, Q_BK369_e12, Q_BK370_e13, Q_X1_, Q_X2_, Q_X3_, Q_X4_, Q_X5_, Q_X8_, Q_X9_, Q_X10_⟩
        clear BK340 BK341 BK347 BK348 HB HO329 HO333
        have hb0_ := hall 0 (by kernel_rfl)
        have hb1_ := hall 1 (by kernel_rfl)
        have hb2_ := hall 2 (by kernel_rfl)
        have hb3_ := hall 3 (by kernel_rfl)
        have hb4_ := hall 4 (by kernel_rfl)
        have hb5_ := hall 5 (by kernel_rfl)
        have hb6_ := hall 6 (by kernel_rfl)
        have hb7_ := hall 7 (by kernel_rfl)
        have hb8_ := hall 8 (by kernel_rfl)
        have hb9_ := hall 9 (by kernel_rfl)
        have hb10_ := hall 10 (by kernel_rfl)
        have hb11_ := hall 11 (by kernel_rfl)
        have hb12_ := hall 12 (by kernel_rfl)
        have hb13_ := hall 13 (by kernel_rfl)
        subst ha
        obtain rfl := Q_X1_ hb1_
        obtain rfl := Q_X2_ hb2_
        obtain rfl := Q_X3_ hb3_
        obtain rfl := Q_X4_ hb4_
        obtain rfl := Q_X5_ hb5_
        obtain rfl := Q_X8_ hb8_
        obtain rfl := Q_X9_ hb9_
        obtain rfl := Q_X10_ hb10_
        simp only [putSel, hb0_, hb1_, hb2_, hb3_, hb4_, hb5_, hb6_, hb7_, hb8_, hb9_, hb10_, hb11_, hb12_, hb13_, if_true, Act.put, zS, z0, z1]
        have HO329 := zM Q_HO329
        clear Q_HO329
        have HO333 := zM Q_HO333
        clear Q_HO333
        have BK340 := zM Q_BK340
        clear Q_BK340
        have BK341 := zM Q_BK341
        clear Q_BK341
        have BK347 := zM Q_BK347
        clear Q_BK347
        have BK348 := zM Q_BK348
        clear Q_BK348
        have HB := zM Q_HB
        clear Q_HB
        have NB369_368 := zM (Q_NB369_368 hb8_ hb9_)
        clear Q_NB369_368
        have NB368_369 := zM (Q_NB368_369 hb8_ hb9_)
        clear Q_NB368_369
        have NB370_368 := zM (Q_NB370_368 hb8_ hb10_)
        clear Q_NB370_368
        have NB368_370 := zM (Q_NB368_370 hb8_ hb10_)
        clear Q_NB368_370
        have NB370_369 := zM (Q_NB370_369 hb9_ hb10_)
        clear Q_NB370_369
        have NB369_370 := zM (Q_NB369_370 hb9_ hb10_)
        clear Q_NB369_370
        have HO353 := zM (Q_HO353 hb1_)
        clear Q_HO353
        have HO357 := zM (Q_HO357 hb1_)
        clear Q_HO357
        have HO363 := zM (Q_HO363 hb3_)
        clear Q_HO363
        clear Q_BK368
        have GW368 := zM (Q_GW368 hb8_)
        clear Q_GW368
        have GE368 := zM (Q_GE368 hb8_)
        clear Q_GE368
        have NB340_368 := zM (Q_NB340_368 hb8_)
        clear Q_NB340_368
        have NB368_340 := zM (Q_NB368_340 hb8_)
        clear Q_NB368_340
        have NB341_368 := zM (Q_NB341_368 hb8_)
        clear Q_NB341_368
        have NB368_341 := zM (Q_NB368_341 hb8_)
        clear Q_NB368_341
        have NB347_368 := zM (Q_NB347_368 hb8_)
        clear Q_NB347_368
        have NB368_347 := zM (Q_NB368_347 hb8_)
        clear Q_NB368_347
        have NB348_368 := zM (Q_NB348_368 hb8_)
        clear Q_NB348_368
        have NB368_348 := zM (Q_NB368_348 hb8_)
        clear Q_NB368_348
        clear Q_BK369
        have GW369 := zM (Q_GW369 hb9_)
        clear Q_GW369
        have GE369 := zM (Q_GE369 hb9_)
        clear Q_GE369
        have NB340_369 := zM (Q_NB340_369 hb9_)
        clear Q_NB340_369
        have NB369_340 := zM (Q_NB369_340 hb9_)
        clear Q_NB369_340
        have NB341_369 := zM (Q_NB341_369 hb9_)
        clear Q_NB341_369
        have NB369_341 := zM (Q_NB369_341 hb9_)
        clear Q_NB369_341
        have NB347_369 := zM (Q_NB347_369 hb9_)
        clear Q_NB347_369
        have NB369_347 := zM (Q_NB369_347 hb9_)
        clear Q_NB369_347
        have NB348_369 := zM (Q_NB348_369 hb9_)
        clear Q_NB348_369
        have NB369_348 := zM (Q_NB369_348 hb9_)
        clear Q_NB369_348
        clear Q_BK370
        have GW370 := zM (Q_GW370 hb10_)
        clear Q_GW370
        have GE370 := zM (Q_GE370 hb10_)
        clear Q_GE370
        have NB340_370 := zM (Q_NB340_370 hb10_)
        clear Q_NB340_370
        have NB370_340 := zM (Q_NB370_340 hb10_)
        clear Q_NB370_340
        have NB341_370 := zM (Q_NB341_370 hb10_)
        clear Q_NB341_370
        have NB370_341 := zM (Q_NB370_341 hb10_)
        clear Q_NB370_341
        have NB347_370 := zM (Q_NB347_370 hb10_)
        clear Q_NB347_370
        have NB370_347 := zM (Q_NB370_347 hb10_)
        clear Q_NB370_347
        have NB348_370 := zM (Q_NB348_370 hb10_)
        clear Q_NB348_370
        have NB370_348 := zM (Q_NB370_348 hb10_)
        clear Q_NB370_348
        have BK368 := zM (Q_BK368_e11 hb11_)
        clear Q_BK368_e11
        have BK369 := zM (Q_BK369_e12 hb12_)
        clear Q_BK369_e12
        have BK370 := zM (Q_BK370_e13 hb13_)
        clear Q_BK370_e13
        clear hall hb0_ hb1_ hb2_ hb3_ hb4_ hb5_ hb6_ hb7_ hb8_ hb9_ hb10_ hb11_ hb12_ hb13_
        try go_wp2_with (first | ((with_reducible refine gate_callee (f := 41) rfl ?_); refine goesL_ (some 31) rfl rfl Try.func41 (by kernel_rfl) rfl #[.int .i64 0] rfl (by (try simp only [zT, zC, zN]); first | done | rfl | (simp only [zR, zL]; rfl)) ?_; (with_reducible refine (brindlewoodlaw4_whole.calls k 0 t371 t372 t373 t376 t377 t380 t381 _ A6.out).mono ?_); rintro e w51 ⟨v374, v378, rfl, ho0, ho1, hb⟩; refine ⟨_, rfl, ?_⟩; have n0_ := zM (Kd.R_mono (Kd.R_told (Kd.R_told (Kd.R_old HO329.out hb) (Kd.R_base ho0)) (Kd.R_base ho1)) (fun _ h_ => h_.1)); have n1_ := zM (Kd.R_mono (Kd.R_told (Kd.R_told (Kd.R_old HO333.out hb) (Kd.R_base ho0)) (Kd.R_base ho1)) (fun _ h_ => h_.1)); have n2_ := zM (Kd.R_mono (Kd.R_told (Kd.R_told (Kd.R_old HO353.out hb) (Kd.R_base ho0)) (Kd.R_base ho1)) (fun _ h_ => h_.1)); have n3_ := zM (Kd.R_mono (Kd.R_told (Kd.R_told (Kd.R_old HO357.out hb) (Kd.R_base ho0)) (Kd.R_base ho1)) (fun _ h_ => h_.1)); have n4_ := zM (Kd.R_mono (Kd.R_told (Kd.R_told (Kd.R_old HO363.out hb) (Kd.R_base ho0)) (Kd.R_base ho1)) (fun _ h_ => h_.1)); have n5_ := zM (Kd.R_lower (Kd.R_new' (Kd.R_new' (Kd.R_new' (Kd.R_new' (Kd.R_new' ho0 (Kd.R_lt HO329.out)) (Kd.R_lt HO333.out)) (Kd.R_lt HO353.out)) (Kd.R_lt HO357.out)) (Kd.R_lt HO363.out)) (below_size (by repeat (first | (with_reducible first | exact HB.out | apply pzA | apply pzD | apply pz1 | apply pzs | assumption) | exact HB.out)))); have n6_ := zM (Kd.R_lower (Kd.R_new' (Kd.R_new' (Kd.R_new' (Kd.R_new' (Kd.R_new' ho1 (Kd.R_lt HO329.out)) (Kd.R_lt HO333.out)) (Kd.R_lt HO353.out)) (Kd.R_lt HO357.out)) (Kd.R_lt HO363.out)) (below_size (by repeat (first | (with_reducible first | exact HB.out | apply pzA | apply pzD | apply pz1 | apply pzs | assumption) | exact HB.out)))); have n7_ := pzb BK340 hb; have n8_ := pzb BK341 hb; have n9_ := pzb BK347 hb; have n10_ := pzb BK348 hb; have n11_ := pzb BK368 hb; have n12_ := pzb BK369 hb; have n13_ := pzb BK370 hb; have n14_ := zM (below_step (by repeat (first | (with_reducible first | exact HB.out | apply pzA | apply pzD | apply pz1 | apply pzs | assumption) | exact HB.out)) hb); clear HO329; clear HO333; clear HO353; clear HO357; clear HO363; clear BK340; clear BK341; clear BK347; clear BK348; clear BK368; clear BK369; clear BK370; clear HB; have HO329 := n0_; have HO333 := n1_; have HO353 := n2_; have HO357 := n3_; have HO363 := n4_; have HO375 := n5_; have HO379 := n6_; have BK340 := n7_; have BK341 := n8_; have BK347 := n9_; have BK348 := n10_; have BK368 := n11_; have BK369 := n12_; have BK370 := n13_; have HB := n14_; clear n0_ n1_ n2_ n3_ n4_ n5_ n6_ n7_ n8_ n9_ n10_ n11_ n12_ n13_ n14_; (try clear hb); (try clear hb2); (try clear hk); (try clear hi); (try clear ho0); (try clear ho1); obtain ⟨Ao52, co52, eo52⟩ := Kd.R_slice HO375.out; subst eo52) | ((with_reducible refine gate_callee (f := 14) rfl ?_); refine goesL_ (some 33) rfl rfl Try.func14 (by kernel_rfl) rfl #[.agg #[.bool t372, .slice Ao52 t373.length co52]] rfl (by (try simp only [zT, zC, zN]); first | done | rfl | (simp only [zR, zL]; rfl)) ?_; (with_reducible refine (brindlewoodref4_Seeded.calls k t372 _ _ t373 t382 t383 _ ?side1 ?side2 A7.out).mono ?_); (case side1 => repeat (first | exact (Kd.R_reads' HO375.out).2.2 | (with_reducible refine Kd.C_alloc ?_ _) | (with_reducible refine Kd.C_drewN ?_ _) | (with_reducible refine Kd.C_drew ?_))); (case side2 => exact (Kd.R_reads' HO375.out).2.1); rintro e w53 ⟨rfl, hb⟩; refine ⟨_, rfl, ?_⟩; replace HO329 := zM (Kd.R_below HO329.out hb); replace HO333 := zM (Kd.R_below HO333.out hb); replace HO353 := zM (Kd.R_below HO353.out hb); replace HO357 := zM (Kd.R_below HO357.out hb); replace HO363 := zM (Kd.R_below HO363.out hb); replace HO375 := zM (Kd.R_below HO375.out hb); replace HO379 := zM (Kd.R_below HO379.out hb); replace BK340 := pzb BK340 hb; replace BK341 := pzb BK341 hb; replace BK347 := pzb BK347 hb; replace BK348 := pzb BK348 hb; replace BK368 := pzb BK368 hb; replace BK369 := pzb BK369 hb; replace BK370 := pzb BK370 hb; replace HB := zM (below_step (by repeat (first | (with_reducible first | exact HB.out | apply pzA | apply pzD | apply pz1 | apply pzs | assumption) | exact HB.out)) hb); (try clear hb); (try clear hb2); (try clear hk); (try clear hi)) | ((with_reducible refine gate_dst (N := 9) rfl ?_); refine box_event ?hg (N := 9) ?hd (cs := #[.int .u64 0, .int .u64 0]) (t := 40) ?hr ?_; (case hd => rfl); (case hg => rfl); (case hr => first | (go_simp; done) | (go_simp; rfl)); intro gb384 hg w54 hbox hb; have BK384 := zM (hbox); have GW384 := zM ((by rw [hg]; exact (below_size (by repeat (first | (with_reducible first | exact HB.out | apply pzA | apply pzD | apply pz1 | apply pzs | assumption) | exact HB.out))) : w.heap.size ≤ gb384)); have GE384 := GW384; have NB340_384 := pzf BK340 hg; have NB384_340 := pzg BK340 hg; have NB341_384 := pzf BK341 hg; have NB384_341 := pzg BK341 hg; have NB347_384 := pzf BK347 hg; have NB384_347 := pzg BK347 hg; have NB348_384 := pzf BK348 hg; have NB384_348 := pzg BK348 hg; have NB368_384 := pzf BK368 hg; have NB384_368 := pzg BK368 hg; have NB369_384 := pzf BK369 hg; have NB384_369 := pzg BK369 hg; have NB370_384 := pzf BK370 hg; have NB384_370 := pzg BK370 hg; replace HO329 := zM (Kd.R_below HO329.out hb); replace HO333 := zM (Kd.R_below HO333.out hb); replace HO353 := zM (Kd.R_below HO353.out hb); replace HO357 := zM (Kd.R_below HO357.out hb); replace HO363 := zM (Kd.R_below HO363.out hb); replace HO375 := zM (Kd.R_below HO375.out hb); replace HO379 := zM (Kd.R_below HO379.out hb); replace BK340 := pzb BK340 hb; replace BK341 := pzb BK341 hb; replace BK347 := pzb BK347 hb; replace BK348 := pzb BK348 hb; replace BK368 := pzb BK368 hb; replace BK369 := pzb BK369 hb; replace BK370 := pzb BK370 hb; replace HB := zM (below_step (by repeat (first | (with_reducible first | exact HB.out | apply pzA | apply pzD | apply pz1 | apply pzs | assumption) | exact HB.out)) hb); clear hb hbox hg; have hnb55 := NB384_340.out; have hnc55 := NB340_384.out; have hnb56 := NB384_341.out; have hnc56 := NB341_384.out; have hnb57 := NB384_347.out; have hnc57 := NB347_384.out; have hnb58 := NB384_348.out; have hnc58 := NB348_384.out; have hnb59 := NB384_368.out; have hnc59 := NB368_384.out; have hnb60 := NB384_369.out; have hnc60 := NB369_384.out; have hnb61 := NB384_370.out; have hnc61 := NB370_384.out; have hcz62_0 := pzc (v := .int .u64 0) BK384 0 rfl; have hcz62_1 := pzc (v := .int .u64 0) BK384 1 rfl; have hfz62_0 := zF BK384.out 0; have hfz62_1 := zF BK384.out 1) | ((with_reducible refine gate_callee (f := 15) rfl ?_); refine goesL_ (some 35) rfl rfl Try.func15 (by kernel_rfl) rfl #[.pointer (some ⟨gb384, 0, none⟩)] rfl (by (try simp only [zT, zC, zN]); first | done | rfl | (simp only [zR, zL]; rfl)) ?_; (with_reducible refine (brindlewoodref4_Random_Draw.calls gb384 t382 t383 t385 t386 t387 w _ ?side1 ?side2 A8.out).mono ?_); (case side1 => exact (zM (show IsS40 w _ gb384 t382 t383 from ⟨(by (with_reducible repeat (first | apply pzN | apply pzd | apply pza)); refine blk_put (cs := #[.int .u64 t382, .int .u64 0]) ?_ 1 _ rfl; (with_reducible repeat (first | apply pzN | apply pzd | apply pza)); refine blk_put (cs := #[.int .u64 0, .int .u64 0]) ?_ 0 _ rfl; (with_reducible repeat (first | apply pzN | apply pzd | apply pza)); exact BK384.out), GE384.out⟩)).out); (case side2 => repeat (first | (with_reducible first | exact HB.out | apply pzA | apply pzD | apply pz1 | apply pzs | assumption) | exact HB.out)); rintro e w63 ⟨rfl, hi, hb, hk⟩; refine ⟨_, rfl, ?_⟩; replace HO329 := zM (Kd.R_mono (Kd.R_keep (IsS40.apart (show IsS40 w _ gb384 t382 t383 from by exact (zM (show IsS40 w _ gb384 t382 t383 from ⟨(by (with_reducible repeat (first | apply pzN | apply pzd | apply pza)); refine blk_put (cs := #[.int .u64 t382, .int .u64 0]) ?_ 1 _ rfl; (with_reducible repeat (first | apply pzN | apply pzd | apply pza)); refine blk_put (cs := #[.int .u64 0, .int .u64 0]) ?_ 0 _ rfl; (with_reducible repeat (first | apply pzN | apply pzd | apply pza)); exact BK384.out), GE384.out⟩)).out) (by (with_reducible repeat (first | apply Kd.R_alloc | apply Kd.R_drewN | apply Kd.R_drew)); exact (Kd.R_mono (Kd.R_far (p := ⟨gb384, 1, none⟩) (Kd.R_far (p := ⟨gb384, 0, none⟩) (Kd.R_types HO329.out BK384.out (by decide)) (fun _ hk => hk.2) (.int .u64 t382)) (fun _ hk => hk.2) (.int .u64 t383)) (fun _ h_ => h_.1))) (by decide)) hk (fun _ h => h.2)) (fun _ h => h.1)); replace HO333 := zM (Kd.R_mono (Kd.R_keep (IsS40.apart (show IsS40 w _ gb384 t382 t383 from by exact (zM (show IsS40 w _ gb384 t382 t383 from ⟨(by (with_reducible repeat (first | apply pzN | apply pzd | apply pza)); refine blk_put (cs := #[.int .u64 t382, .int .u64 0]) ?_ 1 _ rfl; (with_reducible repeat (first | apply pzN | apply pzd | apply pza)); refine blk_put (cs := #[.int .u64 0, .int .u64 0]) ?_ 0 _ rfl; (with_reducible repeat (first | apply pzN | apply pzd | apply pza)); exact BK384.out), GE384.out⟩)).out) (by (with_reducible repeat (first | apply Kd.R_alloc | apply Kd.R_drewN | apply Kd.R_drew)); exact (Kd.R_mono (Kd.R_far (p := ⟨gb384, 1, none⟩) (Kd.R_far (p := ⟨gb384, 0, none⟩) (Kd.R_types HO333.out BK384.out (by decide)) (fun _ hk => hk.2) (.int .u64 t382)) (fun _ hk => hk.2) (.int .u64 t383)) (fun _ h_ => h_.1))) (by decide)) hk (fun _ h => h.2)) (fun _ h => h.1)); replace BK340 := zM (KeepBut.blk hk (g' := gb340) (o := .cells #[.int .u64 t336, .int .u64 t337] 27 (0, 0)) (by (with_reducible repeat (first | apply pzN | apply pzd | apply pza)); refine blk_far ?_ NB340_384.out _; (with_reducible repeat (first | apply pzN | apply pzd | apply pza)); refine blk_far ?_ NB340_384.out _; (with_reducible repeat (first | apply pzN | apply pzd | apply pza)); exact BK340.out) NB340_384.out (by simp)); replace BK341 := zM (KeepBut.blk hk (g' := gb341) (o := .cells #[.int .i64 t338, .int .i64 t339] 29 (0, 0)) (by (with_reducible repeat (first | apply pzN | apply pzd | apply pza)); refine blk_far ?_ NB341_384.out _; (with_reducible repeat (first | apply pzN | apply pzd | apply pza)); refine blk_far ?_ NB341_384.out _; (with_reducible repeat (first | apply pzN | apply pzd | apply pza)); exact BK341.out) NB341_384.out (by simp)); replace BK347 := zM (KeepBut.blk hk (g' := gb347) (o := .cells #[.int .u64 t343, .int .u64 t344] 27 (0, 0)) (by (with_reducible repeat (first | apply pzN | apply pzd | apply pza)); refine blk_far ?_ NB347_384.out _; (with_reducible repeat (first | apply pzN | apply pzd | apply pza)); refine blk_far ?_ NB347_384.out _; (with_reducible repeat (first | apply pzN | apply pzd | apply pza)); exact BK347.out) NB347_384.out (by simp)); replace BK348 := zM (KeepBut.blk hk (g' := gb348) (o := .cells #[.int .i64 t345, .int .i64 t346] 29 (0, 0)) (by (with_reducible repeat (first | apply pzN | apply pzd | apply pza)); refine blk_far ?_ NB348_384.out _; (with_reducible repeat (first | apply pzN | apply pzd | apply pza)); refine blk_far ?_ NB348_384.out _; (with_reducible repeat (first | apply pzN | apply pzd | apply pza)); exact BK348.out) NB348_384.out (by simp)); replace HO353 := zM (Kd.R_mono (Kd.R_keep (IsS40.apart (show IsS40 w _ gb384 t382 t383 from by exact (zM (show IsS40 w _ gb384 t382 t383 from ⟨(by (with_reducible repeat (first | apply pzN | apply pzd | apply pza)); refine blk_put (cs := #[.int .u64 t382, .int .u64 0]) ?_ 1 _ rfl; (with_reducible repeat (first | apply pzN | apply pzd | apply pza)); refine blk_put (cs := #[.int .u64 0, .int .u64 0]) ?_ 0 _ rfl; (with_reducible repeat (first | apply pzN | apply pzd | apply pza)); exact BK384.out), GE384.out⟩)).out) (by (with_reducible repeat (first | apply Kd.R_alloc | apply Kd.R_drewN | apply Kd.R_drew)); exact (Kd.R_mono (Kd.R_far (p := ⟨gb384, 1, none⟩) (Kd.R_far (p := ⟨gb384, 0, none⟩) (Kd.R_types HO353.out BK384.out (by decide)) (fun _ hk => hk.2) (.int .u64 t382)) (fun _ hk => hk.2) (.int .u64 t383)) (fun _ h_ => h_.1))) (by decide)) hk (fun _ h => h.2)) (fun _ h => h.1)); replace HO357 := zM (Kd.R_mono (Kd.R_keep (IsS40.apart (show IsS40 w _ gb384 t382 t383 from by exact (zM (show IsS40 w _ gb384 t382 t383 from ⟨(by (with_reducible repeat (first | apply pzN | apply pzd | apply pza)); refine blk_put (cs := #[.int .u64 t382, .int .u64 0]) ?_ 1 _ rfl; (with_reducible repeat (first | apply pzN | apply pzd | apply pza)); refine blk_put (cs := #[.int .u64 0, .int .u64 0]) ?_ 0 _ rfl; (with_reducible repeat (first | apply pzN | apply pzd | apply pza)); exact BK384.out), GE384.out⟩)).out) (by (with_reducible repeat (first | apply Kd.R_alloc | apply Kd.R_drewN | apply Kd.R_drew)); exact (Kd.R_mono (Kd.R_far (p := ⟨gb384, 1, none⟩) (Kd.R_far (p := ⟨gb384, 0, none⟩) (Kd.R_types HO357.out BK384.out (by decide)) (fun _ hk => hk.2) (.int .u64 t382)) (fun _ hk => hk.2) (.int .u64 t383)) (fun _ h_ => h_.1))) (by decide)) hk (fun _ h => h.2)) (fun _ h => h.1)); replace HO363 := zM (Kd.R_mono (Kd.R_keep (IsS40.apart (show IsS40 w _ gb384 t382 t383 from by exact (zM (show IsS40 w _ gb384 t382 t383 from ⟨(by (with_reducible repeat (first | apply pzN | apply pzd | apply pza)); refine blk_put (cs := #[.int .u64 t382, .int .u64 0]) ?_ 1 _ rfl; (with_reducible repeat (first | apply pzN | apply pzd | apply pza)); refine blk_put (cs := #[.int .u64 0, .int .u64 0]) ?_ 0 _ rfl; (with_reducible repeat (first | apply pzN | apply pzd | apply pza)); exact BK384.out), GE384.out⟩)).out) (by (with_reducible repeat (first | apply Kd.R_alloc | apply Kd.R_drewN | apply Kd.R_drew)); exact (Kd.R_mono (Kd.R_far (p := ⟨gb384, 1, none⟩) (Kd.R_far (p := ⟨gb384, 0, none⟩) (Kd.R_types HO363.out BK384.out (by decide)) (fun _ hk => hk.2) (.int .u64 t382)) (fun _ hk => hk.2) (.int .u64 t383)) (fun _ h_ => h_.1))) (by decide)) hk (fun _ h => h.2)) (fun _ h => h.1)); replace BK368 := zM (KeepBut.blk hk (g' := gb368) (o := .cells #[.bool t360, v362] 24 (0, 0)) (by (with_reducible repeat (first | apply pzN | apply pzd | apply pza)); refine blk_far ?_ NB368_384.out _; (with_reducible repeat (first | apply pzN | apply pzd | apply pza)); refine blk_far ?_ NB368_384.out _; (with_reducible repeat (first | apply pzN | apply pzd | apply pza)); exact BK368.out) NB368_384.out (by simp)); replace BK369 := zM (KeepBut.blk hk (g' := gb369) (o := .cells #[.int .u64 t364, .int .u64 t365] 27 (0, 0)) (by (with_reducible repeat (first | apply pzN | apply pzd | apply pza)); refine blk_far ?_ NB369_384.out _; (with_reducible repeat (first | apply pzN | apply pzd | apply pza)); refine blk_far ?_ NB369_384.out _; (with_reducible repeat (first | apply pzN | apply pzd | apply pza)); exact BK369.out) NB369_384.out (by simp)); replace BK370 := zM (KeepBut.blk hk (g' := gb370) (o := .cells #[.int .i64 t366, .int .i64 t367] 29 (0, 0)) (by (with_reducible repeat (first | apply pzN | apply pzd | apply pza)); refine blk_far ?_ NB370_384.out _; (with_reducible repeat (first | apply pzN | apply pzd | apply pza)); refine blk_far ?_ NB370_384.out _; (with_reducible repeat (first | apply pzN | apply pzd | apply pza)); exact BK370.out) NB370_384.out (by simp)); replace HO375 := zM (Kd.R_mono (Kd.R_keep (IsS40.apart (show IsS40 w _ gb384 t382 t383 from by exact (zM (show IsS40 w _ gb384 t382 t383 from ⟨(by (with_reducible repeat (first | apply pzN | apply pzd | apply pza)); refine blk_put (cs := #[.int .u64 t382, .int .u64 0]) ?_ 1 _ rfl; (with_reducible repeat (first | apply pzN | apply pzd | apply pza)); refine blk_put (cs := #[.int .u64 0, .int .u64 0]) ?_ 0 _ rfl; (with_reducible repeat (first | apply pzN | apply pzd | apply pza)); exact BK384.out), GE384.out⟩)).out) (by (with_reducible repeat (first | apply Kd.R_alloc | apply Kd.R_drewN | apply Kd.R_drew)); exact (Kd.R_mono (Kd.R_far (p := ⟨gb384, 1, none⟩) (Kd.R_far (p := ⟨gb384, 0, none⟩) (Kd.R_types HO375.out BK384.out (by decide)) (fun _ hk => hk.2) (.int .u64 t382)) (fun _ hk => hk.2) (.int .u64 t383)) (fun _ h_ => h_.1))) (by decide)) hk (fun _ h => h.2)) (fun _ h => h.1)); replace HO379 := zM (Kd.R_mono (Kd.R_keep (IsS40.apart (show IsS40 w _ gb384 t382 t383 from by exact (zM (show IsS40 w _ gb384 t382 t383 from ⟨(by (with_reducible repeat (first | apply pzN | apply pzd | apply pza)); refine blk_put (cs := #[.int .u64 t382, .int .u64 0]) ?_ 1 _ rfl; (with_reducible repeat (first | apply pzN | apply pzd | apply pza)); refine blk_put (cs := #[.int .u64 0, .int .u64 0]) ?_ 0 _ rfl; (with_reducible repeat (first | apply pzN | apply pzd | apply pza)); exact BK384.out), GE384.out⟩)).out) (by (with_reducible repeat (first | apply Kd.R_alloc | apply Kd.R_drewN | apply Kd.R_drew)); exact (Kd.R_mono (Kd.R_far (p := ⟨gb384, 1, none⟩) (Kd.R_far (p := ⟨gb384, 0, none⟩) (Kd.R_types HO379.out BK384.out (by decide)) (fun _ hk => hk.2) (.int .u64 t382)) (fun _ hk => hk.2) (.int .u64 t383)) (fun _ h_ => h_.1))) (by decide)) hk (fun _ h => h.2)) (fun _ h => h.1)); replace HB := zM (hb); replace BK384 := zM (hi.1); (try clear hb); (try clear hb2); (try clear hk); (try clear hi); have hnb64 := NB341_368.out; have hnc64 := NB368_341.out; have hnb65 := NB341_369.out; have hnc65 := NB369_341.out; have hnb66 := NB341_370.out; have hnc66 := NB370_341.out; have hcz67_0 := pzc (v := .int .i64 t338) BK341 0 rfl; have hcz67_1 := pzc (v := .int .i64 t339) BK341 1 rfl; have hfz67_0 := zF BK341.out 0; have hfz67_1 := zF BK341.out 1; have hnb68 := NB348_368.out; have hnc68 := NB368_348.out; have hnb69 := NB348_369.out; have hnc69 := NB369_348.out; have hnb70 := NB348_370.out; have hnc70 := NB370_348.out; have hcz71_0 := pzc (v := .int .i64 t345) BK348 0 rfl; have hcz71_1 := pzc (v := .int .i64 t346) BK348 1 rfl; have hfz71_0 := zF BK348.out 0; have hfz71_1 := zF BK348.out 1; have hnb72 := NB370_340.out; have hnc72 := NB340_370.out; have hnb73 := NB370_347.out; have hnc73 := NB347_370.out; have hnb74 := NB370_368.out; have hnc74 := NB368_370.out; have hnb75 := NB370_369.out; have hnc75 := NB369_370.out; have hcz76_0 := pzc (v := .int .i64 t366) BK370 0 rfl; have hcz76_1 := pzc (v := .int .i64 t367) BK370 1 rfl; have hfz76_0 := zF BK370.out 0; have hfz76_1 := zF BK370.out 1; have hnb77 := NB340_368.out; have hnc77 := NB368_340.out; have hnb78 := NB340_369.out; have hnc78 := NB369_340.out; have hcz79_0 := pzc (v := .int .u64 t336) BK340 0 rfl; have hcz79_1 := pzc (v := .int .u64 t337) BK340 1 rfl; have hfz79_0 := zF BK340.out 0; have hfz79_1 := zF BK340.out 1; have hnb80 := NB347_368.out; have hnc80 := NB368_347.out; have hnb81 := NB347_369.out; have hnc81 := NB369_347.out; have hcz82_0 := pzc (v := .int .u64 t343) BK347 0 rfl; have hcz82_1 := pzc (v := .int .u64 t344) BK347 1 rfl; have hfz82_0 := zF BK347.out 0; have hfz82_1 := zF BK347.out 1; have hcz83_0 := pzc (v := .int .u64 t386) BK384 0 rfl; have hcz83_1 := pzc (v := .int .u64 t387) BK384 1 rfl; have hfz83_0 := zF BK384.out 0; have hfz83_1 := zF BK384.out 1; have hnb84 := NB368_369.out; have hnc84 := NB369_368.out; have hcz85_0 := pzc (v := .bool t360) BK368 0 rfl; have hcz85_1 := pzc (v := v362) BK368 1 rfl; have hfz85_0 := zF BK368.out 0; have hfz85_1 := zF BK368.out 1; obtain ⟨Ao86, co86, eo86⟩ := Kd.R_slice HO363.out; subst eo86) | (go_at_call 18; (with_reducible refine (brindlewoodref3_NoInt.calls t360 _ _ t361 true _ ?side1 ?side2 A15.out).mono ?_); (case side1 => repeat (first | exact (Kd.R_reads' HO363.out).2.2 | (with_reducible refine Kd.C_alloc ?_ _) | (with_reducible refine Kd.C_drewN ?_ _) | (with_reducible refine Kd.C_drew ?_))); (case side2 => exact (Kd.R_reads' HO363.out).2.1); rintro e w87 ⟨rfl, hb⟩; replace HO329 := zM (Kd.R_below HO329.out hb); replace HO333 := zM (Kd.R_below HO333.out hb); replace HO353 := zM (Kd.R_below HO353.out hb); replace HO357 := zM (Kd.R_below HO357.out hb); replace HO363 := zM (Kd.R_below HO363.out hb); replace HO375 := zM (Kd.R_below HO375.out hb); replace HO379 := zM (Kd.R_below HO379.out hb); replace BK340 := pzb BK340 hb; replace BK369 := pzb BK369 hb; replace HB := zM (below_step (by repeat (first | (with_reducible first | exact HB.out | apply pzA | apply pzD | apply pz1 | apply pzs | assumption) | exact HB.out)) hb); (try clear hb); (try clear hb2); (try clear hk); (try clear hi); have hcz88_0 := pzc (v := .int .u64 t364) BK369 0 rfl; have hcz88_1 := pzc (v := .int .u64 t365) BK369 1 rfl; have hfz88_0 := zF BK369.out 0; have hfz88_1 := zF BK369.out 1; have hcz89_0 := pzc (v := .int .u64 t336) BK340 0 rfl; have hcz89_1 := pzc (v := .int .u64 t337) BK340 1 rfl; have hfz89_0 := zF BK340.out 0; have hfz89_1 := zF BK340.out 1))
        go_ret
        exact ⟨by first | rfl | (simp [errW_none, errW_some] <;> rfl) | (simp [*, errW_none, errW_some] <;> rfl), by repeat (first | (with_reducible first | exact HB.out | apply pzA | apply pzD | apply pz1 | apply pzs | assumption) | exact HB.out)⟩
       ·replace c16 := Bool.eq_false_iff.mpr c16
        subst c16
        have H1 : (none) = some r := by rw [if_neg (show ¬ (false = true) by decide)] at H; exact H
        clear H
        have H := H1
        clear H1
        exact absurd H (by simp)
      ·rw [if_neg c14] at H
       exact absurd H (by simp)
     ·rw [if_neg c13] at H
      exact absurd H (by simp)
    ·rw [if_neg c12] at H
     exact absurd H (by simp)
   ·rw [if_neg c11] at H
    exact absurd H (by simp)
  ·rw [if_neg c10] at H
   exact absurd H (by simp)
 ·rw [if_neg c9] at H
  exact absurd H (by simp)

end Go.Proofs.Ytkhiohlfdkkhdaa.P
