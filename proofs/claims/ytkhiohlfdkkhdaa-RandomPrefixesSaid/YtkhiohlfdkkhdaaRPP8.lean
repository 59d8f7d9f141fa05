-- Written by the session's own program wip/tools/mp.py (over the kit's print) out of the translation. Not trusted: Lean checks it.
import Derived.Test.YtkhiohlfdkkhdaaRPP0
import Derived.Test.YtkhiohlfdkkhdaaRPP2
import Derived.Test.YtkhiohlfdkkhdaaRPP4
import Derived.Test.YtkhiohlfdkkhdaaRPP5
namespace Go.Proofs.Ytkhiohlfdkkhdaa.P
open Go.RowKit Go.Proofs.YtkhiohlfdkkhdaaW.PrintWords Go.Proofs.YtkhiohlfdkkhdaaW.PrintLast Go.Proofs.YtkhiohlfdkkhdaaW.PrintMore
attribute [local go_sem] max2_int min2_int max_two min_two max_three min_three max_four min_four   -- for this text's walks alone
set_option linter.unusedVariables false
set_option linter.unusedSimpArgs false

/-! ### random_Bytes: function 27 -/
mutual
def random_Bytes.l0 : Nat → Int → List Int → Int → Int → Option (List Int × Int × Int × Int × Int)
 | 0, _, _, _, _ => none
 | k + 1, x1, x9, x396000, x396001 => if (x9.length : Int) < x1 then ((random_source_next.f x396000 x396001).bind fun bt401 => (random_Bytes.l1 k x1 x9 bt401.1 0 bt401.2.1 bt401.2.2)) else (some (x9, x396000, x396001, 0, 0))
def random_Bytes.l1 : Nat → Int → List Int → Int → Int → Int → Int → Option (List Int × Int × Int × Int × Int)
 | 0, _, _, _, _, _, _ => none
 | k + 1, x1, x9, x10, x11, x396000, x396001 => if x11 < 8 then (if (x9.length : Int) < x1 then (if 0 ≤ (wrap64 (8 * x11)) then (if x9.length < 140737488355328 then (random_Bytes.l1 k x1 (x9 ++ [(shr .u64 x10 (wrap64 (8 * x11))) % 256]) x10 (wrap64 (x11 + 1)) x396000 x396001) else (none)) else (none)) else (random_Bytes.l0 k x1 x9 x396000 x396001)) else (random_Bytes.l0 k x1 x9 x396000 x396001)
end
def random_Bytes.f (k : Nat) (a0_0 : Int) (a0_1 : Int) (a1 : Int) : Option (List Int × Int × Int × Int × Int) := if a0_1 % 2 = 0 then ((random_open_no.f a0_0 a0_1).bind fun _ => (some (([] : List Int), 0, 0, 6, (-1)))) else ((random_open_ok.f a0_0 a0_1).bind fun bt393 => (if a1 < 0 then ((random_at.f 4 (-2)).bind fun bt397 => (some (([] : List Int), 0, 0, bt397.1, bt397.2))) else (if a1 > 4000 then ((random_at.f 4 (-2)).bind fun bt399 => (some (([] : List Int), 0, 0, bt399.1, bt399.2))) else (random_Bytes.l0 k a1 ([] : List Int) bt393.1 bt393.2))))
theorem random_Bytes.mono_l : ∀ k, (∀ y0 y1 y2 y3, LeO (random_Bytes.l0 k y0 y1 y2 y3) (random_Bytes.l0 (k + 1) y0 y1 y2 y3)) ∧ (∀ y0 y1 y2 y3 y4 y5, LeO (random_Bytes.l1 k y0 y1 y2 y3 y4 y5) (random_Bytes.l1 (k + 1) y0 y1 y2 y3 y4 y5))
 | 0 => ⟨fun _ _ _ _ r h => by simp [random_Bytes.l0] at h, fun _ _ _ _ _ _ r h => by simp [random_Bytes.l1] at h⟩
 | k + 1 => by
  obtain ⟨ih0, ih1⟩ := random_Bytes.mono_l k
  refine ⟨?_, ?_⟩
  ·intro y0 y1 y2 y3
   unfold random_Bytes.l0
   repeat' first
   | (with_reducible exact ih0 _ _ _ _)
   | (with_reducible exact ih1 _ _ _ _ _ _)
   | (with_reducible exact LeO.refl _)
   | (with_reducible exact LeO.none _)
   | (with_reducible refine LeO.ite ?_ ?_)
   | (with_reducible refine LeO.bind ?_ (fun _ => ?_))
   | exact ih0 _ _ _ _
   | exact ih1 _ _ _ _ _ _
   | exact LeO.none _
   | refine LeO.ite ?_ ?_
   | refine LeO.bind ?_ (fun _ => ?_)
  ·intro y0 y1 y2 y3 y4 y5
   unfold random_Bytes.l1
   repeat' first
   | (with_reducible exact ih0 _ _ _ _)
   | (with_reducible exact ih1 _ _ _ _ _ _)
   | (with_reducible exact LeO.refl _)
   | (with_reducible exact LeO.none _)
   | (with_reducible refine LeO.ite ?_ ?_)
   | (with_reducible refine LeO.bind ?_ (fun _ => ?_))
   | exact ih0 _ _ _ _
   | exact ih1 _ _ _ _ _ _
   | exact LeO.none _
   | refine LeO.ite ?_ ?_
   | refine LeO.bind ?_ (fun _ => ?_)
theorem random_Bytes.mono : ∀ a0 a1 a2 k, LeO (random_Bytes.f k a0 a1 a2) (random_Bytes.f (k + 1) a0 a1 a2) := by
 intro a0 a1 a2 k
 obtain ⟨ih0, ih1⟩ := random_Bytes.mono_l k
 unfold random_Bytes.f
 repeat' first
   | (with_reducible exact ih0 _ _ _ _)
   | (with_reducible exact ih1 _ _ _ _ _ _)
   | (with_reducible exact LeO.refl _)
   | (with_reducible exact LeO.none _)
   | (with_reducible refine LeO.ite ?_ ?_)
   | (with_reducible refine LeO.bind ?_ (fun _ => ?_))
   | exact ih0 _ _ _ _
   | exact ih1 _ _ _ _ _ _
   | exact LeO.none _
   | refine LeO.ite ?_ ?_
   | refine LeO.bind ?_ (fun _ => ?_)
def random_Bytes.T13 : Bool × List (List Nat × List Nat) := (true, [([], []), ([], []), ([1], [1]), ([2], [2]), ([3], [3]), ([], []), ([0, 0], [0]), ([4, 6, 0, 1, 2, 3, 4, 6], [4]), ([5, 7, 0, 1, 2, 3, 4, 5, 6, 7], [5])])
def random_Bytes.B13 : List Nat := [0, 0, 2, 6, 14, 0, 1, 95, 255]
theorem random_Bytes.tab13 : rtab .any (opsOf Try.f27 13) = random_Bytes.T13 := by kernel_rfl
theorem random_Bytes.bits13 : waitsOk random_Bytes.T13.2 random_Bytes.B13 = true := by kernel_rfl
set_option maxHeartbeats 60000000 in
set_option maxRecDepth 100000 in
theorem random_Bytes.calls (k : Nat) (a0_0 : Int) (a0_1 : Int) (a1 : Int) (r1 : List Int) (r2 : Int) (r3 : Int) (r4 : Int) (r5 : Int) (w : World) (h : random_Bytes.f k a0_0 a0_1 a1 = some (r1, r2, r3, r4, r5)) :
  Calls Try.prog 27 #[.agg #[.int .u64 a0_0, .int .u64 a0_1], .int .i64 a1] w fun e w' => ∃ v0_ : Value, e = .returned (.tuple #[v0_, .agg #[.int .u64 r2, .int .u64 r3], .agg #[.int .i64 r4, .int .i64 r5]]) ∧ Kd.R (Kd.int .u8) 5 w' w.heap.size (fun _ => True) v0_ r1 ∧ Below w.heap.size w w' := by
 have hu27 := Try.underlying27
 have hu29 := Try.underlying29
 have HB := zM (Below.refl w.heap.size w)
 have H : (if a0_1 % 2 = 0 then ((random_open_no.f a0_0 a0_1).bind fun _ => (some (([] : List Int), 0, 0, 6, (-1)))) else ((random_open_ok.f a0_0 a0_1).bind fun bt393 => (if a1 < 0 then ((random_at.f 4 (-2)).bind fun bt397 => (some (([] : List Int), 0, 0, bt397.1, bt397.2))) else (if a1 > 4000 then ((random_at.f 4 (-2)).bind fun bt399 => (some (([] : List Int), 0, 0, bt399.1, bt399.2))) else (random_Bytes.l0 k a1 ([] : List Int) bt393.1 bt393.2))))) = some (r1, r2, r3, r4, r5) := h
 clear h
 by_cases c3 : a0_1 % 2 = 0
 ·rw [if_pos c3] at H
  have c3b0 : (a0_1 % 2 == 0) = true := beq_iff_eq.mpr c3
  have c3b1 : (a0_1 % 2 != 0) = false := bne_eq_false_iff_eq.mpr c3
  clear c3
  replace H := zB H
  obtain ⟨_, A40, H⟩ := H
  replace H : (some (([] : List Int), 0, 0, 6, (-1))) = some (r1, r2, r3, r4, r5) := H
  have A4 := zM A40
  clear A40
  simp only [Option.some.injEq, Prod.mk.injEq] at H
  obtain ⟨rfl, rfl, rfl, rfl, rfl⟩ := H
  go_enter Try.func27, Try.ntmps27
  try go_wp2_with (first | ((with_reducible refine gate_dst (N := 2) rfl ?_); (try (refine gate_guard (by rfl) ?_; dsimp only)); refine box_event ?hg (N := 2) ?hd (cs := #[.int .u64 a0_0, .int .u64 a0_1]) (t := 27) ?hr ?_; (case hd => rfl); (case hg => rfl); (case hr => first | (go_simp; done) | (go_simp; rfl)); intro gb389 hg w5 hbox hb; have BK389 := zM (hbox); have GW389 := zM ((by rw [hg]; exact (below_size (HB.out)) : w.heap.size ≤ gb389)); have GE389 := GW389; replace HB := zM (below_step (HB.out) hb); clear hb hbox hg) | ((with_reducible refine gate_dst (N := 5) rfl ?_); (try (refine gate_guard (by rfl) ?_; dsimp only)); refine box_event ?hg (N := 5) ?hd (cs := #[.int .u64 0, .int .u64 0]) (t := 27) ?hr ?_; (case hd => rfl); (case hg => rfl); (case hr => first | (go_simp; done) | (go_simp; rfl)); intro gb390 hg w6 hbox hb; have BK390 := zM (hbox); have GW390 := zM ((by rw [hg]; exact (below_size (by repeat (first | (with_reducible first | exact HB.out | apply pzA | apply pzD | apply pz1 | apply pzs | assumption) | exact HB.out))) : w.heap.size ≤ gb390)); have GE390 := GW390; have NB389_390 := pzf BK389 hg; have NB390_389 := pzg BK389 hg; replace BK389 := pzb BK389 hb; replace HB := zM (below_step (by repeat (first | (with_reducible first | exact HB.out | apply pzA | apply pzD | apply pz1 | apply pzs | assumption) | exact HB.out)) hb); clear hb hbox hg) | ((with_reducible refine gate_dst (N := 6) rfl ?_); (try (refine gate_guard (by rfl) ?_; dsimp only)); refine box_event ?hg (N := 6) ?hd (cs := #[.int .i64 0, .int .i64 0]) (t := 29) ?hr ?_; (case hd => rfl); (case hg => rfl); (case hr => first | (go_simp; done) | (go_simp; rfl)); intro gb391 hg w7 hbox hb; have BK391 := zM (hbox); have GW391 := zM ((by rw [hg]; exact (below_size (by repeat (first | (with_reducible first | exact HB.out | apply pzA | apply pzD | apply pz1 | apply pzs | assumption) | exact HB.out))) : w.heap.size ≤ gb391)); have GE391 := GW391; have NB389_391 := pzf BK389 hg; have NB391_389 := pzg BK389 hg; have NB390_391 := pzf BK390 hg; have NB391_390 := pzg BK390 hg; replace BK389 := pzb BK389 hb; replace BK390 := pzb BK390 hb; replace HB := zM (below_step (by repeat (first | (with_reducible first | exact HB.out | apply pzA | apply pzD | apply pz1 | apply pzs | assumption) | exact HB.out)) hb); clear hb hbox hg; have hnb8 := NB389_390.out; have hnc8 := NB390_389.out; have hnb9 := NB389_391.out; have hnc9 := NB391_389.out; have hcz10_0 := pzc (v := .int .u64 a0_0) BK389 0 rfl; have hcz10_1 := pzc (v := .int .u64 a0_1) BK389 1 rfl; have hfz10_0 := zF BK389.out 0; have hfz10_1 := zF BK389.out 1) | ((with_reducible refine gate_callee (f := 39) rfl ?_); refine goesL_ (some 14) rfl rfl Try.func39 (by kernel_rfl) rfl #[.agg #[.int .u64 a0_0, .int .u64 a0_1]] rfl (by (try simp only [zT, zC, zN]); first | done | rfl | (simp only [zR, zL]; rfl)) ?_; (with_reducible refine (random_open_no.calls a0_0 a0_1  _ A4.out).mono ?_); rintro e w11 ⟨rfl, hb⟩; refine ⟨_, rfl, ?_⟩; replace BK389 := pzb BK389 hb; replace BK390 := pzb BK390 hb; replace BK391 := pzb BK391 hb; replace HB := zM (below_step (by repeat (first | (with_reducible first | exact HB.out | apply pzA | apply pzD | apply pz1 | apply pzs | assumption) | exact HB.out)) hb); (try clear hb); (try clear hb2); (try clear hk); (try clear hi)) | ((with_reducible refine gate_dst (N := 8) rfl ?_); (try (refine gate_guard (by rfl) ?_; dsimp only)); refine box_event ?hg (N := 8) ?hd (cs := #[.int .i64 0, .int .i64 0]) (t := 29) ?hr ?_; (case hd => rfl); (case hg => rfl); (case hr => first | (go_simp; done) | (go_simp; rfl)); intro gb392 hg w12 hbox hb; have BK392 := zM (hbox); have GW392 := zM ((by rw [hg]; exact (below_size (by repeat (first | (with_reducible first | exact HB.out | apply pzA | apply pzD | apply pz1 | apply pzs | assumption) | exact HB.out))) : w.heap.size ≤ gb392)); have GE392 := GW392; have NB389_392 := pzf BK389 hg; have NB392_389 := pzg BK389 hg; have NB390_392 := pzf BK390 hg; have NB392_390 := pzg BK390 hg; have NB391_392 := pzf BK391 hg; have NB392_391 := pzg BK391 hg; replace BK389 := pzb BK389 hb; replace BK390 := pzb BK390 hb; replace BK391 := pzb BK391 hb; replace HB := zM (below_step (by repeat (first | (with_reducible first | exact HB.out | apply pzA | apply pzD | apply pz1 | apply pzs | assumption) | exact HB.out)) hb); clear hb hbox hg; have hnb13 := NB392_389.out; have hnc13 := NB389_392.out; have hnb14 := NB392_390.out; have hnc14 := NB390_392.out; have hnb15 := NB392_391.out; have hnc15 := NB391_392.out; have hcz16_0 := pzc (v := .int .i64 0) BK392 0 rfl; have hcz16_1 := pzc (v := .int .i64 0) BK392 1 rfl; have hfz16_0 := zF BK392.out 0; have hfz16_1 := zF BK392.out 1))
  have n0_ : Aside0 (((w12.setCell ⟨gb392, 0, none⟩ (.int .i64 6)).setCell ⟨gb392, 1, none⟩ (.int .i64 (-1))).heap[gb389]? = some (.cells #[.int .u64 a0_0, .int .u64 a0_1] 27 (0, 0))) := ⟨by (with_reducible repeat (first | apply pzN | apply pzd | apply pza)); refine blk_far ?_ NB389_392.out _; (with_reducible repeat (first | apply pzN | apply pzd | apply pza)); refine blk_far ?_ NB389_392.out _; (with_reducible repeat (first | apply pzN | apply pzd | apply pza)); exact BK389.out⟩
  have n1_ : Aside0 (((w12.setCell ⟨gb392, 0, none⟩ (.int .i64 6)).setCell ⟨gb392, 1, none⟩ (.int .i64 (-1))).heap[gb390]? = some (.cells #[.int .u64 0, .int .u64 0] 27 (0, 0))) := ⟨by (with_reducible repeat (first | apply pzN | apply pzd | apply pza)); refine blk_far ?_ NB390_392.out _; (with_reducible repeat (first | apply pzN | apply pzd | apply pza)); refine blk_far ?_ NB390_392.out _; (with_reducible repeat (first | apply pzN | apply pzd | apply pza)); exact BK390.out⟩
  have n2_ : Aside0 (((w12.setCell ⟨gb392, 0, none⟩ (.int .i64 6)).setCell ⟨gb392, 1, none⟩ (.int .i64 (-1))).heap[gb391]? = some (.cells #[.int .i64 0, .int .i64 0] 29 (0, 0))) := ⟨by (with_reducible repeat (first | apply pzN | apply pzd | apply pza)); refine blk_far ?_ NB391_392.out _; (with_reducible repeat (first | apply pzN | apply pzd | apply pza)); refine blk_far ?_ NB391_392.out _; (with_reducible repeat (first | apply pzN | apply pzd | apply pza)); exact BK391.out⟩
  have n3_ : Aside0 (((w12.setCell ⟨gb392, 0, none⟩ (.int .i64 6)).setCell ⟨gb392, 1, none⟩ (.int .i64 (-1))).heap[gb392]? = some (.cells #[.int .i64 6, .int .i64 (-1)] 29 (0, 0))) := ⟨by (with_reducible repeat (first | apply pzN | apply pzd | apply pza)); refine blk_put (cs := #[.int .i64 6, .int .i64 0]) ?_ 1 _ rfl; (with_reducible repeat (first | apply pzN | apply pzd | apply pza)); refine blk_put (cs := #[.int .i64 0, .int .i64 0]) ?_ 0 _ rfl; (with_reducible repeat (first | apply pzN | apply pzd | apply pza)); exact BK392.out⟩
  have n4_ : Aside0 (Below w.heap.size w ((w12.setCell ⟨gb392, 0, none⟩ (.int .i64 6)).setCell ⟨gb392, 1, none⟩ (.int .i64 (-1)))) := ⟨by repeat (first | (with_reducible first | exact HB.out | apply pzA | apply pzD | apply pz1 | apply pzs | assumption) | exact HB.out)⟩
  (try clear BK389)
  (try clear BK390)
  (try clear BK391)
  (try clear BK392)
  (try clear HB)
  generalize ((w12.setCell ⟨gb392, 0, none⟩ (.int .i64 6)).setCell ⟨gb392, 1, none⟩ (.int .i64 (-1))) = w17 at n0_ n1_ n2_ n3_ n4_ ⊢
  have BK389 := n0_
  have BK390 := n1_
  have BK391 := n2_
  have BK392 := n3_
  have HB := n4_
  clear n0_ n1_ n2_ n3_ n4_
  replace BK390 := zM (blk_drew BK390.out)
  replace BK391 := zM (blk_drew BK391.out)
  replace BK392 := zM (blk_drew BK392.out)
  replace HB := zM (below_drew1 HB.out)
  refine start_ (n := 5) (S := fun w' => w'.cell? ⟨gb392, 0, none⟩ = some (.int .i64 6) ∧ w'.cell? ⟨gb392, 1, none⟩ = some (.int .i64 (-1))) (ds := []) #[false, false, false, false, false] (by kernel_rfl) rfl rfl ⟨(blk_cell BK392.out 0).trans rfl, (blk_cell BK392.out 1).trans rfl⟩ (fun hHeld => ?_)
  generalize w17.drew = w18 at BK390 BK391 HB hHeld ⊢
  refine pure_ (i := 0) (N := some 21) (v := ?_) (a' := ?_) #[true, false, false, false, false] rfl rfl (by kernel_rfl) (fun _ _ _ h => h) (Or.inl ⟨by rfl, ?_⟩) ?_ ?_
  rotate_left
  ·intro w'
   go_simp
   with_reducible rfl
  rotate_left
  ·simp only [Act.put, zS, z0, z1, i64_w, i32_w]
   rfl
  refine pure_ (i := 2) (N := some 4) (v := ?_) (a' := ?_) #[true, false, true, false, false] rfl rfl (by kernel_rfl) (fun _ _ _ h => h) (Or.inl ⟨by rfl, ?_⟩) ?_ ?_
  rotate_left
  ·intro w'
   go_simp
   with_reducible rfl
  rotate_left
  ·simp only [Act.put, zS, z0, z1, i64_w, i32_w]
   rfl
  refine take_ (i := 1) (N := some 22) (v := ?_) (a' := ?_) #[true, true, true, false, false] rfl rfl (by kernel_rfl) (fun _ _ _ h => h) (Or.inl ⟨by rfl, ?_⟩) hHeld ?_ ?_
  rotate_left
  ·rintro w' ⟨s0, s1⟩
   go_simp
   with_reducible rfl
  rotate_left
  ·simp only [Act.put, zS, z0, z1, i64_w, i32_w]
   rfl
  refine one_ (i := 3) (N := none) #[true, true, true, true, false] rfl rfl (by kernel_rfl) (by decide) (fun K hK => ?_)
  have hs19 : w18.cell? ⟨gb390, 0, none⟩ = some (.int .u64 0) := (blk_cell BK390.out 0).trans rfl
  have hfs19 := zF BK390.out 0
  have hns19_0 := NB389_390.out
  have hns19_2 := NB391_390.out
  have hns19_3 := NB392_390.out
  have hms19_0 := NB390_389.out
  have hms19_2 := NB390_391.out
  have hms19_3 := NB390_392.out
  have hs20 : w18.cell? ⟨gb390, 1, none⟩ = some (.int .u64 0) := (blk_cell BK390.out 1).trans rfl
  have hfs20 := zF BK390.out 1
  have hns20_0 := NB389_390.out
  have hns20_2 := NB391_390.out
  have hns20_3 := NB392_390.out
  have hms20_0 := NB390_389.out
  have hms20_2 := NB390_391.out
  have hms20_3 := NB390_392.out
  refine skip_ (w1 := ?_) (by rfl) rfl ?_ ?_
  rotate_left
  ·go_simp
   rfl
  refine hK.out _ _ ⟨((cell_far (p := ⟨gb390, _, none⟩) NB392_390.out _).trans (((cell_far (p := ⟨gb390, _, none⟩) NB392_390.out _).trans (hHeld.1)))), ((cell_far (p := ⟨gb390, _, none⟩) NB392_390.out _).trans (((cell_far (p := ⟨gb390, _, none⟩) NB392_390.out _).trans (hHeld.2))))⟩ (fun hHeld => ?_)
  clear hK K
  refine one_ (i := 4) (N := none) #[true, true, true, true, true] rfl rfl (by kernel_rfl) (by decide) (fun K hK => ?_)
  have hs21 : w18.cell? ⟨gb391, 0, none⟩ = some (.int .i64 0) := (blk_cell BK391.out 0).trans rfl
  have hfs21 := zF BK391.out 0
  have hns21_0 := NB389_391.out
  have hns21_1 := NB390_391.out
  have hns21_3 := NB392_391.out
  have hms21_0 := NB391_389.out
  have hms21_1 := NB391_390.out
  have hms21_3 := NB391_392.out
  have hs22 : w18.cell? ⟨gb391, 1, none⟩ = some (.int .i64 0) := (blk_cell BK391.out 1).trans rfl
  have hfs22 := zF BK391.out 1
  have hns22_0 := NB389_391.out
  have hns22_1 := NB390_391.out
  have hns22_3 := NB392_391.out
  have hms22_0 := NB391_389.out
  have hms22_1 := NB391_390.out
  have hms22_3 := NB391_392.out
  refine skip_ (w1 := ?_) (by rfl) rfl ?_ ?_
  rotate_left
  ·go_simp
   rfl
  refine hK.out _ _ ⟨((cell_far (p := ⟨gb391, _, none⟩) NB392_391.out _).trans (((cell_far (p := ⟨gb391, _, none⟩) NB392_391.out _).trans (hHeld.1)))), ((cell_far (p := ⟨gb391, _, none⟩) NB392_391.out _).trans (((cell_far (p := ⟨gb391, _, none⟩) NB392_391.out _).trans (hHeld.2))))⟩ (fun hHeld => ?_)
  clear hK K
  refine done_ (by kernel_rfl) ?_
  try go_wp2
  refine bodyPost_ret (results_list (rs := [.tmp 4, .cell 5 27, .cell 6 29]) rfl (by simp) (.tmp (.cell gb390 27 #[.int .u64 0, .int .u64 0] (0, 0) _ rfl (by (with_reducible repeat (first | apply pzN | apply pzd | apply pza)); refine blk_far ?_ NB390_391.out _; (with_reducible repeat (first | apply pzN | apply pzd | apply pza)); refine blk_far ?_ NB390_391.out _; (with_reducible repeat (first | apply pzN | apply pzd | apply pza)); refine blk_put (cs := #[.int .u64 0, .int .u64 0]) ?_ 1 _ rfl; (with_reducible repeat (first | apply pzN | apply pzd | apply pza)); refine blk_put (cs := #[.int .u64 0, .int .u64 0]) ?_ 0 _ rfl; (with_reducible repeat (first | apply pzN | apply pzd | apply pza)); exact BK390.out) Try.underlying27 rfl (by kernel_rfl) (.cell gb391 29 #[.int .i64 6, .int .i64 (-1)] (0, 0) _ rfl (by (with_reducible repeat (first | apply pzN | apply pzd | apply pza)); refine blk_put (cs := #[.int .i64 6, .int .i64 0]) ?_ 1 _ rfl; (with_reducible repeat (first | apply pzN | apply pzd | apply pza)); refine blk_put (cs := #[.int .i64 0, .int .i64 0]) ?_ 0 _ rfl; (with_reducible repeat (first | apply pzN | apply pzd | apply pza)); refine blk_far ?_ NB391_390.out _; (with_reducible repeat (first | apply pzN | apply pzd | apply pza)); refine blk_far ?_ NB391_390.out _; (with_reducible repeat (first | apply pzN | apply pzd | apply pza)); exact BK391.out) Try.underlying29 rfl (by kernel_rfl) .nil)))) rfl ?_
  exact ⟨_, by first | rfl | (simp [errW_none, errW_some] <;> rfl) | (simp [*, errW_none, errW_some] <;> rfl), by first | exact Kd.R_nil _ _ _ _ _ | exact Kd.N_nil _ _ _ _ _ | exact Kd.V_nil _ _ _ _ _ | exact Kd.Q_nil _ _ _ _ _ | exact Kd.S_nil _ _ _ _ _, by repeat (first | (with_reducible first | exact HB.out | apply pzA | apply pzD | apply pz1 | apply pzs | assumption) | exact HB.out)⟩
 ·rw [if_neg c3] at H
  have c3b0 : (a0_1 % 2 == 0) = false := beq_eq_false_iff_ne.mpr c3
  have c3b1 : (a0_1 % 2 != 0) = true := bne_iff_ne.mpr c3
  replace H := zB H
  obtain ⟨⟨t393, t394⟩, A230, H⟩ := H
  replace H : (if a1 < 0 then ((random_at.f 4 (-2)).bind fun bt397 => (some (([] : List Int), 0, 0, bt397.1, bt397.2))) else (if a1 > 4000 then ((random_at.f 4 (-2)).bind fun bt399 => (some (([] : List Int), 0, 0, bt399.1, bt399.2))) else (random_Bytes.l0 k a1 ([] : List Int) t393 t394))) = some (r1, r2, r3, r4, r5) := H
  have A23 := zM A230
  clear A230
  by_cases c24 : a1 < 0
  ·rw [if_pos c24] at H
   have c24b0 : decide (a1 < 0) = true := zE c24
   clear c24
   replace H := zB H
   obtain ⟨⟨t397, t398⟩, A250, H⟩ := H
   replace H : (some (([] : List Int), 0, 0, t397, t398)) = some (r1, r2, r3, r4, r5) := H
   have A25 := zM A250
   clear A250
   simp only [Option.some.injEq, Prod.mk.injEq] at H
   obtain ⟨rfl, rfl, rfl, rfl, rfl⟩ := H
   go_enter Try.func27, Try.ntmps27
   go_wp2_with (first | ((with_reducible refine gate_dst (N := 2) rfl ?_); (try (refine gate_guard (by rfl) ?_; dsimp only)); refine box_event ?hg (N := 2) ?hd (cs := #[.int .u64 a0_0, .int .u64 a0_1]) (t := 27) ?hr ?_; (case hd => rfl); (case hg => rfl); (case hr => first | (go_simp; done) | (go_simp; rfl)); intro gb389 hg w26 hbox hb; have n0_ := zM (below_step (HB.out) hb); have n1_ := zM (hbox); have n2_ := zM ((by rw [hg]; exact (below_size (HB.out)) : w.heap.size ≤ gb389)); have n3_ := zM ((by rw [hg]; exact (below_size (HB.out)) : w.heap.size ≤ gb389)); clear HB; have HB := n0_; have BK389 := n1_; have GW389 := n2_; have GE389 := n3_; clear n0_ n1_ n2_ n3_; clear hb hbox hg) | ((with_reducible refine gate_dst (N := 5) rfl ?_); (try (refine gate_guard (by rfl) ?_; dsimp only)); refine box_event ?hg (N := 5) ?hd (cs := #[.int .u64 0, .int .u64 0]) (t := 27) ?hr ?_; (case hd => rfl); (case hg => rfl); (case hr => first | (go_simp; done) | (go_simp; rfl)); intro gb390 hg w27 hbox hb; have BK390 := zM (hbox); have GW390 := zM ((by rw [hg]; exact (below_size (by repeat (first | (with_reducible first | exact HB.out | apply pzA | apply pzD | apply pz1 | apply pzs | assumption) | exact HB.out))) : w.heap.size ≤ gb390)); have GE390 := GW390; have NB389_390 := pzf BK389 hg; have NB390_389 := pzg BK389 hg; replace BK389 := pzb BK389 hb; replace HB := zM (below_step (by repeat (first | (with_reducible first | exact HB.out | apply pzA | apply pzD | apply pz1 | apply pzs | assumption) | exact HB.out)) hb); clear hb hbox hg) | ((with_reducible refine gate_dst (N := 6) rfl ?_); (try (refine gate_guard (by rfl) ?_; dsimp only)); refine box_event ?hg (N := 6) ?hd (cs := #[.int .i64 0, .int .i64 0]) (t := 29) ?hr ?_; (case hd => rfl); (case hg => rfl); (case hr => first | (go_simp; done) | (go_simp; rfl)); intro gb391 hg w28 hbox hb; have BK391 := zM (hbox); have GW391 := zM ((by rw [hg]; exact (below_size (by repeat (first | (with_reducible first | exact HB.out | apply pzA | apply pzD | apply pz1 | apply pzs | assumption) | exact HB.out))) : w.heap.size ≤ gb391)); have GE391 := GW391; have NB389_391 := pzf BK389 hg; have NB391_389 := pzg BK389 hg; have NB390_391 := pzf BK390 hg; have NB391_390 := pzg BK390 hg; replace BK389 := pzb BK389 hb; replace BK390 := pzb BK390 hb; replace HB := zM (below_step (by repeat (first | (with_reducible first | exact HB.out | apply pzA | apply pzD | apply pz1 | apply pzs | assumption) | exact HB.out)) hb); clear hb hbox hg; have hnb29 := NB389_390.out; have hnc29 := NB390_389.out; have hnb30 := NB389_391.out; have hnc30 := NB391_389.out; have hcz31_0 := pzc (v := .int .u64 a0_0) BK389 0 rfl; have hcz31_1 := pzc (v := .int .u64 a0_1) BK389 1 rfl; have hfz31_0 := zF BK389.out 0; have hfz31_1 := zF BK389.out 1) | ((with_reducible refine gate_callee (f := 39) rfl ?_); refine goesL_ (some 14) rfl rfl Try.func39 (by kernel_rfl) rfl #[.agg #[.int .u64 a0_0, .int .u64 a0_1]] rfl (by (try simp only [zT, zC, zN]); first | done | rfl | (simp only [zR, zL]; rfl)) ?_; (with_reducible refine (random_open_ok.calls a0_0 a0_1 t393 t394 w _ ?side1 A23.out).mono ?_); (case side1 => repeat (first | (with_reducible first | exact HB.out | apply pzA | apply pzD | apply pz1 | apply pzs | assumption) | exact HB.out)); rintro e w32 ⟨g395, rfl, hi, hb, hb2⟩; refine ⟨_, rfl, ?_⟩; have HI395 := zM (hi); have NB395_389 := zM (IsS81.ne_blk hi (blk_below (g := gb389) (o := .cells #[.int .u64 a0_0, .int .u64 a0_1] 27 (0, 0)) BK389.out hb2) (by decide)); have NB389_395 := zM (Ne.symm (IsS81.ne_blk hi (blk_below (g := gb389) (o := .cells #[.int .u64 a0_0, .int .u64 a0_1] 27 (0, 0)) BK389.out hb2) (by decide))); have NB395_390 := zM (IsS81.ne_blk hi (blk_below (g := gb390) (o := .cells #[.int .u64 0, .int .u64 0] 27 (0, 0)) BK390.out hb2) (by decide)); have NB390_395 := zM (Ne.symm (IsS81.ne_blk hi (blk_below (g := gb390) (o := .cells #[.int .u64 0, .int .u64 0] 27 (0, 0)) BK390.out hb2) (by decide))); have NB395_391 := zM (IsS81.ne_blk hi (blk_below (g := gb391) (o := .cells #[.int .i64 0, .int .i64 0] 29 (0, 0)) BK391.out hb2) (by decide)); have NB391_395 := zM (Ne.symm (IsS81.ne_blk hi (blk_below (g := gb391) (o := .cells #[.int .i64 0, .int .i64 0] 29 (0, 0)) BK391.out hb2) (by decide))); replace BK390 := zM (blk_below (g := gb390) (o := .cells #[.int .u64 0, .int .u64 0] 27 (0, 0)) BK390.out hb2); replace BK391 := zM (blk_below (g := gb391) (o := .cells #[.int .i64 0, .int .i64 0] 29 (0, 0)) BK391.out hb2); replace HB := zM (hb); (try clear hb); (try clear hb2); (try clear hk); (try clear hi)) | ((with_reducible refine gate_dst (N := 8) rfl ?_); (try (refine gate_guard (by rfl) ?_; dsimp only)); refine box_event ?hg (N := 8) ?hd (cs := #[.int .i64 0, .int .i64 0]) (t := 29) ?hr ?_; (case hd => rfl); (case hg => rfl); (case hr => first | (go_simp; done) | (go_simp; rfl)); intro gb396 hg w33 hbox hb; have BK396 := zM (hbox); have GW396 := zM ((by rw [hg]; exact (below_size (by repeat (first | (with_reducible first | exact HB.out | apply below_alloc | apply pw_below_drewN | apply below_drew1 | refine below_set ?_ (IsS81.ge HI395.out) | refine below_setA ?_ (by assumption)) | exact HB.out))) : w.heap.size ≤ gb396)); have GE396 := GW396; have NB390_396 := pzf BK390 hg; have NB396_390 := pzg BK390 hg; have NB391_396 := pzf BK391 hg; have NB396_391 := pzg BK391 hg; have NB395_396 := zM ((by rw [hg]; exact Nat.ne_of_lt (IsS81.lt (show IsS81 w _ g395 t393 t394 from by repeat (first | (with_reducible first | exact HI395.out | apply IsS81.alloc | apply IsS81.drewN | apply IsS81.drew | apply IsS81.set_0 | apply IsS81.set_1 | refine IsS81.far ?_ NB395_389.out _ | refine IsS81.far ?_ NB395_390.out _ | refine IsS81.far ?_ NB395_391.out _) | exact HI395.out))) : g395 ≠ gb396)); replace BK390 := pzb BK390 hb; replace BK391 := pzb BK391 hb; replace HB := zM (below_step (by repeat (first | (with_reducible first | exact HB.out | apply below_alloc | apply pw_below_drewN | apply below_drew1 | refine below_set ?_ (IsS81.ge HI395.out) | refine below_setA ?_ (by assumption)) | exact HB.out)) hb); replace HI395 := zM (IsS81.below (by repeat (first | (with_reducible first | exact HI395.out | apply IsS81.alloc | apply IsS81.drewN | apply IsS81.drew | apply IsS81.set_0 | apply IsS81.set_1 | refine IsS81.far ?_ NB395_389.out _ | refine IsS81.far ?_ NB395_390.out _ | refine IsS81.far ?_ NB395_391.out _) | exact HI395.out)) hb); clear hb hbox hg; have hnb35 := NB396_390.out; have hnc35 := NB390_396.out; have hnb36 := NB396_391.out; have hnc36 := NB391_396.out; have hcz38_0 := pzc (v := .int .i64 0) BK396 0 rfl; have hcz38_1 := pzc (v := .int .i64 0) BK396 1 rfl; have hfz38_0 := zF BK396.out 0; have hfz38_1 := zF BK396.out 1) | ((with_reducible refine gate_callee (f := 37) rfl ?_); refine goesL_ (some 31) rfl rfl Try.func37 (by kernel_rfl) rfl #[.int .i64 4, .int .i64 (-2)] rfl (by (try simp only [zT, zC, zN]); first | done | rfl | (simp only [zR, zL]; rfl)) ?_; (with_reducible refine (random_at.calls 4 (-2) t397 t398 _ A25.out).mono ?_); rintro e w39 ⟨rfl, hb⟩; refine ⟨_, rfl, ?_⟩; replace BK390 := zM (blk_below (g := gb390) (o := .cells #[.int .u64 0, .int .u64 0] 27 (0, 0)) (by (with_reducible repeat (first | apply pzN | apply pzd | apply pza)); refine blk_far ?_ NB390_396.out _; (with_reducible repeat (first | apply pzN | apply pzd | apply pza)); refine blk_far ?_ NB390_396.out _; (with_reducible repeat (first | apply pzN | apply pzd | apply pza)); exact BK390.out) hb); replace BK391 := zM (blk_below (g := gb391) (o := .cells #[.int .i64 0, .int .i64 0] 29 (0, 0)) (by (with_reducible repeat (first | apply pzN | apply pzd | apply pza)); refine blk_far ?_ NB391_396.out _; (with_reducible repeat (first | apply pzN | apply pzd | apply pza)); refine blk_far ?_ NB391_396.out _; (with_reducible repeat (first | apply pzN | apply pzd | apply pza)); exact BK391.out) hb); replace HB := zM (below_step (by repeat (first | (with_reducible first | exact HB.out | apply below_alloc | apply pw_below_drewN | apply below_drew1 | refine below_set ?_ (IsS81.ge HI395.out) | refine below_setA ?_ (by assumption)) | exact HB.out)) hb); replace HI395 := zM (IsS81.below (show IsS81 w ((w33.setCell ⟨gb396, 0, none⟩ (.int .i64 0)).setCell ⟨gb396, 1, none⟩ (.int .i64 0)) g395 t393 t394 from by repeat (first | (with_reducible first | exact HI395.out | apply IsS81.alloc | apply IsS81.drewN | apply IsS81.drew | apply IsS81.set_0 | apply IsS81.set_1 | refine IsS81.far ?_ NB395_389.out _ | refine IsS81.far ?_ NB395_390.out _ | refine IsS81.far ?_ NB395_391.out _ | refine IsS81.far ?_ NB395_396.out _) | exact HI395.out)) hb); (try clear hb); (try clear hb2); (try clear hk); (try clear hi); have hnb40 := NB390_391.out; have hnc40 := NB391_390.out; have hcz42_0 := pzc (v := .int .u64 0) BK390 0 rfl; have hcz42_1 := pzc (v := .int .u64 0) BK390 1 rfl; have hfz42_0 := zF BK390.out 0; have hfz42_1 := zF BK390.out 1; have hcz44_0 := pzc (v := .int .i64 0) BK391 0 rfl; have hcz44_1 := pzc (v := .int .i64 0) BK391 1 rfl; have hfz44_0 := zF BK391.out 0; have hfz44_1 := zF BK391.out 1))
   refine bodyPost_ret (results_list (rs := [.tmp 4, .cell 5 27, .cell 6 29]) rfl (by simp) (.tmp (.cell gb390 27 #[.int .u64 0, .int .u64 0] (0, 0) _ rfl (by (with_reducible repeat (first | apply pzN | apply pzd | apply pza)); refine blk_far ?_ NB390_391.out _; (with_reducible repeat (first | apply pzN | apply pzd | apply pza)); refine blk_far ?_ NB390_391.out _; (with_reducible repeat (first | apply pzN | apply pzd | apply pza)); refine blk_put (cs := #[.int .u64 0, .int .u64 0]) ?_ 1 _ rfl; (with_reducible repeat (first | apply pzN | apply pzd | apply pza)); refine blk_put (cs := #[.int .u64 0, .int .u64 0]) ?_ 0 _ rfl; (with_reducible repeat (first | apply pzN | apply pzd | apply pza)); exact BK390.out) Try.underlying27 rfl (by kernel_rfl) (.cell gb391 29 #[.int .i64 t397, .int .i64 t398] (0, 0) _ rfl (by (with_reducible repeat (first | apply pzN | apply pzd | apply pza)); refine blk_put (cs := #[.int .i64 t397, .int .i64 0]) ?_ 1 _ rfl; (with_reducible repeat (first | apply pzN | apply pzd | apply pza)); refine blk_put (cs := #[.int .i64 0, .int .i64 0]) ?_ 0 _ rfl; (with_reducible repeat (first | apply pzN | apply pzd | apply pza)); refine blk_far ?_ NB391_390.out _; (with_reducible repeat (first | apply pzN | apply pzd | apply pza)); refine blk_far ?_ NB391_390.out _; (with_reducible repeat (first | apply pzN | apply pzd | apply pza)); exact BK391.out) Try.underlying29 rfl (by kernel_rfl) .nil)))) rfl ?_
   exact ⟨_, by first | rfl | (simp [errW_none, errW_some] <;> rfl) | (simp [*, errW_none, errW_some] <;> rfl), by first | exact Kd.R_nil _ _ _ _ _ | exact Kd.N_nil _ _ _ _ _ | exact Kd.V_nil _ _ _ _ _ | exact Kd.Q_nil _ _ _ _ _ | exact Kd.S_nil _ _ _ _ _, by repeat (first | (with_reducible first | exact HB.out | apply below_alloc | apply pw_below_drewN | apply below_drew1 | refine below_set ?_ (IsS81.ge HI395.out) | refine below_setA ?_ (by assumption)) | exact HB.out)⟩
  ·rw [if_neg c24] at H
   have c24b0 : decide (a1 < 0) = false := decide_eq_false c24
   clear c24
   by_cases c45 : a1 > 4000
   ·rw [if_pos c45] at H
    have c45b0 : decide (4000 < a1) = true := zE c45
    clear c45
    replace H := zB H
    obtain ⟨⟨t399, t400⟩, A460, H⟩ := H
    replace H : (some (([] : List Int), 0, 0, t399, t400)) = some (r1, r2, r3, r4, r5) := H
    have A46 := zM A460
    clear A460
    simp only [Option.some.injEq, Prod.mk.injEq] at H
    obtain ⟨rfl, rfl, rfl, rfl, rfl⟩ := H
    go_enter Try.func27, Try.ntmps27
    go_wp2_with (first | ((with_reducible refine gate_dst (N := 2) rfl ?_); (try (refine gate_guard (by rfl) ?_; dsimp only)); refine box_event ?hg (N := 2) ?hd (cs := #[.int .u64 a0_0, .int .u64 a0_1]) (t := 27) ?hr ?_; (case hd => rfl); (case hg => rfl); (case hr => first | (go_simp; done) | (go_simp; rfl)); intro gb389 hg w47 hbox hb; have BK389 := zM (hbox); have GW389 := zM ((by rw [hg]; exact (below_size (HB.out)) : w.heap.size ≤ gb389)); have GE389 := GW389; replace HB := zM (below_step (HB.out) hb); clear hb hbox hg) | ((with_reducible refine gate_dst (N := 5) rfl ?_); (try (refine gate_guard (by rfl) ?_; dsimp only)); refine box_event ?hg (N := 5) ?hd (cs := #[.int .u64 0, .int .u64 0]) (t := 27) ?hr ?_; (case hd => rfl); (case hg => rfl); (case hr => first | (go_simp; done) | (go_simp; rfl)); intro gb390 hg w48 hbox hb; have BK390 := zM (hbox); have GW390 := zM ((by rw [hg]; exact (below_size (by repeat (first | (with_reducible first | exact HB.out | apply pzA | apply pzD | apply pz1 | apply pzs | assumption) | exact HB.out))) : w.heap.size ≤ gb390)); have GE390 := GW390; have NB389_390 := pzf BK389 hg; have NB390_389 := pzg BK389 hg; replace BK389 := pzb BK389 hb; replace HB := zM (below_step (by repeat (first | (with_reducible first | exact HB.out | apply pzA | apply pzD | apply pz1 | apply pzs | assumption) | exact HB.out)) hb); clear hb hbox hg) | ((with_reducible refine gate_dst (N := 6) rfl ?_); (try (refine gate_guard (by rfl) ?_; dsimp only)); refine box_event ?hg (N := 6) ?hd (cs := #[.int .i64 0, .int .i64 0]) (t := 29) ?hr ?_; (case hd => rfl); (case hg => rfl); (case hr => first | (go_simp; done) | (go_simp; rfl)); intro gb391 hg w49 hbox hb; have BK391 := zM (hbox); have GW391 := zM ((by rw [hg]; exact (below_size (by repeat (first | (with_reducible first | exact HB.out | apply pzA | apply pzD | apply pz1 | apply pzs | assumption) | exact HB.out))) : w.heap.size ≤ gb391)); have GE391 := GW391; have NB389_391 := pzf BK389 hg; have NB391_389 := pzg BK389 hg; have NB390_391 := pzf BK390 hg; have NB391_390 := pzg BK390 hg; replace BK389 := pzb BK389 hb; replace BK390 := pzb BK390 hb; replace HB := zM (below_step (by repeat (first | (with_reducible first | exact HB.out | apply pzA | apply pzD | apply pz1 | apply pzs | assumption) | exact HB.out)) hb); clear hb hbox hg; have hnb50 := NB389_390.out; have hnc50 := NB390_389.out; have hnb51 := NB389_391.out; have hnc51 := NB391_389.out; have hcz52_0 := pzc (v := .int .u64 a0_0) BK389 0 rfl; have hcz52_1 := pzc (v := .int .u64 a0_1) BK389 1 rfl; have hfz52_0 := zF BK389.out 0; have hfz52_1 := zF BK389.out 1) | ((with_reducible refine gate_callee (f := 39) rfl ?_); refine goesL_ (some 14) rfl rfl Try.func39 (by kernel_rfl) rfl #[.agg #[.int .u64 a0_0, .int .u64 a0_1]] rfl (by (try simp only [zT, zC, zN]); first | done | rfl | (simp only [zR, zL]; rfl)) ?_; (with_reducible refine (random_open_ok.calls a0_0 a0_1 t393 t394 w _ ?side1 A23.out).mono ?_); (case side1 => repeat (first | (with_reducible first | exact HB.out | apply pzA | apply pzD | apply pz1 | apply pzs | assumption) | exact HB.out)); rintro e w53 ⟨g395, rfl, hi, hb, hb2⟩; refine ⟨_, rfl, ?_⟩; have HI395 := zM (hi); have NB395_389 := zM (IsS81.ne_blk hi (blk_below (g := gb389) (o := .cells #[.int .u64 a0_0, .int .u64 a0_1] 27 (0, 0)) BK389.out hb2) (by decide)); have NB389_395 := zM (Ne.symm (IsS81.ne_blk hi (blk_below (g := gb389) (o := .cells #[.int .u64 a0_0, .int .u64 a0_1] 27 (0, 0)) BK389.out hb2) (by decide))); have NB395_390 := zM (IsS81.ne_blk hi (blk_below (g := gb390) (o := .cells #[.int .u64 0, .int .u64 0] 27 (0, 0)) BK390.out hb2) (by decide)); have NB390_395 := zM (Ne.symm (IsS81.ne_blk hi (blk_below (g := gb390) (o := .cells #[.int .u64 0, .int .u64 0] 27 (0, 0)) BK390.out hb2) (by decide))); have NB395_391 := zM (IsS81.ne_blk hi (blk_below (g := gb391) (o := .cells #[.int .i64 0, .int .i64 0] 29 (0, 0)) BK391.out hb2) (by decide)); have NB391_395 := zM (Ne.symm (IsS81.ne_blk hi (blk_below (g := gb391) (o := .cells #[.int .i64 0, .int .i64 0] 29 (0, 0)) BK391.out hb2) (by decide))); replace BK390 := zM (blk_below (g := gb390) (o := .cells #[.int .u64 0, .int .u64 0] 27 (0, 0)) BK390.out hb2); replace BK391 := zM (blk_below (g := gb391) (o := .cells #[.int .i64 0, .int .i64 0] 29 (0, 0)) BK391.out hb2); replace HB := zM (hb); (try clear hb); (try clear hb2); (try clear hk); (try clear hi)) | ((with_reducible refine gate_dst (N := 8) rfl ?_); (try (refine gate_guard (by rfl) ?_; dsimp only)); refine box_event ?hg (N := 8) ?hd (cs := #[.int .i64 0, .int .i64 0]) (t := 29) ?hr ?_; (case hd => rfl); (case hg => rfl); (case hr => first | (go_simp; done) | (go_simp; rfl)); intro gb396 hg w54 hbox hb; have BK396 := zM (hbox); have GW396 := zM ((by rw [hg]; exact (below_size (by repeat (first | (with_reducible first | exact HB.out | apply below_alloc | apply pw_below_drewN | apply below_drew1 | refine below_set ?_ (IsS81.ge HI395.out) | refine below_setA ?_ (by assumption)) | exact HB.out))) : w.heap.size ≤ gb396)); have GE396 := GW396; have NB390_396 := pzf BK390 hg; have NB396_390 := pzg BK390 hg; have NB391_396 := pzf BK391 hg; have NB396_391 := pzg BK391 hg; have NB395_396 := zM ((by rw [hg]; exact Nat.ne_of_lt (IsS81.lt (show IsS81 w _ g395 t393 t394 from by repeat (first | (with_reducible first | exact HI395.out | apply IsS81.alloc | apply IsS81.drewN | apply IsS81.drew | apply IsS81.set_0 | apply IsS81.set_1 | refine IsS81.far ?_ NB395_389.out _ | refine IsS81.far ?_ NB395_390.out _ | refine IsS81.far ?_ NB395_391.out _) | exact HI395.out))) : g395 ≠ gb396)); replace BK390 := pzb BK390 hb; replace BK391 := pzb BK391 hb; replace HB := zM (below_step (by repeat (first | (with_reducible first | exact HB.out | apply below_alloc | apply pw_below_drewN | apply below_drew1 | refine below_set ?_ (IsS81.ge HI395.out) | refine below_setA ?_ (by assumption)) | exact HB.out)) hb); replace HI395 := zM (IsS81.below (by repeat (first | (with_reducible first | exact HI395.out | apply IsS81.alloc | apply IsS81.drewN | apply IsS81.drew | apply IsS81.set_0 | apply IsS81.set_1 | refine IsS81.far ?_ NB395_389.out _ | refine IsS81.far ?_ NB395_390.out _ | refine IsS81.far ?_ NB395_391.out _) | exact HI395.out)) hb); clear hb hbox hg; have hnb56 := NB396_390.out; have hnc56 := NB390_396.out; have hnb57 := NB396_391.out; have hnc57 := NB391_396.out; have hcz59_0 := pzc (v := .int .i64 0) BK396 0 rfl; have hcz59_1 := pzc (v := .int .i64 0) BK396 1 rfl; have hfz59_0 := zF BK396.out 0; have hfz59_1 := zF BK396.out 1) | ((with_reducible refine gate_callee (f := 37) rfl ?_); refine goesL_ (some 31) rfl rfl Try.func37 (by kernel_rfl) rfl #[.int .i64 4, .int .i64 (-2)] rfl (by (try simp only [zT, zC, zN]); first | done | rfl | (simp only [zR, zL]; rfl)) ?_; (with_reducible refine (random_at.calls 4 (-2) t399 t400 _ A46.out).mono ?_); rintro e w60 ⟨rfl, hb⟩; refine ⟨_, rfl, ?_⟩; replace BK390 := zM (blk_below (g := gb390) (o := .cells #[.int .u64 0, .int .u64 0] 27 (0, 0)) (by (with_reducible repeat (first | apply pzN | apply pzd | apply pza)); refine blk_far ?_ NB390_396.out _; (with_reducible repeat (first | apply pzN | apply pzd | apply pza)); refine blk_far ?_ NB390_396.out _; (with_reducible repeat (first | apply pzN | apply pzd | apply pza)); exact BK390.out) hb); replace BK391 := zM (blk_below (g := gb391) (o := .cells #[.int .i64 0, .int .i64 0] 29 (0, 0)) (by (with_reducible repeat (first | apply pzN | apply pzd | apply pza)); refine blk_far ?_ NB391_396.out _; (with_reducible repeat (first | apply pzN | apply pzd | apply pza)); refine blk_far ?_ NB391_396.out _; (with_reducible repeat (first | apply pzN | apply pzd | apply pza)); exact BK391.out) hb); replace HB := zM (below_step (by repeat (first | (with_reducible first | exact HB.out | apply below_alloc | apply pw_below_drewN | apply below_drew1 | refine below_set ?_ (IsS81.ge HI395.out) | refine below_setA ?_ (by assumption)) | exact HB.out)) hb); replace HI395 := zM (IsS81.below (show IsS81 w ((w54.setCell ⟨gb396, 0, none⟩ (.int .i64 0)).setCell ⟨gb396, 1, none⟩ (.int .i64 0)) g395 t393 t394 from by repeat (first | (with_reducible first | exact HI395.out | apply IsS81.alloc | apply IsS81.drewN | apply IsS81.drew | apply IsS81.set_0 | apply IsS81.set_1 | refine IsS81.far ?_ NB395_389.out _ | refine IsS81.far ?_ NB395_390.out _ | refine IsS81.far ?_ NB395_391.out _ | refine IsS81.far ?_ NB395_396.out _) | exact HI395.out)) hb); (try clear hb); (try clear hb2); (try clear hk); (try clear hi); have hnb61 := NB390_391.out; have hnc61 := NB391_390.out; have hcz63_0 := pzc (v := .int .u64 0) BK390 0 rfl; have hcz63_1 := pzc (v := .int .u64 0) BK390 1 rfl; have hfz63_0 := zF BK390.out 0; have hfz63_1 := zF BK390.out 1; have hcz65_0 := pzc (v := .int .i64 0) BK391 0 rfl; have hcz65_1 := pzc (v := .int .i64 0) BK391 1 rfl; have hfz65_0 := zF BK391.out 0; have hfz65_1 := zF BK391.out 1))
    refine bodyPost_ret (results_list (rs := [.tmp 4, .cell 5 27, .cell 6 29]) rfl (by simp) (.tmp (.cell gb390 27 #[.int .u64 0, .int .u64 0] (0, 0) _ rfl (by (with_reducible repeat (first | apply pzN | apply pzd | apply pza)); refine blk_far ?_ NB390_391.out _; (with_reducible repeat (first | apply pzN | apply pzd | apply pza)); refine blk_far ?_ NB390_391.out _; (with_reducible repeat (first | apply pzN | apply pzd | apply pza)); refine blk_put (cs := #[.int .u64 0, .int .u64 0]) ?_ 1 _ rfl; (with_reducible repeat (first | apply pzN | apply pzd | apply pza)); refine blk_put (cs := #[.int .u64 0, .int .u64 0]) ?_ 0 _ rfl; (with_reducible repeat (first | apply pzN | apply pzd | apply pza)); exact BK390.out) Try.underlying27 rfl (by kernel_rfl) (.cell gb391 29 #[.int .i64 t399, .int .i64 t400] (0, 0) _ rfl (by (with_reducible repeat (first | apply pzN | apply pzd | apply pza)); refine blk_put (cs := #[.int .i64 t399, .int .i64 0]) ?_ 1 _ rfl; (with_reducible repeat (first | apply pzN | apply pzd | apply pza)); refine blk_put (cs := #[.int .i64 0, .int .i64 0]) ?_ 0 _ rfl; (with_reducible repeat (first | apply pzN | apply pzd | apply pza)); refine blk_far ?_ NB391_390.out _; (with_reducible repeat (first | apply pzN | apply pzd | apply pza)); refine blk_far ?_ NB391_390.out _; (with_reducible repeat (first | apply pzN | apply pzd | apply pza)); exact BK391.out) Try.underlying29 rfl (by kernel_rfl) .nil)))) rfl ?_
    exact ⟨_, by first | rfl | (simp [errW_none, errW_some] <;> rfl) | (simp [*, errW_none, errW_some] <;> rfl), by first | exact Kd.R_nil _ _ _ _ _ | exact Kd.N_nil _ _ _ _ _ | exact Kd.V_nil _ _ _ _ _ | exact Kd.Q_nil _ _ _ _ _ | exact Kd.S_nil _ _ _ _ _, by repeat (first | (with_reducible first | exact HB.out | apply below_alloc | apply pw_below_drewN | apply below_drew1 | refine below_set ?_ (IsS81.ge HI395.out) | refine below_setA ?_ (by assumption)) | exact HB.out)⟩
   ·rw [if_neg c45] at H
    have c45b0 : decide (4000 < a1) = false := decide_eq_false c45
    clear c45
    have H' := zM H
    clear H
    go_enter Try.func27, Try.ntmps27
    go_wp2_with (first | ((with_reducible refine gate_dst (N := 2) rfl ?_); (try (refine gate_guard (by rfl) ?_; dsimp only)); refine box_event ?hg (N := 2) ?hd (cs := #[.int .u64 a0_0, .int .u64 a0_1]) (t := 27) ?hr ?_; (case hd => rfl); (case hg => rfl); (case hr => first | (go_simp; done) | (go_simp; rfl)); intro gb389 hg w66 hbox hb; have BK389 := zM (hbox); have GW389 := zM ((by rw [hg]; exact (below_size (HB.out)) : w.heap.size ≤ gb389)); have GE389 := GW389; replace HB := zM (below_step (HB.out) hb); clear hb hbox hg) | ((with_reducible refine gate_dst (N := 5) rfl ?_); (try (refine gate_guard (by rfl) ?_; dsimp only)); refine box_event ?hg (N := 5) ?hd (cs := #[.int .u64 0, .int .u64 0]) (t := 27) ?hr ?_; (case hd => rfl); (case hg => rfl); (case hr => first | (go_simp; done) | (go_simp; rfl)); intro gb390 hg w67 hbox hb; have BK390 := zM (hbox); have GW390 := zM ((by rw [hg]; exact (below_size (by repeat (first | (with_reducible first | exact HB.out | apply pzA | apply pzD | apply pz1 | apply pzs | assumption) | exact HB.out))) : w.heap.size ≤ gb390)); have GE390 := GW390; have NB389_390 := pzf BK389 hg; have NB390_389 := pzg BK389 hg; replace BK389 := pzb BK389 hb; replace HB := zM (below_step (by repeat (first | (with_reducible first | exact HB.out | apply pzA | apply pzD | apply pz1 | apply pzs | assumption) | exact HB.out)) hb); clear hb hbox hg) | ((with_reducible refine gate_dst (N := 6) rfl ?_); (try (refine gate_guard (by rfl) ?_; dsimp only)); refine box_event ?hg (N := 6) ?hd (cs := #[.int .i64 0, .int .i64 0]) (t := 29) ?hr ?_; (case hd => rfl); (case hg => rfl); (case hr => first | (go_simp; done) | (go_simp; rfl)); intro gb391 hg w68 hbox hb; have BK391 := zM (hbox); have GW391 := zM ((by rw [hg]; exact (below_size (by repeat (first | (with_reducible first | exact HB.out | apply pzA | apply pzD | apply pz1 | apply pzs | assumption) | exact HB.out))) : w.heap.size ≤ gb391)); have GE391 := GW391; have NB389_391 := pzf BK389 hg; have NB391_389 := pzg BK389 hg; have NB390_391 := pzf BK390 hg; have NB391_390 := pzg BK390 hg; replace BK389 := pzb BK389 hb; replace BK390 := pzb BK390 hb; replace HB := zM (below_step (by repeat (first | (with_reducible first | exact HB.out | apply pzA | apply pzD | apply pz1 | apply pzs | assumption) | exact HB.out)) hb); clear hb hbox hg; have hnb69 := NB389_390.out; have hnc69 := NB390_389.out; have hnb70 := NB389_391.out; have hnc70 := NB391_389.out; have hcz71_0 := pzc (v := .int .u64 a0_0) BK389 0 rfl; have hcz71_1 := pzc (v := .int .u64 a0_1) BK389 1 rfl; have hfz71_0 := zF BK389.out 0; have hfz71_1 := zF BK389.out 1) | ((with_reducible refine gate_callee (f := 39) rfl ?_); refine goesL_ (some 14) rfl rfl Try.func39 (by kernel_rfl) rfl #[.agg #[.int .u64 a0_0, .int .u64 a0_1]] rfl (by (try simp only [zT, zC, zN]); first | done | rfl | (simp only [zR, zL]; rfl)) ?_; (with_reducible refine (random_open_ok.calls a0_0 a0_1 t393 t394 w _ ?side1 A23.out).mono ?_); (case side1 => repeat (first | (with_reducible first | exact HB.out | apply pzA | apply pzD | apply pz1 | apply pzs | assumption) | exact HB.out)); rintro e w72 ⟨g395, rfl, hi, hb, hb2⟩; refine ⟨_, rfl, ?_⟩; have HI395 := zM (hi); have NB395_389 := zM (IsS81.ne_blk hi (blk_below (g := gb389) (o := .cells #[.int .u64 a0_0, .int .u64 a0_1] 27 (0, 0)) BK389.out hb2) (by decide)); have NB389_395 := zM (Ne.symm (IsS81.ne_blk hi (blk_below (g := gb389) (o := .cells #[.int .u64 a0_0, .int .u64 a0_1] 27 (0, 0)) BK389.out hb2) (by decide))); have NB395_390 := zM (IsS81.ne_blk hi (blk_below (g := gb390) (o := .cells #[.int .u64 0, .int .u64 0] 27 (0, 0)) BK390.out hb2) (by decide)); have NB390_395 := zM (Ne.symm (IsS81.ne_blk hi (blk_below (g := gb390) (o := .cells #[.int .u64 0, .int .u64 0] 27 (0, 0)) BK390.out hb2) (by decide))); have NB395_391 := zM (IsS81.ne_blk hi (blk_below (g := gb391) (o := .cells #[.int .i64 0, .int .i64 0] 29 (0, 0)) BK391.out hb2) (by decide)); have NB391_395 := zM (Ne.symm (IsS81.ne_blk hi (blk_below (g := gb391) (o := .cells #[.int .i64 0, .int .i64 0] 29 (0, 0)) BK391.out hb2) (by decide))); replace BK390 := zM (blk_below (g := gb390) (o := .cells #[.int .u64 0, .int .u64 0] 27 (0, 0)) BK390.out hb2); replace BK391 := zM (blk_below (g := gb391) (o := .cells #[.int .i64 0, .int .i64 0] 29 (0, 0)) BK391.out hb2); replace HB := zM (hb); (try clear hb); (try clear hb2); (try clear hk); (try clear hi)) | ((with_reducible refine gate_dst (N := 8) rfl ?_); (try (refine gate_guard (by rfl) ?_; dsimp only)); refine box_event ?hg (N := 8) ?hd (cs := #[.int .i64 0, .int .i64 0]) (t := 29) ?hr ?_; (case hd => rfl); (case hg => rfl); (case hr => first | (go_simp; done) | (go_simp; rfl)); intro gb396 hg w73 hbox hb; have BK396 := zM (hbox); have GW396 := zM ((by rw [hg]; exact (below_size (by repeat (first | (with_reducible first | exact HB.out | apply below_alloc | apply pw_below_drewN | apply below_drew1 | refine below_set ?_ (IsS81.ge HI395.out) | refine below_setA ?_ (by assumption)) | exact HB.out))) : w.heap.size ≤ gb396)); have GE396 := GW396; have NB390_396 := pzf BK390 hg; have NB396_390 := pzg BK390 hg; have NB391_396 := pzf BK391 hg; have NB396_391 := pzg BK391 hg; have NB395_396 := zM ((by rw [hg]; exact Nat.ne_of_lt (IsS81.lt (show IsS81 w _ g395 t393 t394 from by repeat (first | (with_reducible first | exact HI395.out | apply IsS81.alloc | apply IsS81.drewN | apply IsS81.drew | apply IsS81.set_0 | apply IsS81.set_1 | refine IsS81.far ?_ NB395_389.out _ | refine IsS81.far ?_ NB395_390.out _ | refine IsS81.far ?_ NB395_391.out _) | exact HI395.out))) : g395 ≠ gb396)); replace BK390 := pzb BK390 hb; replace BK391 := pzb BK391 hb; replace HB := zM (below_step (by repeat (first | (with_reducible first | exact HB.out | apply below_alloc | apply pw_below_drewN | apply below_drew1 | refine below_set ?_ (IsS81.ge HI395.out) | refine below_setA ?_ (by assumption)) | exact HB.out)) hb); replace HI395 := zM (IsS81.below (by repeat (first | (with_reducible first | exact HI395.out | apply IsS81.alloc | apply IsS81.drewN | apply IsS81.drew | apply IsS81.set_0 | apply IsS81.set_1 | refine IsS81.far ?_ NB395_389.out _ | refine IsS81.far ?_ NB395_390.out _ | refine IsS81.far ?_ NB395_391.out _) | exact HI395.out)) hb); clear hb hbox hg; have hnb75 := NB396_390.out; have hnc75 := NB390_396.out; have hnb76 := NB396_391.out; have hnc76 := NB391_396.out; have hcz78_0 := pzc (v := .int .i64 0) BK396 0 rfl; have hcz78_1 := pzc (v := .int .i64 0) BK396 1 rfl; have hfz78_0 := zF BK396.out 0; have hfz78_1 := zF BK396.out 1))
    go_loopg [9] k (fun kq v9 w' => ∃ (x9_1 : List Int) (x396000_1 : Int) (x396001_1 : Int), Aside0 (random_Bytes.l0 kq a1 x9_1 x396000_1 x396001_1 = some (r1, r2, r3, r4, r5)) ∧ Aside0 (kq ≤ k) ∧ Aside0 (Kd.R (Kd.int .u8) 5 w' w.heap.size (fun _ => True) v9 x9_1) ∧ Aside0 (w'.heap[gb390]? = some (.cells #[.int .u64 0, .int .u64 0] 27 (0, 0))) ∧ Aside0 (w'.heap[gb391]? = some (.cells #[.int .i64 0, .int .i64 0] 29 (0, 0))) ∧ Aside0 (IsS81 w w' g395 x396000_1 x396001_1) ∧ Aside0 (Below w.heap.size w w'))
    case atStart => exact ⟨(([] : List Int)), (t393), (t394), H', ⟨Nat.le_refl _⟩, ⟨by first | exact Kd.R_nil _ _ _ _ _ | exact Kd.N_nil _ _ _ _ _ | exact Kd.V_nil _ _ _ _ _ | exact Kd.Q_nil _ _ _ _ _ | exact Kd.S_nil _ _ _ _ _⟩, ⟨by (with_reducible repeat (first | apply pzN | apply pzd | apply pza)); refine blk_far ?_ NB390_396.out _; (with_reducible repeat (first | apply pzN | apply pzd | apply pza)); refine blk_far ?_ NB390_396.out _; (with_reducible repeat (first | apply pzN | apply pzd | apply pza)); exact BK390.out⟩, ⟨by (with_reducible repeat (first | apply pzN | apply pzd | apply pza)); refine blk_far ?_ NB391_396.out _; (with_reducible repeat (first | apply pzN | apply pzd | apply pza)); refine blk_far ?_ NB391_396.out _; (with_reducible repeat (first | apply pzN | apply pzd | apply pza)); exact BK391.out⟩, ⟨by repeat (first | (with_reducible first | exact HI395.out | apply IsS81.alloc | apply IsS81.drewN | apply IsS81.drew | apply IsS81.set_0 | apply IsS81.set_1 | refine IsS81.far ?_ NB395_389.out _ | refine IsS81.far ?_ NB395_390.out _ | refine IsS81.far ?_ NB395_391.out _ | refine IsS81.far ?_ NB395_396.out _) | exact HI395.out)⟩, ⟨by repeat (first | (with_reducible first | exact HB.out | apply below_alloc | apply pw_below_drewN | apply below_drew1 | refine below_set ?_ (IsS81.ge HI395.out) | refine below_setA ?_ (by assumption)) | exact HB.out)⟩⟩
    case round =>
     clear H'
     try clear c1
     try clear c2
     try clear p2
     try clear c3
     try clear c3b0
     try clear c3b1
     try clear c4
     try clear c5
     try clear c6
     try clear c7
     try clear c8
     try clear c9
     try clear c13
     try clear c14
     try clear c15
     try clear c24
     try clear c24b0
     try clear c27
     try clear c29
     try clear c30
     try clear c34
     try clear c35
     try clear c36
     try clear c37
     try clear c39
     try clear c40
     try clear c41
     try clear c43
     try clear c45
     try clear c45b0
     try clear c50
     try clear c51
     try clear c55
     try clear c56
     try clear c57
     try clear c58
     try clear c61
     try clear c62
     try clear c64
     try clear c69
     try clear c70
     try clear c74
     try clear c75
     try clear c76
     try clear c77
     try clear hcz10_0
     try clear hcz10_1
     try clear hcz16_0
     try clear hcz16_1
     try clear hcz31_0
     try clear hcz31_1
     try clear hcz38_0
     try clear hcz38_1
     try clear hcz42_0
     try clear hcz42_1
     try clear hcz44_0
     try clear hcz44_1
     try clear hcz52_0
     try clear hcz52_1
     try clear hcz59_0
     try clear hcz59_1
     try clear hcz63_0
     try clear hcz63_1
     try clear hcz65_0
     try clear hcz65_1
     try clear hcz71_0
     try clear hcz71_1
     try clear hcz78_0
     try clear hcz78_1
     try clear hfz10_0
     try clear hfz10_1
     try clear hfz16_0
     try clear hfz16_1
     try clear hfz31_0
     try clear hfz31_1
     try clear hfz38_0
     try clear hfz38_1
     try clear hfz42_0
     try clear hfz42_1
     try clear hfz44_0
     try clear hfz44_1
     try clear hfz52_0
     try clear hfz52_1
     try clear hfz59_0
     try clear hfz59_1
     try clear hfz63_0
     try clear hfz63_1
     try clear hfz65_0
     try clear hfz65_1
     try clear hfz71_0
     try clear hfz71_1
     try clear hfz78_0
     try clear hfz78_1
     obtain ⟨x9_1, x396000_1, x396001_1, HA, HK1, HO_9, BK390, BK391, HI395, HB⟩ := hrel
     cases gk with
     | zero => exact absurd HA.out (by simp [random_Bytes.l0])
     | succ k1 =>
      have H := HA.out
      clear HA
      simp only [random_Bytes.l0] at H
      by_cases c79 : (x9_1.length : Int) < a1
      ·rw [if_pos c79] at H
       have c79b0 : decide ((x9_1.length : Int) < a1) = true := zE c79
       clear c79
       replace H := zB H
       obtain ⟨⟨t401, t402, t403⟩, A800, H⟩ := H
       replace H : (random_Bytes.l1 k1 a1 x9_1 t401 0 t402 t403) = some (r1, r2, r3, r4, r5) := H
       have A80 := zM A800
       clear A800
       have H' := zM H
       clear H
       obtain ⟨Ao81, co81, eo81⟩ := Kd.R_slice HO_9.out
       subst eo81
       go_wp2_with (first | ((with_reducible refine gate_callee (f := 40) rfl ?_); refine goesL_ (some 37) rfl rfl Try.func40 (by kernel_rfl) rfl #[.pointer (some ⟨g395, 0, none⟩)] rfl (by (try simp only [zT, zC, zN]); first | done | rfl | (simp only [zR, zL]; rfl)) ?_; (with_reducible refine (random_source_next.calls g395 x396000_1 x396001_1 t401 t402 t403 w _ ?side1 ?side2 A80.out).mono ?_); (case side1 => repeat (first | (with_reducible first | exact HI395.out | apply IsS81.alloc | apply IsS81.drewN | apply IsS81.drew | apply IsS81.set_0 | apply IsS81.set_1 | refine IsS81.far ?_ NB395_390.out _ | refine IsS81.far ?_ NB395_391.out _) | exact HI395.out)); (case side2 => repeat (first | (with_reducible first | exact HB.out | apply below_alloc | apply pw_below_drewN | apply below_drew1 | refine below_set ?_ (IsS81.ge HI395.out) | refine below_setA ?_ (by assumption)) | exact HB.out)); rintro e w82 ⟨rfl, hi, hb, hk⟩; refine ⟨_, rfl, ?_⟩; replace HO_9 := zM (Kd.R_mono (Kd.R_keep (IsS81.apart (show IsS81 w _ g395 x396000_1 x396001_1 from by repeat (first | (with_reducible first | exact HI395.out | apply IsS81.alloc | apply IsS81.drewN | apply IsS81.drew | apply IsS81.set_0 | apply IsS81.set_1 | refine IsS81.far ?_ NB395_390.out _ | refine IsS81.far ?_ NB395_391.out _) | exact HI395.out)) HO_9.out (by decide)) hk (fun _ h => h.2)) (fun _ h => h.1)); replace BK390 := zM (KeepBut.blk hk (g' := gb390) (o := .cells #[.int .u64 0, .int .u64 0] 27 (0, 0)) BK390.out NB390_395.out (by simp)); replace BK391 := zM (KeepBut.blk hk (g' := gb391) (o := .cells #[.int .i64 0, .int .i64 0] 29 (0, 0)) BK391.out NB391_395.out (by simp)); replace HB := zM (hb); replace HI395 := zM (hi); (try clear hb); (try clear hb2); (try clear hk); (try clear hi)))
       go_loopg [9, 11] k1 (fun kq v9 v11 w' => ∃ (x9_2 : List Int) (x11_2 : Int), v11 = .int .i64 x11_2 ∧ Aside0 (random_Bytes.l1 kq a1 x9_2 t401 x11_2 t402 t403 = some (r1, r2, r3, r4, r5)) ∧ Aside0 (kq ≤ k1) ∧ Aside0 (Kd.R (Kd.int .u8) 5 w' w.heap.size (fun _ => True) v9 x9_2) ∧ Aside0 (w'.heap[gb390]? = some (.cells #[.int .u64 0, .int .u64 0] 27 (0, 0))) ∧ Aside0 (w'.heap[gb391]? = some (.cells #[.int .i64 0, .int .i64 0] 29 (0, 0))) ∧ Aside0 (IsS81 w w' g395 t402 t403) ∧ Aside0 (Below w.heap.size w w'))
       case atStart => exact ⟨(x9_1), (0), (by first | rfl | (simp; done) | (simp [*]; done)), H', ⟨Nat.le_refl _⟩, ⟨by (with_reducible repeat (first | apply Kd.R_alloc | apply Kd.R_drewN | apply Kd.R_drew)); exact HO_9.out⟩, ⟨by (with_reducible repeat (first | apply pzN | apply pzd | apply pza)); exact BK390.out⟩, ⟨by (with_reducible repeat (first | apply pzN | apply pzd | apply pza)); exact BK391.out⟩, ⟨by repeat (first | (with_reducible first | exact HI395.out | apply IsS81.alloc | apply IsS81.drewN | apply IsS81.drew | apply IsS81.set_0 | apply IsS81.set_1 | refine IsS81.far ?_ NB395_390.out _ | refine IsS81.far ?_ NB395_391.out _) | exact HI395.out)⟩, ⟨by repeat (first | (with_reducible first | exact HB.out | apply below_alloc | apply pw_below_drewN | apply below_drew1 | refine below_set ?_ (IsS81.ge HI395.out) | refine below_setA ?_ (by assumption)) | exact HB.out)⟩⟩
       case round =>
        clear H'
        try clear c1
        try clear c2
        try clear p2
        try clear c3
        try clear c3b0
        try clear c3b1
        try clear c4
        try clear c5
        try clear c6
        try clear c7
        try clear c8
        try clear c9
        try clear c13
        try clear c14
        try clear c15
        try clear c24
        try clear c24b0
        try clear c27
        try clear c29
        try clear c30
        try clear c34
        try clear c35
        try clear c36
        try clear c37
        try clear c39
        try clear c40
        try clear c41
        try clear c43
        try clear c45
        try clear c45b0
        try clear c50
        try clear c51
        try clear c55
        try clear c56
        try clear c57
        try clear c58
        try clear c61
        try clear c62
        try clear c64
        try clear c69
        try clear c70
        try clear c74
        try clear c75
        try clear c76
        try clear c77
        try clear c79
        try clear c79b0
        try clear hcz10_0
        try clear hcz10_1
        try clear hcz16_0
        try clear hcz16_1
        try clear hcz31_0
        try clear hcz31_1
        try clear hcz38_0
        try clear hcz38_1
        try clear hcz42_0
        try clear hcz42_1
        try clear hcz44_0
        try clear hcz44_1
        try clear hcz52_0
        try clear hcz52_1
        try clear hcz59_0
        try clear hcz59_1
        try clear hcz63_0
        try clear hcz63_1
        try clear hcz65_0
        try clear hcz65_1
        try clear hcz71_0
        try clear hcz71_1
        try clear hcz78_0
        try clear hcz78_1
        try clear hfz10_0
        try clear hfz10_1
        try clear hfz16_0
        try clear hfz16_1
        try clear hfz31_0
        try clear hfz31_1
        try clear hfz38_0
        try clear hfz38_1
        try clear hfz42_0
        try clear hfz42_1
        try clear hfz44_0
        try clear hfz44_1
        try clear hfz52_0
        try clear hfz52_1
        try clear hfz59_0
        try clear hfz59_1
        try clear hfz63_0
        try clear hfz63_1
        try clear hfz65_0
        try clear hfz65_1
        try clear hfz71_0
        try clear hfz71_1
        try clear hfz78_0
        try clear hfz78_1
        try clear p2
        obtain ⟨x9_2, x11_2, rfl, HA, HK2, HO_9, BK390, BK391, HI395, HB⟩ := hrel
        cases gk with
        | zero => exact absurd HA.out (by simp [random_Bytes.l1])
        | succ k2 =>
         have H := HA.out
         clear HA
         simp only [random_Bytes.l1] at H
         by_cases c83 : x11_2 < 8
         ·rw [if_pos c83] at H
          have c83b0 : decide (x11_2 < 8) = true := zE c83
          clear c83
          by_cases c84 : (x9_2.length : Int) < a1
          ·rw [if_pos c84] at H
           have c84b0 : decide ((x9_2.length : Int) < a1) = true := zE c84
           clear c84
           obtain ⟨ji85, hji85⟩ : ∃ j_ : Int, (wrap64 (8 * x11_2)) = j_ := ⟨_, rfl⟩
           replace H : (if 0 ≤ (ji85) then (if x9_2.length < 140737488355328 then (random_Bytes.l1 k2 a1 (x9_2 ++ [(shr .u64 t401 (ji85)) % 256]) t401 (wrap64 (x11_2 + 1)) t402 t403) else (none)) else (none)) = some (r1, r2, r3, r4, r5) := by first | (rw [hji85] at H; exact H) | (simp only [hji85] at H ⊢; exact H)
           have hji85w : (IntKind.i64.wrap (8 * x11_2)) = ji85 := (i64_w _).trans hji85
           by_cases c86 : 0 ≤ (ji85)
           ·rw [if_pos c86] at H
            have c86b0 := eq_true c86
            have c86b1 : decide (0 ≤ (ji85)) = true := zE c86
            clear c86
            obtain ⟨ji87, hji87⟩ : ∃ j_ : Int, (shr .u64 t401 (ji85)) = j_ := ⟨_, rfl⟩
            replace H : (if x9_2.length < 140737488355328 then (random_Bytes.l1 k2 a1 (x9_2 ++ [(ji87) % 256]) t401 (wrap64 (x11_2 + 1)) t402 t403) else (none)) = some (r1, r2, r3, r4, r5) := by first | (rw [hji87] at H; exact H) | (simp only [hji87] at H ⊢; exact H)
            have hji87_ : (t401 / 2 ^ min (ji85).toNat 64) = ji87 := hji87
            have hji87z : (ji85) ≤ 64 → (t401 / 2 ^ (ji85).toNat) = ji87 := shr_small hji87
            by_cases c88 : x9_2.length < 140737488355328
            ·rw [if_pos c88] at H
             have LMc88 := zM c88
             clear c88
             obtain ⟨y404, hy404⟩ : ∃ y_ : List Int, y_ = (x9_2 ++ [(ji87) % 256]) := ⟨_, rfl⟩
             replace H : (random_Bytes.l1 k2 a1 y404 t401 (wrap64 (x11_2 + 1)) t402 t403) = some (r1, r2, r3, r4, r5) := by first | (rw [hy404]; with_reducible exact H) | (have H2_ := (Option.bind_some _ _).symm.trans H; rw [hy404]; with_reducible exact H2_) | (have H2_ := (Option.bind_some _ _).symm.trans H; with_reducible exact H2_) | with_reducible exact H | (rw [hy404]; exact H) | exact H
             have Ny404 := zM hy404
             clear hy404
             have H' := zM H
             clear H
             obtain ⟨Ao89, co89, eo89⟩ := Kd.R_slice HO_9.out
             subst eo89
             go_wp2_with (first | ((with_reducible refine gate_builtin (b := .append) (xs := #[.tmp 48, .tmp 54]) rfl ?_); (try (refine gate_guard (by rfl) ?_; dsimp only)); at_builtin; refine Kd.R_append (Kd.int .u8) (w0 := w) w.heap.size rfl (.tmp 48) (.tmp 54) 60 5 (.int .u8 0) 1 rfl Try.underlying60 info5 rfl (by decide) (by omega) (.slice Ao89 x9_2.length co89) x9_2 ((ji87) % 256) [.int .u8 ((ji87) % 256)] (fun _ => True) (fun _ => False) rfl rfl ?aP (fun _ hk => hk.elim) ?aF ?aO ?aB ?aS ?aL ?_; (case aP => exact rfl); (case aB => exact (by repeat (first | (with_reducible first | exact HB.out | apply below_alloc | apply pw_below_drewN | apply below_drew1 | refine below_set ?_ (IsS81.ge HI395.out) | refine below_setA ?_ (by assumption)) | exact HB.out))); (case aF => exact (fun _ _ => trivial)); (case aO => exact HO_9.out); (case aS => exact (below_size (by repeat (first | (with_reducible first | exact HB.out | apply below_alloc | apply pw_below_drewN | apply below_drew1 | refine below_set ?_ (IsS81.ge HI395.out) | refine below_setA ?_ (by assumption)) | exact HB.out)))); (case aL => have := LMc88.out; omega); intro v405 w90 ho hb hg hat; rw [← Ny404.out] at ho; have n0_ := zM (blk_grown (g := gb390) (o := .cells #[.int .u64 0, .int .u64 0] 27 (0, 0)) BK390.out hg (Kd.R_ne HO_9.out BK390.out (by decide))); have n1_ := zM (blk_grown (g := gb391) (o := .cells #[.int .i64 0, .int .i64 0] 29 (0, 0)) BK391.out hg (Kd.R_ne HO_9.out BK391.out (by decide))); have n2_ := zM (IsS81.grown (by repeat (first | (with_reducible first | exact HI395.out | apply IsS81.alloc | apply IsS81.drewN | apply IsS81.drew | apply IsS81.set_0 | apply IsS81.set_1 | refine IsS81.far ?_ NB395_390.out _ | refine IsS81.far ?_ NB395_391.out _) | exact HI395.out)) hg (IsS81.own_ne HI395.out HO_9.out (by decide))); have n3_ := zM (hb); have n4_ := zM (ho); clear BK390; clear BK391; clear HI395; clear HB; clear HO_9; have BK390 := n0_; have BK391 := n1_; have HI395 := n2_; have HB := n3_; have HO406 := n4_; clear n0_ n1_ n2_ n3_ n4_; clear ho hb hg hat))
             go_roundg k2
             case measure => have := HK1.out; have := HK2.out; omega
             case rel => exact ⟨(y404), (wrap64 (x11_2 + 1)), (by first | rfl | (simp; done) | (simp [*]; done)), H', ⟨by have := HK1.out; have := HK2.out; omega⟩, ⟨by (with_reducible repeat (first | apply Kd.R_alloc | apply Kd.R_drewN | apply Kd.R_drew)); exact HO406.out⟩, ⟨by (with_reducible repeat (first | apply pzN | apply pzd | apply pza)); exact BK390.out⟩, ⟨by (with_reducible repeat (first | apply pzN | apply pzd | apply pza)); exact BK391.out⟩, ⟨by repeat (first | (with_reducible first | exact HI395.out | apply IsS81.alloc | apply IsS81.drewN | apply IsS81.drew | apply IsS81.set_0 | apply IsS81.set_1 | refine IsS81.far ?_ NB395_390.out _ | refine IsS81.far ?_ NB395_391.out _) | exact HI395.out)⟩, ⟨by repeat (first | (with_reducible first | exact HB.out | apply below_alloc | apply pw_below_drewN | apply below_drew1 | refine below_set ?_ (IsS81.ge HI395.out) | refine below_setA ?_ (by assumption)) | exact HB.out)⟩⟩
            ·rw [if_neg c88] at H
             exact absurd H (by simp)
           ·rw [if_neg c86] at H
            exact absurd H (by simp)
          ·rw [if_neg c84] at H
           have c84b0 : decide ((x9_2.length : Int) < a1) = false := decide_eq_false c84
           clear c84
           have H' := zM H
           clear H
           obtain ⟨Ao91, co91, eo91⟩ := Kd.R_slice HO_9.out
           subst eo91
           go_wp2
           go_roundg k2
           case measure => have := HK1.out; have := HK2.out; omega
           case rel => exact ⟨(x9_2), (t402), (t403), H', ⟨by have := HK1.out; have := HK2.out; omega⟩, ⟨by (with_reducible repeat (first | apply Kd.R_alloc | apply Kd.R_drewN | apply Kd.R_drew)); exact HO_9.out⟩, ⟨by (with_reducible repeat (first | apply pzN | apply pzd | apply pza)); exact BK390.out⟩, ⟨by (with_reducible repeat (first | apply pzN | apply pzd | apply pza)); exact BK391.out⟩, ⟨by repeat (first | (with_reducible first | exact HI395.out | apply IsS81.alloc | apply IsS81.drewN | apply IsS81.drew | apply IsS81.set_0 | apply IsS81.set_1 | refine IsS81.far ?_ NB395_390.out _ | refine IsS81.far ?_ NB395_391.out _) | exact HI395.out)⟩, ⟨by repeat (first | (with_reducible first | exact HB.out | apply below_alloc | apply pw_below_drewN | apply below_drew1 | refine below_set ?_ (IsS81.ge HI395.out) | refine below_setA ?_ (by assumption)) | exact HB.out)⟩⟩
         ·rw [if_neg c83] at H
          have c83b0 : decide (x11_2 < 8) = false := decide_eq_false c83
          clear c83
          have H' := zM H
          clear H
          go_wp2
          go_roundg k2
          case measure => have := HK1.out; have := HK2.out; omega
          case rel => exact ⟨(x9_2), (t402), (t403), H', ⟨by have := HK1.out; have := HK2.out; omega⟩, ⟨by (with_reducible repeat (first | apply Kd.R_alloc | apply Kd.R_drewN | apply Kd.R_drew)); exact HO_9.out⟩, ⟨by (with_reducible repeat (first | apply pzN | apply pzd | apply pza)); exact BK390.out⟩, ⟨by (with_reducible repeat (first | apply pzN | apply pzd | apply pza)); exact BK391.out⟩, ⟨by repeat (first | (with_reducible first | exact HI395.out | apply IsS81.alloc | apply IsS81.drewN | apply IsS81.drew | apply IsS81.set_0 | apply IsS81.set_1 | refine IsS81.far ?_ NB395_390.out _ | refine IsS81.far ?_ NB395_391.out _) | exact HI395.out)⟩, ⟨by repeat (first | (with_reducible first | exact HB.out | apply below_alloc | apply pw_below_drewN | apply below_drew1 | refine below_set ?_ (IsS81.ge HI395.out) | refine below_setA ?_ (by assumption)) | exact HB.out)⟩⟩
      ·rw [if_neg c79] at H
       have c79b0 : decide ((x9_1.length : Int) < a1) = false := decide_eq_false c79
       clear c79
       simp only [Option.some.injEq, Prod.mk.injEq] at H
       obtain ⟨rfl, rfl, rfl, rfl, rfl⟩ := H
       obtain ⟨Ao92, co92, eo92⟩ := Kd.R_slice HO_9.out
       subst eo92
       try go_wp2
       replace HO_9 := zM (Kd.R_drew HO_9.out)
       replace BK390 := zM (blk_drew BK390.out)
       replace BK391 := zM (blk_drew BK391.out)
       replace HI395 := zM (IsS81.drew HI395.out)
       replace HB := zM (below_drew1 HB.out)
       refine start_ (n := 9) (S := fun w' => w'.cell? ⟨g395, 0, none⟩ = some (.int .u64 x396000_1) ∧ w'.cell? ⟨g395, 1, none⟩ = some (.int .u64 x396001_1)) (ds := []) #[false, false, false, false, false, false, false, false, false] (by kernel_rfl) rfl rfl ⟨(blk_cell (zM HI395.out.1).out 0).trans rfl, (blk_cell (zM HI395.out.1).out 1).trans rfl⟩ (fun hHeld => ?_); refine with_tabW random_Bytes.tab13 random_Bytes.bits13 (fun HT_ HW_ => ?_)
       generalize wr.drew = w93 at HO_9 BK390 BK391 HI395 HB hHeld ⊢
       refine pure_ (i := 0) (N := some 56) (v := ?_) (a' := ?_) #[true, false, false, false, false, false, false, false, false] rfl rfl (any_of HT_.out (by kernel_rfl)) (fun _ _ _ h => h) (Or.inl ⟨by rfl, ?_⟩) ?_ ?_
       rotate_left
       ·intro w'
        go_simp
        with_reducible rfl
       rotate_left
       ·simp only [Act.put, zS, z0, z1, i64_w, i32_w]
        rfl
       refine pure_ (i := 1) (N := some 57) (v := ?_) (a' := ?_) #[true, true, false, false, false, false, false, false, false] rfl rfl (any_of HT_.out (by kernel_rfl)) (fun _ _ _ h => h) (Or.inl ⟨by rfl, ?_⟩) ?_ ?_
       rotate_left
       ·intro w'
        go_simp
        with_reducible rfl
       rotate_left
       ·simp only [Act.put, zS, z0, z1, i64_w, i32_w]
        rfl
       refine pure_ (i := 2) (N := some 58) (v := ?_) (a' := ?_) #[true, true, true, false, false, false, false, false, false] rfl rfl (any_of HT_.out (by kernel_rfl)) (fun _ _ _ h => h) (Or.inl ⟨by rfl, ?_⟩) ?_ ?_
       rotate_left
       ·intro w'
        go_simp
        with_reducible rfl
       rotate_left
       ·simp only [Act.put, zS, z0, z1, i64_w, i32_w]
        rfl
       refine pure_ (i := 3) (N := some 59) (v := ?_) (a' := ?_) #[true, true, true, true, false, false, false, false, false] rfl rfl (any_of HT_.out (by kernel_rfl)) (fun _ _ _ h => h) (Or.inl ⟨by rfl, ?_⟩) ?_ ?_
       rotate_left
       ·intro w'
        go_simp
        with_reducible rfl
       rotate_left
       ·simp only [Act.put, zS, z0, z1, i64_w, i32_w]
        rfl
       refine pure_ (i := 5) (N := some 61) (v := ?_) (a' := ?_) #[true, true, true, true, false, true, false, false, false] rfl rfl (any_of HT_.out (by kernel_rfl)) (fun _ _ _ h => h) (Or.inl ⟨by rfl, ?_⟩) ?_ ?_
       rotate_left
       ·intro w'
        go_simp
        with_reducible rfl
       rotate_left
       ·simp only [Act.put, zS, z0, z1, i64_w, i32_w]
        rfl
       refine pure_ (i := 6) (N := some 4) (v := ?_) (a' := ?_) #[true, true, true, true, false, true, true, false, false] rfl rfl (any_of HT_.out (by kernel_rfl)) (fun _ _ _ h => h) (Or.inl ⟨by rfl, ?_⟩) ?_ ?_
       rotate_left
       ·intro w'
        go_simp
        with_reducible rfl
       rotate_left
       ·simp only [Act.put, zS, z0, z1, i64_w, i32_w]
        rfl
       refine take_ (i := 4) (N := some 60) (v := ?_) (a' := ?_) #[true, true, true, true, true, true, true, false, false] rfl rfl (take_ofW HT_.out HW_.out (by kernel_rfl)) (fun _ _ _ h => h) (Or.inl ⟨by rfl, ?_⟩) hHeld ?_ ?_
       rotate_left
       ·rintro w' ⟨s0, s1⟩
        go_simp
        with_reducible rfl
       rotate_left
       ·simp only [Act.put, zS, z0, z1, i64_w, i32_w]
        rfl
       refine one_ (i := 7) (N := none) #[true, true, true, true, true, true, true, true, false] rfl rfl (one_of HT_.out (by kernel_rfl)) (by decide) (fun K hK => ?_)
       have hs94 : w93.cell? ⟨gb390, 0, none⟩ = some (.int .u64 0) := (blk_cell BK390.out 0).trans rfl
       have hfs94 := zF BK390.out 0
       have hns94_1 := NB391_390.out
       have hms94_1 := NB390_391.out
       have hs95 : w93.cell? ⟨gb390, 1, none⟩ = some (.int .u64 0) := (blk_cell BK390.out 1).trans rfl
       have hfs95 := zF BK390.out 1
       have hns95_1 := NB391_390.out
       have hms95_1 := NB390_391.out
       refine skip_ (w1 := ?_) (by rfl) rfl ?_ ?_
       rotate_left
       ·go_simp
        rfl
       refine hK.out _ _ ⟨((cell_far (p := ⟨gb390, _, none⟩) NB395_390.out _).trans (((cell_far (p := ⟨gb390, _, none⟩) NB395_390.out _).trans (hHeld.1)))), ((cell_far (p := ⟨gb390, _, none⟩) NB395_390.out _).trans (((cell_far (p := ⟨gb390, _, none⟩) NB395_390.out _).trans (hHeld.2))))⟩ (fun hHeld => ?_)
       clear hK K
       refine one_ (i := 8) (N := none) #[true, true, true, true, true, true, true, true, true] rfl rfl (one_of HT_.out (by kernel_rfl)) (by decide) (fun K hK => ?_)
       have hs96 : w93.cell? ⟨gb391, 0, none⟩ = some (.int .i64 0) := (blk_cell BK391.out 0).trans rfl
       have hfs96 := zF BK391.out 0
       have hns96_0 := NB390_391.out
       have hms96_0 := NB391_390.out
       have hs97 : w93.cell? ⟨gb391, 1, none⟩ = some (.int .i64 0) := (blk_cell BK391.out 1).trans rfl
       have hfs97 := zF BK391.out 1
       have hns97_0 := NB390_391.out
       have hms97_0 := NB391_390.out
       refine skip_ (w1 := ?_) (by rfl) rfl ?_ ?_
       rotate_left
       ·go_simp
        rfl
       refine hK.out _ _ ⟨((cell_far (p := ⟨gb391, _, none⟩) NB395_391.out _).trans (((cell_far (p := ⟨gb391, _, none⟩) NB395_391.out _).trans (hHeld.1)))), ((cell_far (p := ⟨gb391, _, none⟩) NB395_391.out _).trans (((cell_far (p := ⟨gb391, _, none⟩) NB395_391.out _).trans (hHeld.2))))⟩ (fun hHeld => ?_)
       clear hK K
       refine done_ (done_of HT_.out (by kernel_rfl)) ?_
       try go_wp2
       refine bodyPost_ret (results_list (rs := [.tmp 4, .cell 5 27, .cell 6 29]) rfl (by simp) (.tmp (.cell gb390 27 #[.int .u64 x396000_1, .int .u64 x396001_1] (0, 0) _ rfl (by (with_reducible repeat (first | apply pzN | apply pzd | apply pza)); refine blk_far ?_ NB390_391.out _; (with_reducible repeat (first | apply pzN | apply pzd | apply pza)); refine blk_far ?_ NB390_391.out _; (with_reducible repeat (first | apply pzN | apply pzd | apply pza)); refine blk_put (cs := #[.int .u64 x396000_1, .int .u64 0]) ?_ 1 _ rfl; (with_reducible repeat (first | apply pzN | apply pzd | apply pza)); refine blk_put (cs := #[.int .u64 0, .int .u64 0]) ?_ 0 _ rfl; (with_reducible repeat (first | apply pzN | apply pzd | apply pza)); exact BK390.out) Try.underlying27 rfl (by kernel_rfl) (.cell gb391 29 #[.int .i64 0, .int .i64 0] (0, 0) _ rfl (by (with_reducible repeat (first | apply pzN | apply pzd | apply pza)); refine blk_put (cs := #[.int .i64 0, .int .i64 0]) ?_ 1 _ rfl; (with_reducible repeat (first | apply pzN | apply pzd | apply pza)); refine blk_put (cs := #[.int .i64 0, .int .i64 0]) ?_ 0 _ rfl; (with_reducible repeat (first | apply pzN | apply pzd | apply pza)); refine blk_far ?_ NB391_390.out _; (with_reducible repeat (first | apply pzN | apply pzd | apply pza)); refine blk_far ?_ NB391_390.out _; (with_reducible repeat (first | apply pzN | apply pzd | apply pza)); exact BK391.out) Try.underlying29 rfl (by kernel_rfl) .nil)))) rfl ?_
       exact ⟨_, by first | rfl | (simp [errW_none, errW_some] <;> rfl) | (simp [*, errW_none, errW_some] <;> rfl), by (with_reducible repeat (first | apply Kd.R_alloc | apply Kd.R_drewN | apply Kd.R_drew)); exact Kd.R_mono (Kd.R_far (p := ⟨gb391, 1, none⟩) (Kd.R_far (p := ⟨gb391, 0, none⟩) (Kd.R_far (p := ⟨gb390, 1, none⟩) (Kd.R_far (p := ⟨gb390, 0, none⟩) (Kd.R_types (Kd.R_types HO_9.out BK390.out (by decide)) BK391.out (by decide)) (fun _ hk => hk.1.2) (.int .u64 x396000_1)) (fun _ hk => hk.1.2) (.int .u64 x396001_1)) (fun _ hk => hk.2) (.int .i64 0)) (fun _ hk => hk.2) (.int .i64 0)) (fun _ hk => trivial), by repeat (first | (with_reducible first | exact HB.out | apply below_alloc | apply pw_below_drewN | apply below_drew1 | refine below_set ?_ (IsS81.ge HI395.out) | refine below_setA ?_ (by assumption)) | exact HB.out)⟩

/-! ### integer_Small: function 67 -/
def integer_Small.l0 : Nat → Int → List Int → Int → Int → Bool → List Int → Option (Int × Int × Int)
 | 0, _, _, _, _, _, _ => none
 | k + 1, x5, x17, x18, x19, x408000, x408001 => if x19 < x18 then (if 0 ≤ x19 then (if x19 < (x17.length : Int) then (if x19 > 1 then ((integer_at.f 14 (-1)).bind fun bt416 => (some (0, bt416.1, bt416.2))) else (if 0 ≤ (wrap64 (32 * x19)) then (integer_Small.l0 k (Go.bits .or .u64 x5 (shl .u64 (IntKind.u64.wrap (rd x17 x19)) (wrap64 (32 * x19)))) x17 x18 (wrap64 (x19 + 1)) x408000 x408001) else (none))) else (none)) else (none)) else (if x408000 = true then (if ((decide ((wrap64 (-(wrap64 (x5)))) < 0)) != x408000) = true then ((integer_at.f 14 (-1)).bind fun bt418 => (some (0, bt418.1, bt418.2))) else (some (wrap64 (-(wrap64 (x5))), 0, 0))) else (if ((decide ((wrap64 (x5)) < 0)) != x408000) = true then ((integer_at.f 14 (-1)).bind fun bt420 => (some (0, bt420.1, bt420.2))) else (some (wrap64 (x5), 0, 0))))
def integer_Small.f (k : Nat) (a0_0 : Bool) (l0_1 : List Int) : Option (Int × Int × Int) := (integer_check.f k (([(⟨a0_0, l0_1⟩ : S24)] : List (S24)))).bind fun bt412 => (if bt412.1 = 0 then (integer_Small.l0 k 0 l0_1 (l0_1.length : Int) 0 a0_0 l0_1) else (some (0, bt412.1, bt412.2)))
theorem integer_Small.mono_l : ∀ k, (∀ y0 y1 y2 y3 y4 y5, LeO (integer_Small.l0 k y0 y1 y2 y3 y4 y5) (integer_Small.l0 (k + 1) y0 y1 y2 y3 y4 y5))
 | 0 => fun _ _ _ _ _ _ r h => by simp [integer_Small.l0] at h
 | k + 1 => by
  have ih0 := integer_Small.mono_l k
  ·intro y0 y1 y2 y3 y4 y5
   unfold integer_Small.l0
   repeat' first
   | (with_reducible exact ih0 _ _ _ _ _ _)
   | (with_reducible exact integer_check.mono _ _)
   | (with_reducible exact LeO.refl _)
   | (with_reducible exact LeO.none _)
   | (with_reducible refine LeO.ite ?_ ?_)
   | (with_reducible refine LeO.bind ?_ (fun _ => ?_))
   | exact ih0 _ _ _ _ _ _
   | exact integer_check.mono _ _
   | exact LeO.none _
   | refine LeO.ite ?_ ?_
   | refine LeO.bind ?_ (fun _ => ?_)
theorem integer_Small.mono : ∀ a0 a1 k, LeO (integer_Small.f k a0 a1) (integer_Small.f (k + 1) a0 a1) := by
 intro a0 a1 k
 have ih0 := integer_Small.mono_l k
 unfold integer_Small.f
 repeat' first
   | (with_reducible exact ih0 _ _ _ _ _ _)
   | (with_reducible exact integer_check.mono _ _)
   | (with_reducible exact LeO.refl _)
   | (with_reducible exact LeO.none _)
   | (with_reducible refine LeO.ite ?_ ?_)
   | (with_reducible refine LeO.bind ?_ (fun _ => ?_))
   | exact ih0 _ _ _ _ _ _
   | exact integer_check.mono _ _
   | exact LeO.none _
   | refine LeO.ite ?_ ?_
   | refine LeO.bind ?_ (fun _ => ?_)
set_option maxHeartbeats 60000000 in
set_option maxRecDepth 100000 in
theorem integer_Small.calls (k : Nat) (a0_0 : Bool) (P0_1_ : Nat → Prop) (A0_1 : Option Addr) (c0_1 : Nat) (l0_1 : List Int) (r1 : Int) (r2 : Int) (r3 : Int) (w : World) (hs0_1 : Kd.V (Kd.int .u32) 76 w w.heap.size (fun k_ => P0_1_ k_) (.slice A0_1 l0_1.length c0_1) l0_1) (h : integer_Small.f k a0_0 l0_1 = some (r1, r2, r3)) :
  Calls Try.prog 67 #[.agg #[.bool a0_0, .slice A0_1 l0_1.length c0_1]] w fun e w' => e = .returned (.tuple #[.int .i64 r1, .agg #[.int .i64 r2, .int .i64 r3]]) ∧ Below w.heap.size w w' := by
 have hu24 := Try.underlying24
 have hu29 := Try.underlying29
 have HO0_1 := zM (show Kd.V (Kd.int .u32) 76 w w.heap.size (fun k_ => (P0_1_ k_ ∨ w.heap.size ≤ k_)) (.slice A0_1 l0_1.length c0_1) l0_1 from Kd.V_mono hs0_1 (fun k_ hk => .inl hk))
 have HB := zM (Below.refl w.heap.size w)
 have H : ((integer_check.f k (([(⟨a0_0, l0_1⟩ : S24)] : List (S24)))).bind fun bt412 => (if bt412.1 = 0 then (integer_Small.l0 k 0 l0_1 (l0_1.length : Int) 0 a0_0 l0_1) else (some (0, bt412.1, bt412.2)))) = some (r1, r2, r3) := h
 clear h
 obtain ⟨y409, hy409⟩ : ∃ y_ : List (S24), y_ = (([(⟨a0_0, l0_1⟩ : S24)] : List (S24))) := ⟨_, rfl⟩
 replace H : ((integer_check.f k y409).bind fun bt412 => (if bt412.1 = 0 then (integer_Small.l0 k 0 l0_1 (l0_1.length : Int) 0 a0_0 l0_1) else (some (0, bt412.1, bt412.2)))) = some (r1, r2, r3) := by first | (rw [hy409]; with_reducible exact H) | (have H2_ := (Option.bind_some _ _).symm.trans H; rw [hy409]; with_reducible exact H2_) | (have H2_ := (Option.bind_some _ _).symm.trans H; with_reducible exact H2_) | with_reducible exact H | (rw [hy409]; exact H) | exact H
 have Ny409 := zM hy409
 clear hy409
 replace H := zB H
 obtain ⟨⟨t412, t413⟩, A20, H⟩ := H
 replace H : (if t412 = 0 then (integer_Small.l0 k 0 l0_1 (l0_1.length : Int) 0 a0_0 l0_1) else (some (0, t412, t413))) = some (r1, r2, r3) := H
 have A2 := zM A20
 clear A20
 by_cases c3 : t412 = 0
 ·rw [if_pos c3] at H
  have c3b0 : (t412 == 0) = true := beq_iff_eq.mpr c3
  have c3b1 : (t412 != 0) = false := bne_eq_false_iff_eq.mpr c3
  clear c3
  have H' := zM H
  clear H
  go_enter Try.func67, Try.ntmps67
  go_wp2_with (first | ((with_reducible refine gate_dst (N := 1) rfl ?_); refine box_event ?hg (N := 1) ?hd (cs := #[.bool a0_0, .slice A0_1 l0_1.length c0_1]) (t := 24) ?hr ?_; (case hd => rfl); (case hg => rfl); (case hr => first | (go_simp; done) | (go_simp; rfl)); intro gb407 hg w4 hbox hb; have BK407 := zM (hbox); have GW407 := zM ((by rw [hg]; exact (below_size (HB.out)) : w.heap.size ≤ gb407)); have GE407 := GW407; replace HO0_1 := zM (Kd.V_below (Kd.V_elderB HO0_1.out gb407 (Nat.le_of_eq hg.symm)) hb); replace HB := zM (below_step (HB.out) hb); clear hb hbox hg) | ((with_reducible refine gate_dst (N := 3) rfl ?_); refine box_event ?hg (N := 3) ?hd (cs := #[.int .i64 0, .int .i64 0]) (t := 29) ?hr ?_; (case hd => rfl); (case hg => rfl); (case hr => first | (go_simp; done) | (go_simp; rfl)); intro gb408 hg w5 hbox hb; have BK408 := zM (hbox); have GW408 := zM ((by rw [hg]; exact (below_size (by repeat (first | (with_reducible first | exact HB.out | apply pzA | apply pzD | apply pz1 | apply pzs | assumption) | exact HB.out))) : w.heap.size ≤ gb408)); have GE408 := GW408; have NB407_408 := pzf BK407 hg; have NB408_407 := pzg BK407 hg; replace HO0_1 := zM (Kd.V_below (Kd.V_elderB HO0_1.out gb408 (Nat.le_of_eq hg.symm)) hb); replace BK407 := pzb BK407 hb; replace HB := zM (below_step (by repeat (first | (with_reducible first | exact HB.out | apply pzA | apply pzD | apply pz1 | apply pzs | assumption) | exact HB.out)) hb); clear hb hbox hg; have hnb6 := NB407_408.out; have hnc6 := NB408_407.out; have hcz7_0 := pzc (v := .bool a0_0) BK407 0 rfl; have hcz7_1 := pzc (v := .slice A0_1 l0_1.length c0_1) BK407 1 rfl; have hfz7_0 := zF BK407.out 0; have hfz7_1 := zF BK407.out 1) | ((with_reducible refine gate_dst (N := 10) rfl ?_); refine Kd.N_lit k24 _ 24 ?hg (N' := 10) ?hd (xs := ([(⟨a0_0, l0_1⟩ : S24)] : List (S24))) (inner := [.bool a0_0, .slice A0_1 l0_1.length c0_1]) (ok := (fun k_ => (P0_1_ k_ ∨ w.heap.size ≤ k_) ∧ k_ ≠ gb407 ∧ k_ ≠ gb408)) (okp := (fun k_ => (P0_1_ k_ ∨ w.heap.size ≤ k_) ∧ k_ ≠ gb407 ∧ k_ ≠ gb408)) ?hr ?hp (fun _ hk => hk) ((show ∀ k_, w5.heap.size ≤ k_ → (fun k_ => (P0_1_ k_ ∨ w.heap.size ≤ k_) ∧ k_ ≠ gb407 ∧ k_ ≠ gb408) k_ from fun k_ hk => ⟨(.inr (Nat.le_trans (below_size (by repeat (first | (with_reducible first | exact HB.out | apply pzA | apply pzD | apply pz1 | apply pzs | assumption) | exact HB.out))) hk)), Kd.freshB (g := gb407) (o := .cells #[.bool a0_0, .slice A0_1 l0_1.length c0_1] 24 (0, 0)) BK407.out k_ hk, Kd.freshB (g := gb408) (o := .cells #[.int .i64 0, .int .i64 0] 29 (0, 0)) BK408.out k_ hk⟩) _ (Nat.le_refl _)) (Below.refl _ _) (Nat.le_refl _) (by simp) ?_; (case hd => rfl); (case hg => rfl); (case hr => first | (go_simp; done) | (go_simp; rfl) | (go_simp; simp only [mp_u32, mp_u8, mp_w32, mp_w8]; first | done | rfl)); (case hp => exact (Reps.c2 (show Kd.FK k24 _ _ (⟨a0_0, l0_1⟩ : S24) [.bool a0_0, .slice A0_1 l0_1.length c0_1] from (k24_mkF _ _ (⟨a0_0, l0_1⟩ : S24) (Kd.V_reads' (Kd.V_mono (ok' := (fun k_ => (P0_1_ k_ ∨ w.heap.size ≤ k_) ∧ k_ ≠ gb407 ∧ k_ ≠ gb408)) (HO0_1.out) (fun k_ hk => ⟨hk.1.1, ⟨hk.1.2, hk.2⟩⟩))).2.1 (Kd.V_F (Kd.V_mono (ok' := (fun k_ => (P0_1_ k_ ∨ w.heap.size ≤ k_) ∧ k_ ≠ gb407 ∧ k_ ≠ gb408)) (HO0_1.out) (fun k_ hk => ⟨hk.1.1, ⟨hk.1.2, hk.2⟩⟩))))) (Reps.none _ _))); intro v410 w8 ho9 hb hg_ hnew_; clear hg_ hnew_; (first | rw [← Ny409.out] at ho9 | (simp only [Int.reduceToNat] at ho9; rw [← Ny409.out] at ho9)); have HO411 := zM (Kd.N_lower ho9 (below_size (by repeat (first | (with_reducible first | exact HB.out | apply pzA | apply pzD | apply pz1 | apply pzs | assumption) | exact HB.out)))); replace HO0_1 := zM (Kd.V_elder' HO0_1.out (Kd.N_base ho9) hb); replace BK407 := pzb BK407 hb; replace BK408 := pzb BK408 hb; replace HB := zM (below_step (by repeat (first | (with_reducible first | exact HB.out | apply pzA | apply pzD | apply pz1 | apply pzs | assumption) | exact HB.out)) hb); clear hb ho9; obtain ⟨Ao10, co10, eo10⟩ := Kd.N_slice HO411.out; subst eo10) | ((with_reducible refine gate_callee (f := 62) rfl ?_); refine goesL_ (some 11) rfl rfl Try.func62 (by kernel_rfl) rfl #[.slice Ao10 y409.length co10] rfl (by (try simp only [zT, zC, zN]); first | done | rfl | (simp only [zR, zL]; rfl)) ?_; (with_reducible refine (integer_check.calls k _ _ y409 t412 t413 _ ?side1 ?side2 A2.out).mono ?_); (case side1 => repeat (first | exact (Kd.N_reads' HO411.out).2.2 | (with_reducible refine Kd.C_alloc ?_ _) | (with_reducible refine Kd.C_drewN ?_ _) | (with_reducible refine Kd.C_drew ?_))); (case side2 => exact (Kd.N_reads' HO411.out).2.1); rintro e w11 ⟨rfl, hb⟩; refine ⟨_, rfl, ?_⟩; replace HO0_1 := zM (Kd.V_below HO0_1.out hb); replace HO411 := zM (Kd.N_below HO411.out hb); replace BK407 := pzb BK407 hb; replace BK408 := pzb BK408 hb; replace HB := zM (below_step (by repeat (first | (with_reducible first | exact HB.out | apply pzA | apply pzD | apply pz1 | apply pzs | assumption) | exact HB.out)) hb); (try clear hb); (try clear hb2); (try clear hk); (try clear hi)) | ((with_reducible refine gate_dst (N := 4) rfl ?_); refine box_event ?hg (N := 4) ?hd (cs := #[.int .i64 0, .int .i64 0]) (t := 29) ?hr ?_; (case hd => rfl); (case hg => rfl); (case hr => first | (go_simp; done) | (go_simp; rfl)); intro gb414 hg w12 hbox hb; have BK414 := zM (hbox); have GW414 := zM ((by rw [hg]; exact (below_size (by repeat (first | (with_reducible first | exact HB.out | apply pzA | apply pzD | apply pz1 | apply pzs | assumption) | exact HB.out))) : w.heap.size ≤ gb414)); have GE414 := GW414; have NB407_414 := pzf BK407 hg; have NB414_407 := pzg BK407 hg; have NB408_414 := pzf BK408 hg; have NB414_408 := pzg BK408 hg; replace HO0_1 := zM (Kd.V_below (Kd.V_elderB HO0_1.out gb414 (Nat.le_of_eq hg.symm)) hb); replace HO411 := zM (Kd.N_below (Kd.N_elderB HO411.out gb414 (Nat.le_of_eq hg.symm)) hb); replace BK407 := pzb BK407 hb; replace BK408 := pzb BK408 hb; replace HB := zM (below_step (by repeat (first | (with_reducible first | exact HB.out | apply pzA | apply pzD | apply pz1 | apply pzs | assumption) | exact HB.out)) hb); clear hb hbox hg; have hnb13 := NB414_407.out; have hnc13 := NB407_414.out; have hnb14 := NB414_408.out; have hnc14 := NB408_414.out; have hcz15_0 := pzc (v := .int .i64 0) BK414 0 rfl; have hcz15_1 := pzc (v := .int .i64 0) BK414 1 rfl; have hfz15_0 := zF BK414.out 0; have hfz15_1 := zF BK414.out 1; have hcz16_0 := pzc (v := .bool a0_0) BK407 0 rfl; have hcz16_1 := pzc (v := .slice A0_1 l0_1.length c0_1) BK407 1 rfl; have hfz16_0 := zF BK407.out 0; have hfz16_1 := zF BK407.out 1))
  go_loopg [5, 19] k (fun kq v5 v19 w' => ∃ (x5_1 : Int) (x19_1 : Int) (x409000_1 : Int) (x409001_1 : Int), v5 = .int .u64 x5_1 ∧ v19 = .int .i64 x19_1 ∧ Aside0 (integer_Small.l0 kq x5_1 l0_1 (l0_1.length : Int) x19_1 a0_0 l0_1 = some (r1, r2, r3)) ∧ Aside0 (kq ≤ k) ∧ Aside0 (Kd.V (Kd.int .u32) 76 w' w.heap.size (fun k_ => (P0_1_ k_ ∨ w.heap.size ≤ k_) ∧ k_ ≠ gb407 ∧ k_ ≠ gb408) (.slice A0_1 l0_1.length c0_1) l0_1) ∧ Aside0 (Kd.V (Kd.int .u32) 76 w' w.heap.size (fun k_ => (P0_1_ k_ ∨ w.heap.size ≤ k_) ∧ k_ ≠ gb407 ∧ k_ ≠ gb408) (.slice A0_1 l0_1.length c0_1) l0_1) ∧ Aside0 (w'.heap[gb407]? = some (.cells #[.bool a0_0, (.slice A0_1 l0_1.length c0_1)] 24 (0, 0))) ∧ Aside0 (w'.heap[gb408]? = some (.cells #[.int .i64 x409000_1, .int .i64 x409001_1] 29 (0, 0))) ∧ Aside0 (Below w.heap.size w w'))
  case atStart => exact ⟨(0), (0), (0), (0), (by first | rfl | (simp; done) | (simp [*]; done)), (by first | rfl | (simp; done) | (simp [*]; done)), H', ⟨Nat.le_refl _⟩, ⟨by (with_reducible repeat (first | apply Kd.V_alloc | apply Kd.V_drewN | apply Kd.V_drew)); exact Kd.V_mono (Kd.V_far (p := ⟨gb414, 1, none⟩) (Kd.V_far (p := ⟨gb414, 0, none⟩) (Kd.V_mono HO0_1.out (fun k_ hk => (⟨hk, hk.2⟩ : _ ∧ k_ ≠ gb414))) (fun _ hk => hk.2) (.int .i64 t412)) (fun _ hk => hk.2) (.int .i64 t413)) (fun _ hk => ⟨hk.1.1.1.1.1, ⟨hk.1.1.1.1.2, hk.1.1.1.2⟩⟩)⟩, ⟨by (with_reducible repeat (first | apply Kd.V_alloc | apply Kd.V_drewN | apply Kd.V_drew)); exact Kd.V_mono (Kd.V_far (p := ⟨gb414, 1, none⟩) (Kd.V_far (p := ⟨gb414, 0, none⟩) (Kd.V_mono HO0_1.out (fun k_ hk => (⟨hk, hk.2⟩ : _ ∧ k_ ≠ gb414))) (fun _ hk => hk.2) (.int .i64 t412)) (fun _ hk => hk.2) (.int .i64 t413)) (fun _ hk => ⟨hk.1.1.1.1.1, ⟨hk.1.1.1.1.2, hk.1.1.1.2⟩⟩)⟩, ⟨by (with_reducible repeat (first | apply pzN | apply pzd | apply pza)); refine blk_far ?_ NB407_414.out _; (with_reducible repeat (first | apply pzN | apply pzd | apply pza)); refine blk_far ?_ NB407_414.out _; (with_reducible repeat (first | apply pzN | apply pzd | apply pza)); exact BK407.out⟩, ⟨by (with_reducible repeat (first | apply pzN | apply pzd | apply pza)); refine blk_far ?_ NB408_414.out _; (with_reducible repeat (first | apply pzN | apply pzd | apply pza)); refine blk_far ?_ NB408_414.out _; (with_reducible repeat (first | apply pzN | apply pzd | apply pza)); exact BK408.out⟩, ⟨by repeat (first | (with_reducible first | exact HB.out | apply pzA | apply pzD | apply pz1 | apply pzs | assumption) | exact HB.out)⟩⟩
  case round =>
   clear H'
   try clear c1
   try clear c2
   try clear p2
   try clear c3
   try clear c3b0
   try clear c3b1
   try clear c6
   try clear c13
   try clear c14
   try clear hcz15_0
   try clear hcz15_1
   try clear hcz16_0
   try clear hcz16_1
   try clear hcz7_0
   try clear hcz7_1
   try clear hfz15_0
   try clear hfz15_1
   try clear hfz16_0
   try clear hfz16_1
   try clear hfz7_0
   try clear hfz7_1
   obtain ⟨x5_1, x19_1, x409000_1, x409001_1, rfl, rfl, HA, HK1, HO_17, HO_408001, BK407, BK408, HB⟩ := hrel
   cases gk with
   | zero => exact absurd HA.out (by simp [integer_Small.l0])
   | succ k1 =>
    have H := HA.out
    clear HA
    simp only [integer_Small.l0] at H
    by_cases c17 : x19_1 < (l0_1.length : Int)
    ·rw [if_pos c17] at H
     have c17b0 : decide (x19_1 < (l0_1.length : Int)) = true := zE c17
     clear c17
     by_cases c18 : 0 ≤ x19_1
     ·rw [if_pos c18] at H
      have c18b0 : decide (0 ≤ x19_1) = true := zE c18
      clear c18
      by_cases c19 : x19_1 < (l0_1.length : Int)
      ·rw [if_pos c19] at H
       have c19b0 : decide (x19_1 < (l0_1.length : Int)) = true := zE c19
       clear c19
       by_cases c20 : x19_1 > 1
       ·rw [if_pos c20] at H
        have c20b0 : decide (1 < x19_1) = true := zE c20
        clear c20
        replace H := zB H
        obtain ⟨⟨t416, t417⟩, A210, H⟩ := H
        replace H : (some (0, t416, t417)) = some (r1, r2, r3) := H
        have A21 := zM A210
        clear A210
        simp only [Option.some.injEq, Prod.mk.injEq] at H
        obtain ⟨rfl, rfl, rfl⟩ := H
        have p415 : 0 ≤ (x19_1 : Int) := zD (by first | (with_reducible assumption) | assumption)
        have q415 : x19_1 < (l0_1.length : Int) := zD (by first | (with_reducible assumption) | assumption)
        obtain ⟨ad415, e415, hx415_0⟩ := Kd.at_int (Kd.V_reads' HO_17.out).2.2 x19_1 p415 q415
        cases e415
        replace p415 := eq_true p415
        replace q415 := eq_true q415
        go_wp2_with (first | ((with_reducible refine gate_callee (f := 69) rfl ?_); refine goesL_ (some 26) rfl rfl Try.func69 (by kernel_rfl) rfl #[.int .i64 14, .int .i64 (-1)] rfl (by (try simp only [zT, zC, zN]); first | done | rfl | (simp only [zR, zL]; rfl)) ?_; (with_reducible refine (integer_at.calls 14 (-1) t416 t417 _ A21.out).mono ?_); rintro e w22 ⟨rfl, hb⟩; refine ⟨_, rfl, ?_⟩; replace HO_17 := zM (Kd.V_below HO_17.out hb); replace HO_408001 := zM (Kd.V_below HO_408001.out hb); replace BK408 := pzb BK408 hb; replace HB := zM (below_step (by repeat (first | (with_reducible first | exact HB.out | apply pzA | apply pzD | apply pz1 | apply pzs | assumption) | exact HB.out)) hb); (try clear hb); (try clear hb2); (try clear hk); (try clear hi); have hcz24_0 := pzc (v := .int .i64 x409000_1) BK408 0 rfl; have hcz24_1 := pzc (v := .int .i64 x409001_1) BK408 1 rfl; have hfz24_0 := zF BK408.out 0; have hfz24_1 := zF BK408.out 1))
        refine bodyPost_ret (results_tc rfl _ _ gb408 29 #[.int .i64 t416, .int .i64 t417] (0, 0) _ rfl (by (with_reducible repeat (first | apply pzN | apply pzd | apply pza)); refine blk_put (cs := #[.int .i64 t416, .int .i64 x409001_1]) ?_ 1 _ rfl; (with_reducible repeat (first | apply pzN | apply pzd | apply pza)); refine blk_put (cs := #[.int .i64 x409000_1, .int .i64 x409001_1]) ?_ 0 _ rfl; (with_reducible repeat (first | apply pzN | apply pzd | apply pza)); exact BK408.out) Try.underlying29 rfl (by kernel_rfl)) rfl ?_
        exact ⟨by first | rfl | (simp [errW_none, errW_some] <;> rfl) | (simp [*, errW_none, errW_some] <;> rfl), by repeat (first | (with_reducible first | exact HB.out | apply pzA | apply pzD | apply pz1 | apply pzs | assumption) | exact HB.out)⟩
       ·rw [if_neg c20] at H
        have c20b0 : decide (1 < x19_1) = false := decide_eq_false c20
        clear c20
        obtain ⟨ji25, hji25⟩ : ∃ j_ : Int, (wrap64 (32 * x19_1)) = j_ := ⟨_, rfl⟩
        replace H : (if 0 ≤ (ji25) then (integer_Small.l0 k1 (Go.bits .or .u64 x5_1 (shl .u64 (IntKind.u64.wrap (rd l0_1 x19_1)) (ji25))) l0_1 (l0_1.length : Int) (wrap64 (x19_1 + 1)) a0_0 l0_1) else (none)) = some (r1, r2, r3) := by first | (rw [hji25] at H; exact H) | (simp only [hji25] at H ⊢; exact H)
        have hji25w : (IntKind.i64.wrap (32 * x19_1)) = ji25 := (i64_w _).trans hji25
        by_cases c26 : 0 ≤ (ji25)
        ·rw [if_pos c26] at H
         have c26b0 := eq_true c26
         have c26b1 : decide (0 ≤ (ji25)) = true := zE c26
         clear c26
         obtain ⟨ji27, hji27⟩ : ∃ j_ : Int, (shl .u64 (IntKind.u64.wrap (rd l0_1 x19_1)) (ji25)) = j_ := ⟨_, rfl⟩
         replace H : (integer_Small.l0 k1 (Go.bits .or .u64 x5_1 (ji27)) l0_1 (l0_1.length : Int) (wrap64 (x19_1 + 1)) a0_0 l0_1) = some (r1, r2, r3) := by first | (rw [hji27] at H; exact H) | (simp only [hji27] at H ⊢; exact H)
         have hji27_ : (IntKind.u64.wrap ((IntKind.u64.wrap (rd l0_1 x19_1)) * 2 ^ min (ji25).toNat 64)) = ji27 := hji27
         have hji27z : (ji25) ≤ 64 → (IntKind.u64.wrap ((IntKind.u64.wrap (rd l0_1 x19_1)) * 2 ^ (ji25).toNat)) = ji27 := shl_small hji27
         have H' := zM H
         clear H
         have p415 : 0 ≤ (x19_1 : Int) := zD (by first | (with_reducible assumption) | assumption)
         have q415 : x19_1 < (l0_1.length : Int) := zD (by first | (with_reducible assumption) | assumption)
         obtain ⟨ad415, e415, hx415_0⟩ := Kd.at_int (Kd.V_reads' HO_17.out).2.2 x19_1 p415 q415
         cases e415
         replace p415 := eq_true p415
         replace q415 := eq_true q415
         go_wp2
         go_roundg k1
         case measure => have := HK1.out; omega
         case rel => exact ⟨(Go.bits .or .u64 x5_1 (ji27)), (wrap64 (x19_1 + 1)), (x409000_1), (x409001_1), (by first | rfl | (simp; done) | (simp only [← hji27] <;> (first | rfl | simp)) | (simp [*]; done)), (by first | rfl | (simp; done) | (simp [*]; done)), H', ⟨by have := HK1.out; omega⟩, ⟨by (with_reducible repeat (first | apply Kd.V_alloc | apply Kd.V_drewN | apply Kd.V_drew)); exact HO_17.out⟩, ⟨by (with_reducible repeat (first | apply Kd.V_alloc | apply Kd.V_drewN | apply Kd.V_drew)); exact HO_408001.out⟩, ⟨by (with_reducible repeat (first | apply pzN | apply pzd | apply pza)); exact BK407.out⟩, ⟨by (with_reducible repeat (first | apply pzN | apply pzd | apply pza)); exact BK408.out⟩, ⟨by repeat (first | (with_reducible first | exact HB.out | apply pzA | apply pzD | apply pz1 | apply pzs | assumption) | exact HB.out)⟩⟩
        ·rw [if_neg c26] at H
         exact absurd H (by simp)
      ·rw [if_neg c19] at H
       exact absurd H (by simp)
     ·rw [if_neg c18] at H
      exact absurd H (by simp)
    ·rw [if_neg c17] at H
     have c17b0 : decide (x19_1 < (l0_1.length : Int)) = false := decide_eq_false c17
     clear c17
     by_cases c28 : a0_0 = true
     ·subst c28
      have H1 : (if ((decide ((wrap64 (-(wrap64 (x5_1)))) < 0)) != true) = true then ((integer_at.f 14 (-1)).bind fun bt418 => (some (0, bt418.1, bt418.2))) else (some (wrap64 (-(wrap64 (x5_1))), 0, 0))) = some (r1, r2, r3) := by rw [if_pos rfl] at H; exact H
      clear H
      have H := H1
      clear H1
      by_cases c29 : ((decide ((wrap64 (-(wrap64 (x5_1)))) < 0)) != true) = true
      ·rw [if_pos c29] at H
       have c29b0 : ((decide ((wrap64 (-(wrap64 (x5_1)))) < 0)) != true) = true := c29
       (try (have c29b1 : decide ((decide ((wrap64 (-(wrap64 (x5_1)))) < 0)) = true) = false := by simpa using c29))
       (try (have c29b2 : ((decide ((wrap64 (-(wrap64 (x5_1)))) < 0)) == true) = false := by simpa using c29))
       (try (have c29b3 : ¬ ((decide ((wrap64 (-(wrap64 (x5_1)))) < 0)) = true) := by simpa using c29))
       clear c29
       replace H := zB H
       obtain ⟨⟨t418, t419⟩, A300, H⟩ := H
       replace H : (some (0, t418, t419)) = some (r1, r2, r3) := H
       have A30 := zM A300
       clear A300
       simp only [Option.some.injEq, Prod.mk.injEq] at H
       obtain ⟨rfl, rfl, rfl⟩ := H
       have hnb31 := NB407_408.out
       have hnc31 := NB408_407.out
       have hcz32_0 := pzc (v := .bool true) BK407 0 rfl
       have hcz32_1 := pzc (v := .slice A0_1 l0_1.length c0_1) BK407 1 rfl
       have hfz32_0 := zF BK407.out 0
       have hfz32_1 := zF BK407.out 1
       go_wp2_with (first | ((with_reducible refine gate_callee (f := 69) rfl ?_); refine goesL_ (some 46) rfl rfl Try.func69 (by kernel_rfl) rfl #[.int .i64 14, .int .i64 (-1)] rfl (by (try simp only [zT, zC, zN]); first | done | rfl | (simp only [zR, zL]; rfl)) ?_; (with_reducible refine (integer_at.calls 14 (-1) t418 t419 _ A30.out).mono ?_); rintro e w33 ⟨rfl, hb⟩; refine ⟨_, rfl, ?_⟩; replace HO_17 := zM (Kd.V_below HO_17.out hb); replace HO_408001 := zM (Kd.V_below HO_408001.out hb); replace BK408 := pzb BK408 hb; replace HB := zM (below_step (by repeat (first | (with_reducible first | exact HB.out | apply pzA | apply pzD | apply pz1 | apply pzs | assumption) | exact HB.out)) hb); (try clear hb); (try clear hb2); (try clear hk); (try clear hi); have hcz34_0 := pzc (v := .int .i64 x409000_1) BK408 0 rfl; have hcz34_1 := pzc (v := .int .i64 x409001_1) BK408 1 rfl; have hfz34_0 := zF BK408.out 0; have hfz34_1 := zF BK408.out 1))
       refine bodyPost_ret (results_tc rfl _ _ gb408 29 #[.int .i64 t418, .int .i64 t419] (0, 0) _ rfl (by (with_reducible repeat (first | apply pzN | apply pzd | apply pza)); refine blk_put (cs := #[.int .i64 t418, .int .i64 x409001_1]) ?_ 1 _ rfl; (with_reducible repeat (first | apply pzN | apply pzd | apply pza)); refine blk_put (cs := #[.int .i64 x409000_1, .int .i64 x409001_1]) ?_ 0 _ rfl; (with_reducible repeat (first | apply pzN | apply pzd | apply pza)); exact BK408.out) Try.underlying29 rfl (by kernel_rfl)) rfl ?_
       exact ⟨by first | rfl | (simp [errW_none, errW_some] <;> rfl) | (simp [*, errW_none, errW_some] <;> rfl), by repeat (first | (with_reducible first | exact HB.out | apply pzA | apply pzD | apply pz1 | apply pzs | assumption) | exact HB.out)⟩
      ·rw [if_neg c29] at H
       have c29b0 : ((decide ((wrap64 (-(wrap64 (x5_1)))) < 0)) != true) = false := by simpa using c29
       (try (have c29b1 : decide ((decide ((wrap64 (-(wrap64 (x5_1)))) < 0)) = true) = true := by simpa using c29))
       (try (have c29b2 : ((decide ((wrap64 (-(wrap64 (x5_1)))) < 0)) == true) = true := by simpa using c29))
       clear c29
       simp only [Option.some.injEq, Prod.mk.injEq] at H
       obtain ⟨rfl, rfl, rfl⟩ := H
       have hnb35 := NB407_408.out
       have hnc35 := NB408_407.out
       have hcz36_0 := pzc (v := .bool true) BK407 0 rfl
       have hcz36_1 := pzc (v := .slice A0_1 l0_1.length c0_1) BK407 1 rfl
       have hfz36_0 := zF BK407.out 0
       have hfz36_1 := zF BK407.out 1
       have hcz37_0 := pzc (v := .int .i64 x409000_1) BK408 0 rfl
       have hcz37_1 := pzc (v := .int .i64 x409001_1) BK408 1 rfl
       have hfz37_0 := zF BK408.out 0
       have hfz37_1 := zF BK408.out 1
       go_wp2
       refine bodyPost_ret (results_tc rfl _ _ gb408 29 #[.int .i64 0, .int .i64 0] (0, 0) _ rfl (by (with_reducible repeat (first | apply pzN | apply pzd | apply pza)); refine blk_put (cs := #[.int .i64 0, .int .i64 x409001_1]) ?_ 1 _ rfl; (with_reducible repeat (first | apply pzN | apply pzd | apply pza)); refine blk_put (cs := #[.int .i64 x409000_1, .int .i64 x409001_1]) ?_ 0 _ rfl; (with_reducible repeat (first | apply pzN | apply pzd | apply pza)); exact BK408.out) Try.underlying29 rfl (by kernel_rfl)) rfl ?_
       exact ⟨by first | rfl | (simp [errW_none, errW_some] <;> rfl) | (simp [*, errW_none, errW_some] <;> rfl), by repeat (first | (with_reducible first | exact HB.out | apply pzA | apply pzD | apply pz1 | apply pzs | assumption) | exact HB.out)⟩
     ·replace c28 := Bool.eq_false_iff.mpr c28
      subst c28
      have H1 : (if ((decide ((wrap64 (x5_1)) < 0)) != false) = true then ((integer_at.f 14 (-1)).bind fun bt420 => (some (0, bt420.1, bt420.2))) else (some (wrap64 (x5_1), 0, 0))) = some (r1, r2, r3) := by rw [if_neg (show ¬ (false = true) by decide)] at H; exact H
      clear H
      have H := H1
      clear H1
      by_cases c38 : ((decide ((wrap64 (x5_1)) < 0)) != false) = true
      ·rw [if_pos c38] at H
       have c38b0 : ((decide ((wrap64 (x5_1)) < 0)) != false) = true := c38
       (try (have c38b1 : decide ((decide ((wrap64 (x5_1)) < 0)) = false) = false := by simpa using c38))
       (try (have c38b2 : ((decide ((wrap64 (x5_1)) < 0)) == false) = false := by simpa using c38))
       (try (have c38b3 : ¬ ((decide ((wrap64 (x5_1)) < 0)) = false) := by simpa using c38))
       clear c38
       replace H := zB H
       obtain ⟨⟨t420, t421⟩, A390, H⟩ := H
       replace H : (some (0, t420, t421)) = some (r1, r2, r3) := H
       have A39 := zM A390
       clear A390
       simp only [Option.some.injEq, Prod.mk.injEq] at H
       obtain ⟨rfl, rfl, rfl⟩ := H
       have hnb40 := NB407_408.out
       have hnc40 := NB408_407.out
       have hcz41_0 := pzc (v := .bool false) BK407 0 rfl
       have hcz41_1 := pzc (v := .slice A0_1 l0_1.length c0_1) BK407 1 rfl
       have hfz41_0 := zF BK407.out 0
       have hfz41_1 := zF BK407.out 1
       go_wp2_with (first | ((with_reducible refine gate_callee (f := 69) rfl ?_); refine goesL_ (some 46) rfl rfl Try.func69 (by kernel_rfl) rfl #[.int .i64 14, .int .i64 (-1)] rfl (by (try simp only [zT, zC, zN]); first | done | rfl | (simp only [zR, zL]; rfl)) ?_; (with_reducible refine (integer_at.calls 14 (-1) t420 t421 _ A39.out).mono ?_); rintro e w42 ⟨rfl, hb⟩; refine ⟨_, rfl, ?_⟩; replace HO_17 := zM (Kd.V_below HO_17.out hb); replace HO_408001 := zM (Kd.V_below HO_408001.out hb); replace BK408 := pzb BK408 hb; replace HB := zM (below_step (by repeat (first | (with_reducible first | exact HB.out | apply pzA | apply pzD | apply pz1 | apply pzs | assumption) | exact HB.out)) hb); (try clear hb); (try clear hb2); (try clear hk); (try clear hi); have hcz43_0 := pzc (v := .int .i64 x409000_1) BK408 0 rfl; have hcz43_1 := pzc (v := .int .i64 x409001_1) BK408 1 rfl; have hfz43_0 := zF BK408.out 0; have hfz43_1 := zF BK408.out 1))
       refine bodyPost_ret (results_tc rfl _ _ gb408 29 #[.int .i64 t420, .int .i64 t421] (0, 0) _ rfl (by (with_reducible repeat (first | apply pzN | apply pzd | apply pza)); refine blk_put (cs := #[.int .i64 t420, .int .i64 x409001_1]) ?_ 1 _ rfl; (with_reducible repeat (first | apply pzN | apply pzd | apply pza)); refine blk_put (cs := #[.int .i64 x409000_1, .int .i64 x409001_1]) ?_ 0 _ rfl; (with_reducible repeat (first | apply pzN | apply pzd | apply pza)); exact BK408.out) Try.underlying29 rfl (by kernel_rfl)) rfl ?_
       exact ⟨by first | rfl | (simp [errW_none, errW_some] <;> rfl) | (simp [*, errW_none, errW_some] <;> rfl), by repeat (first | (with_reducible first | exact HB.out | apply pzA | apply pzD | apply pz1 | apply pzs | assumption) | exact HB.out)⟩
      ·rw [if_neg c38] at H
       have c38b0 : ((decide ((wrap64 (x5_1)) < 0)) != false) = false := by simpa using c38
       (try (have c38b1 : decide ((decide ((wrap64 (x5_1)) < 0)) = false) = true := by simpa using c38))
       (try (have c38b2 : ((decide ((wrap64 (x5_1)) < 0)) == false) = true := by simpa using c38))
       clear c38
       simp only [Option.some.injEq, Prod.mk.injEq] at H
       obtain ⟨rfl, rfl, rfl⟩ := H
       have hnb44 := NB407_408.out
       have hnc44 := NB408_407.out
       have hcz45_0 := pzc (v := .bool false) BK407 0 rfl
       have hcz45_1 := pzc (v := .slice A0_1 l0_1.length c0_1) BK407 1 rfl
       have hfz45_0 := zF BK407.out 0
       have hfz45_1 := zF BK407.out 1
       have hcz46_0 := pzc (v := .int .i64 x409000_1) BK408 0 rfl
       have hcz46_1 := pzc (v := .int .i64 x409001_1) BK408 1 rfl
       have hfz46_0 := zF BK408.out 0
       have hfz46_1 := zF BK408.out 1
       go_wp2
       refine bodyPost_ret (results_tc rfl _ _ gb408 29 #[.int .i64 0, .int .i64 0] (0, 0) _ rfl (by (with_reducible repeat (first | apply pzN | apply pzd | apply pza)); refine blk_put (cs := #[.int .i64 0, .int .i64 x409001_1]) ?_ 1 _ rfl; (with_reducible repeat (first | apply pzN | apply pzd | apply pza)); refine blk_put (cs := #[.int .i64 x409000_1, .int .i64 x409001_1]) ?_ 0 _ rfl; (with_reducible repeat (first | apply pzN | apply pzd | apply pza)); exact BK408.out) Try.underlying29 rfl (by kernel_rfl)) rfl ?_
       exact ⟨by first | rfl | (simp [errW_none, errW_some] <;> rfl) | (simp [*, errW_none, errW_some] <;> rfl), by repeat (first | (with_reducible first | exact HB.out | apply pzA | apply pzD | apply pz1 | apply pzs | assumption) | exact HB.out)⟩
 ·rw [if_neg c3] at H
  have c3b0 : (t412 == 0) = false := beq_eq_false_iff_ne.mpr c3
  have c3b1 : (t412 != 0) = true := bne_iff_ne.mpr c3
  simp only [Option.some.injEq, Prod.mk.injEq] at H
  obtain ⟨rfl, rfl, rfl⟩ := H
  go_enter Try.func67, Try.ntmps67
  try go_wp2_with (first | ((with_reducible refine gate_dst (N := 1) rfl ?_); refine box_event ?hg (N := 1) ?hd (cs := #[.bool a0_0, .slice A0_1 l0_1.length c0_1]) (t := 24) ?hr ?_; (case hd => rfl); (case hg => rfl); (case hr => first | (go_simp; done) | (go_simp; rfl)); intro gb407 hg w47 hbox hb; have BK407 := zM (hbox); have GW407 := zM ((by rw [hg]; exact (below_size (HB.out)) : w.heap.size ≤ gb407)); have GE407 := GW407; replace HO0_1 := zM (Kd.V_below (Kd.V_elderB HO0_1.out gb407 (Nat.le_of_eq hg.symm)) hb); replace HB := zM (below_step (HB.out) hb); clear hb hbox hg) | ((with_reducible refine gate_dst (N := 3) rfl ?_); refine box_event ?hg (N := 3) ?hd (cs := #[.int .i64 0, .int .i64 0]) (t := 29) ?hr ?_; (case hd => rfl); (case hg => rfl); (case hr => first | (go_simp; done) | (go_simp; rfl)); intro gb408 hg w48 hbox hb; have BK408 := zM (hbox); have GW408 := zM ((by rw [hg]; exact (below_size (by repeat (first | (with_reducible first | exact HB.out | apply pzA | apply pzD | apply pz1 | apply pzs | assumption) | exact HB.out))) : w.heap.size ≤ gb408)); have GE408 := GW408; have NB407_408 := pzf BK407 hg; have NB408_407 := pzg BK407 hg; replace HO0_1 := zM (Kd.V_below (Kd.V_elderB HO0_1.out gb408 (Nat.le_of_eq hg.symm)) hb); replace BK407 := pzb BK407 hb; replace HB := zM (below_step (by repeat (first | (with_reducible first | exact HB.out | apply pzA | apply pzD | apply pz1 | apply pzs | assumption) | exact HB.out)) hb); clear hb hbox hg; have hnb49 := NB407_408.out; have hnc49 := NB408_407.out; have hcz50_0 := pzc (v := .bool a0_0) BK407 0 rfl; have hcz50_1 := pzc (v := .slice A0_1 l0_1.length c0_1) BK407 1 rfl; have hfz50_0 := zF BK407.out 0; have hfz50_1 := zF BK407.out 1) | ((with_reducible refine gate_dst (N := 10) rfl ?_); refine Kd.N_lit k24 _ 24 ?hg (N' := 10) ?hd (xs := ([(⟨a0_0, l0_1⟩ : S24)] : List (S24))) (inner := [.bool a0_0, .slice A0_1 l0_1.length c0_1]) (ok := (fun k_ => (P0_1_ k_ ∨ w.heap.size ≤ k_) ∧ k_ ≠ gb407 ∧ k_ ≠ gb408)) (okp := (fun k_ => (P0_1_ k_ ∨ w.heap.size ≤ k_) ∧ k_ ≠ gb407 ∧ k_ ≠ gb408)) ?hr ?hp (fun _ hk => hk) ((show ∀ k_, w48.heap.size ≤ k_ → (fun k_ => (P0_1_ k_ ∨ w.heap.size ≤ k_) ∧ k_ ≠ gb407 ∧ k_ ≠ gb408) k_ from fun k_ hk => ⟨(.inr (Nat.le_trans (below_size (by repeat (first | (with_reducible first | exact HB.out | apply pzA | apply pzD | apply pz1 | apply pzs | assumption) | exact HB.out))) hk)), Kd.freshB (g := gb407) (o := .cells #[.bool a0_0, .slice A0_1 l0_1.length c0_1] 24 (0, 0)) BK407.out k_ hk, Kd.freshB (g := gb408) (o := .cells #[.int .i64 0, .int .i64 0] 29 (0, 0)) BK408.out k_ hk⟩) _ (Nat.le_refl _)) (Below.refl _ _) (Nat.le_refl _) (by simp) ?_; (case hd => rfl); (case hg => rfl); (case hr => first | (go_simp; done) | (go_simp; rfl) | (go_simp; simp only [mp_u32, mp_u8, mp_w32, mp_w8]; first | done | rfl)); (case hp => exact (Reps.c2 (show Kd.FK k24 _ _ (⟨a0_0, l0_1⟩ : S24) [.bool a0_0, .slice A0_1 l0_1.length c0_1] from (k24_mkF _ _ (⟨a0_0, l0_1⟩ : S24) (Kd.V_reads' (Kd.V_mono (ok' := (fun k_ => (P0_1_ k_ ∨ w.heap.size ≤ k_) ∧ k_ ≠ gb407 ∧ k_ ≠ gb408)) (HO0_1.out) (fun k_ hk => ⟨hk.1.1, ⟨hk.1.2, hk.2⟩⟩))).2.1 (Kd.V_F (Kd.V_mono (ok' := (fun k_ => (P0_1_ k_ ∨ w.heap.size ≤ k_) ∧ k_ ≠ gb407 ∧ k_ ≠ gb408)) (HO0_1.out) (fun k_ hk => ⟨hk.1.1, ⟨hk.1.2, hk.2⟩⟩))))) (Reps.none _ _))); intro v410 w51 ho52 hb hg_ hnew_; clear hg_ hnew_; (first | rw [← Ny409.out] at ho52 | (simp only [Int.reduceToNat] at ho52; rw [← Ny409.out] at ho52)); have HO411 := zM (Kd.N_lower ho52 (below_size (by repeat (first | (with_reducible first | exact HB.out | apply pzA | apply pzD | apply pz1 | apply pzs | assumption) | exact HB.out)))); replace HO0_1 := zM (Kd.V_elder' HO0_1.out (Kd.N_base ho52) hb); replace BK407 := pzb BK407 hb; replace BK408 := pzb BK408 hb; replace HB := zM (below_step (by repeat (first | (with_reducible first | exact HB.out | apply pzA | apply pzD | apply pz1 | apply pzs | assumption) | exact HB.out)) hb); clear hb ho52; obtain ⟨Ao53, co53, eo53⟩ := Kd.N_slice HO411.out; subst eo53) | ((with_reducible refine gate_callee (f := 62) rfl ?_); refine goesL_ (some 11) rfl rfl Try.func62 (by kernel_rfl) rfl #[.slice Ao53 y409.length co53] rfl (by (try simp only [zT, zC, zN]); first | done | rfl | (simp only [zR, zL]; rfl)) ?_; (with_reducible refine (integer_check.calls k _ _ y409 t412 t413 _ ?side1 ?side2 A2.out).mono ?_); (case side1 => repeat (first | exact (Kd.N_reads' HO411.out).2.2 | (with_reducible refine Kd.C_alloc ?_ _) | (with_reducible refine Kd.C_drewN ?_ _) | (with_reducible refine Kd.C_drew ?_))); (case side2 => exact (Kd.N_reads' HO411.out).2.1); rintro e w54 ⟨rfl, hb⟩; refine ⟨_, rfl, ?_⟩; replace HO0_1 := zM (Kd.V_below HO0_1.out hb); replace HO411 := zM (Kd.N_below HO411.out hb); replace BK407 := pzb BK407 hb; replace BK408 := pzb BK408 hb; replace HB := zM (below_step (by repeat (first | (with_reducible first | exact HB.out | apply pzA | apply pzD | apply pz1 | apply pzs | assumption) | exact HB.out)) hb); (try clear hb); (try clear hb2); (try clear hk); (try clear hi)) | ((with_reducible refine gate_dst (N := 4) rfl ?_); refine box_event ?hg (N := 4) ?hd (cs := #[.int .i64 0, .int .i64 0]) (t := 29) ?hr ?_; (case hd => rfl); (case hg => rfl); (case hr => first | (go_simp; done) | (go_simp; rfl)); intro gb414 hg w55 hbox hb; have BK414 := zM (hbox); have GW414 := zM ((by rw [hg]; exact (below_size (by repeat (first | (with_reducible first | exact HB.out | apply pzA | apply pzD | apply pz1 | apply pzs | assumption) | exact HB.out))) : w.heap.size ≤ gb414)); have GE414 := GW414; have NB407_414 := pzf BK407 hg; have NB414_407 := pzg BK407 hg; have NB408_414 := pzf BK408 hg; have NB414_408 := pzg BK408 hg; replace HO0_1 := zM (Kd.V_below (Kd.V_elderB HO0_1.out gb414 (Nat.le_of_eq hg.symm)) hb); replace HO411 := zM (Kd.N_below (Kd.N_elderB HO411.out gb414 (Nat.le_of_eq hg.symm)) hb); replace BK407 := pzb BK407 hb; replace BK408 := pzb BK408 hb; replace HB := zM (below_step (by repeat (first | (with_reducible first | exact HB.out | apply pzA | apply pzD | apply pz1 | apply pzs | assumption) | exact HB.out)) hb); clear hb hbox hg; have hnb56 := NB414_407.out; have hnc56 := NB407_414.out; have hnb57 := NB414_408.out; have hnc57 := NB408_414.out; have hcz58_0 := pzc (v := .int .i64 0) BK414 0 rfl; have hcz58_1 := pzc (v := .int .i64 0) BK414 1 rfl; have hfz58_0 := zF BK414.out 0; have hfz58_1 := zF BK414.out 1))
  have n0_ : Aside0 (Kd.V (Kd.int .u32) 76 ((w55.setCell ⟨gb414, 0, none⟩ (.int .i64 t412)).setCell ⟨gb414, 1, none⟩ (.int .i64 t413)) w.heap.size (fun k_ => (P0_1_ k_ ∨ w.heap.size ≤ k_) ∧ some k_ ≠ (.slice Ao53 y409.length co53 : Value).ownBlock ∧ k_ ≠ gb407 ∧ k_ ≠ gb408 ∧ k_ ≠ gb414) (.slice A0_1 l0_1.length c0_1) l0_1) := ⟨by (with_reducible repeat (first | apply Kd.V_alloc | apply Kd.V_drewN | apply Kd.V_drew)); exact Kd.V_mono (Kd.V_far (p := ⟨gb414, 1, none⟩) (Kd.V_far (p := ⟨gb414, 0, none⟩) (Kd.V_mono HO0_1.out (fun k_ hk => (⟨hk, hk.2⟩ : _ ∧ k_ ≠ gb414))) (fun _ hk => hk.2) (.int .i64 t412)) (fun _ hk => hk.2) (.int .i64 t413)) (fun _ hk => ⟨hk.1.1.1.1.1, ⟨hk.1.1.2, ⟨hk.1.1.1.1.2, ⟨hk.1.1.1.2, hk.1.2⟩⟩⟩⟩)⟩
  have n1_ : Aside0 (Kd.N k24 24 ((w55.setCell ⟨gb414, 0, none⟩ (.int .i64 t412)).setCell ⟨gb414, 1, none⟩ (.int .i64 t413)) w.heap.size (fun k_ => (P0_1_ k_ ∨ w.heap.size ≤ k_) ∧ k_ ≠ gb407 ∧ k_ ≠ gb408 ∧ k_ ≠ gb414) (.slice Ao53 y409.length co53) y409) := ⟨by (with_reducible repeat (first | apply Kd.N_alloc | apply Kd.N_drewN | apply Kd.N_drew)); exact Kd.N_mono (Kd.N_far (p := ⟨gb414, 1, none⟩) (Kd.N_far (p := ⟨gb414, 0, none⟩) (Kd.N_mono HO411.out (fun k_ hk => (⟨hk, hk.2⟩ : _ ∧ k_ ≠ gb414))) (fun _ hk => hk.2) (.int .i64 t412)) (fun _ hk => hk.2) (.int .i64 t413)) (fun _ hk => ⟨hk.1.1.1, ⟨hk.1.1.2.1, ⟨hk.1.1.2.2, hk.1.2⟩⟩⟩)⟩
  have n2_ : Aside0 (((w55.setCell ⟨gb414, 0, none⟩ (.int .i64 t412)).setCell ⟨gb414, 1, none⟩ (.int .i64 t413)).heap[gb407]? = some (.cells #[.bool a0_0, .slice A0_1 l0_1.length c0_1] 24 (0, 0))) := ⟨by (with_reducible repeat (first | apply pzN | apply pzd | apply pza)); refine blk_far ?_ NB407_414.out _; (with_reducible repeat (first | apply pzN | apply pzd | apply pza)); refine blk_far ?_ NB407_414.out _; (with_reducible repeat (first | apply pzN | apply pzd | apply pza)); exact BK407.out⟩
  have n3_ : Aside0 (((w55.setCell ⟨gb414, 0, none⟩ (.int .i64 t412)).setCell ⟨gb414, 1, none⟩ (.int .i64 t413)).heap[gb408]? = some (.cells #[.int .i64 0, .int .i64 0] 29 (0, 0))) := ⟨by (with_reducible repeat (first | apply pzN | apply pzd | apply pza)); refine blk_far ?_ NB408_414.out _; (with_reducible repeat (first | apply pzN | apply pzd | apply pza)); refine blk_far ?_ NB408_414.out _; (with_reducible repeat (first | apply pzN | apply pzd | apply pza)); exact BK408.out⟩
  have n4_ : Aside0 (((w55.setCell ⟨gb414, 0, none⟩ (.int .i64 t412)).setCell ⟨gb414, 1, none⟩ (.int .i64 t413)).heap[gb414]? = some (.cells #[.int .i64 t412, .int .i64 t413] 29 (0, 0))) := ⟨by (with_reducible repeat (first | apply pzN | apply pzd | apply pza)); refine blk_put (cs := #[.int .i64 t412, .int .i64 0]) ?_ 1 _ rfl; (with_reducible repeat (first | apply pzN | apply pzd | apply pza)); refine blk_put (cs := #[.int .i64 0, .int .i64 0]) ?_ 0 _ rfl; (with_reducible repeat (first | apply pzN | apply pzd | apply pza)); exact BK414.out⟩
  have n5_ : Aside0 (Below w.heap.size w ((w55.setCell ⟨gb414, 0, none⟩ (.int .i64 t412)).setCell ⟨gb414, 1, none⟩ (.int .i64 t413))) := ⟨by repeat (first | (with_reducible first | exact HB.out | apply pzA | apply pzD | apply pz1 | apply pzs | assumption) | exact HB.out)⟩
  (try clear HO0_1)
  (try clear HO411)
  (try clear BK407)
  (try clear BK408)
  (try clear BK414)
  (try clear HB)
  generalize ((w55.setCell ⟨gb414, 0, none⟩ (.int .i64 t412)).setCell ⟨gb414, 1, none⟩ (.int .i64 t413)) = w59 at n0_ n1_ n2_ n3_ n4_ n5_ ⊢
  have HO0_1 := n0_
  have HO411 := n1_
  have BK407 := n2_
  have BK408 := n3_
  have BK414 := n4_
  have HB := n5_
  clear n0_ n1_ n2_ n3_ n4_ n5_
  replace HO0_1 := zM (Kd.V_drew HO0_1.out)
  replace HO411 := zM (Kd.N_drew HO411.out)
  replace BK408 := zM (blk_drew BK408.out)
  replace BK414 := zM (blk_drew BK414.out)
  replace HB := zM (below_drew1 HB.out)
  refine start_ (n := 3) (S := fun w' => w'.cell? ⟨gb414, 0, none⟩ = some (.int .i64 t412) ∧ w'.cell? ⟨gb414, 1, none⟩ = some (.int .i64 t413)) (ds := []) #[false, false, false] (by kernel_rfl) rfl rfl ⟨(blk_cell BK414.out 0).trans rfl, (blk_cell BK414.out 1).trans rfl⟩ (fun hHeld => ?_)
  generalize w59.drew = w60 at HO0_1 HO411 BK408 HB hHeld ⊢
  refine pure_ (i := 1) (N := some 2) (v := ?_) (a' := ?_) #[false, true, false] rfl rfl (by kernel_rfl) (fun _ _ _ h => h) (Or.inl ⟨by rfl, ?_⟩) ?_ ?_
  rotate_left
  ·intro w'
   go_simp
   with_reducible rfl
  rotate_left
  ·simp only [Act.put, zS, z0, z1, i64_w, i32_w]
   rfl
  refine take_ (i := 0) (N := some 15) (v := ?_) (a' := ?_) #[true, true, false] rfl rfl (by kernel_rfl) (fun _ _ _ h => h) (Or.inl ⟨by rfl, ?_⟩) hHeld ?_ ?_
  rotate_left
  ·rintro w' ⟨s0, s1⟩
   go_simp
   with_reducible rfl
  rotate_left
  ·simp only [Act.put, zS, z0, z1, i64_w, i32_w]
   rfl
  refine one_ (i := 2) (N := none) #[true, true, true] rfl rfl (by kernel_rfl) (by decide) (fun K hK => ?_)
  have hs61 : w60.cell? ⟨gb408, 0, none⟩ = some (.int .i64 0) := (blk_cell BK408.out 0).trans rfl
  have hfs61 := zF BK408.out 0
  have hns61_0 := NB407_408.out
  have hns61_2 := NB414_408.out
  have hms61_0 := NB408_407.out
  have hms61_2 := NB408_414.out
  have hs62 : w60.cell? ⟨gb408, 1, none⟩ = some (.int .i64 0) := (blk_cell BK408.out 1).trans rfl
  have hfs62 := zF BK408.out 1
  have hns62_0 := NB407_408.out
  have hns62_2 := NB414_408.out
  have hms62_0 := NB408_407.out
  have hms62_2 := NB408_414.out
  refine skip_ (w1 := ?_) (by rfl) rfl ?_ ?_
  rotate_left
  ·go_simp
   rfl
  refine hK.out _ _ ⟨((cell_far (p := ⟨gb408, _, none⟩) NB414_408.out _).trans (((cell_far (p := ⟨gb408, _, none⟩) NB414_408.out _).trans (hHeld.1)))), ((cell_far (p := ⟨gb408, _, none⟩) NB414_408.out _).trans (((cell_far (p := ⟨gb408, _, none⟩) NB414_408.out _).trans (hHeld.2))))⟩ (fun hHeld => ?_)
  clear hK K
  refine done_ (by kernel_rfl) ?_
  try go_wp2
  refine bodyPost_ret (results_tc rfl _ _ gb408 29 #[.int .i64 t412, .int .i64 t413] (0, 0) _ rfl (by (with_reducible repeat (first | apply pzN | apply pzd | apply pza)); refine blk_put (cs := #[.int .i64 t412, .int .i64 0]) ?_ 1 _ rfl; (with_reducible repeat (first | apply pzN | apply pzd | apply pza)); refine blk_put (cs := #[.int .i64 0, .int .i64 0]) ?_ 0 _ rfl; (with_reducible repeat (first | apply pzN | apply pzd | apply pza)); exact BK408.out) Try.underlying29 rfl (by kernel_rfl)) rfl ?_
  exact ⟨by first | rfl | (simp [errW_none, errW_some] <;> rfl) | (simp [*, errW_none, errW_some] <;> rfl), by repeat (first | (with_reducible first | exact HB.out | apply pzA | apply pzD | apply pz1 | apply pzs | assumption) | exact HB.out)⟩

/-! ### random_source_small: function 56 -/
def random_source_small.f (k : Nat) (s0_0 : Int) (s0_1 : Int) (a1 : Int) : Option (Int × Int × Int) := (integer_Of.f k a1).bind fun bt422 => ((random_source_below.f k s0_0 s0_1 bt422.1 bt422.2).bind fun bt426 => ((integer_Small.f k bt426.1 bt426.2.1).bind fun bt432 => (some (bt432.1, bt426.2.2.1, bt426.2.2.2))))
theorem random_source_small.mono : ∀ a0 a1 a2 k, LeO (random_source_small.f k a0 a1 a2) (random_source_small.f (k + 1) a0 a1 a2) := by
 intro a0 a1 a2 k
 unfold random_source_small.f
 repeat' first
   | (with_reducible exact integer_Of.mono _ _)
   | (with_reducible exact integer_Small.mono _ _ _)
   | (with_reducible exact random_source_below.mono _ _ _ _ _)
   | (with_reducible exact LeO.refl _)
   | (with_reducible exact LeO.none _)
   | (with_reducible refine LeO.ite ?_ ?_)
   | (with_reducible refine LeO.bind ?_ (fun _ => ?_))
   | exact integer_Of.mono _ _
   | exact integer_Small.mono _ _ _
   | exact random_source_below.mono _ _ _ _ _
   | exact LeO.none _
   | refine LeO.ite ?_ ?_
   | refine LeO.bind ?_ (fun _ => ?_)
set_option maxHeartbeats 60000000 in
set_option maxRecDepth 100000 in
theorem random_source_small.calls (k : Nat) (g : Nat) (s0_0 : Int) (s0_1 : Int) (a1 : Int) (r1 : Int) (r2 : Int) (r3 : Int) (w0 w : World) (hI : IsS81 w0 w g s0_0 s0_1) (hB : Below w0.heap.size w0 w) (h : random_source_small.f k s0_0 s0_1 a1 = some (r1, r2, r3)) :
  Calls Try.prog 56 #[.pointer (some ⟨g, 0, none⟩), .int .i64 a1] w fun e w' => e = .returned (.int .i64 r1) ∧ IsS81 w0 w' g r2 r3 ∧ Below w0.heap.size w0 w' ∧ KeepBut w w' g none := by
 have hu29 := Try.underlying29
 have HI0 := zM hI
 have HK := zM (KeepBut.refl w g none)
 have HL := zM hB.size
 clear hI
 have HW0 := zM hB.size
 have HB := zM hB
 clear hB
 have H : ((integer_Of.f k a1).bind fun bt422 => ((random_source_below.f k s0_0 s0_1 bt422.1 bt422.2).bind fun bt426 => ((integer_Small.f k bt426.1 bt426.2.1).bind fun bt432 => (some (bt432.1, bt426.2.2.1, bt426.2.2.2))))) = some (r1, r2, r3) := h
 clear h
 replace H := zB H
 obtain ⟨⟨t422, t423⟩, A30, H⟩ := H
 replace H : ((random_source_below.f k s0_0 s0_1 t422 t423).bind fun bt426 => ((integer_Small.f k bt426.1 bt426.2.1).bind fun bt432 => (some (bt432.1, bt426.2.2.1, bt426.2.2.2)))) = some (r1, r2, r3) := H
 have A3 := zM A30
 clear A30
 replace H := zB H
 obtain ⟨⟨t426, t427, t430, t431⟩, A40, H⟩ := H
 replace H : ((integer_Small.f k t426 t427).bind fun bt432 => (some (bt432.1, t430, t431))) = some (r1, r2, r3) := H
 have A4 := zM A40
 clear A40
 replace H := zB H
 obtain ⟨⟨t432, t433, t434⟩, A50, H⟩ := H
 replace H : (some (t432, t430, t431)) = some (r1, r2, r3) := H
 have A5 := zM A50
 clear A50
 simp only [Option.some.injEq, Prod.mk.injEq] at H
 obtain ⟨rfl, rfl, rfl⟩ := H
 go_enter Try.func56, Try.ntmps56
 go_wp2_with (first | ((with_reducible refine gate_callee (f := 47) rfl ?_); refine goesL_ (some 10) rfl rfl Try.func47 (by kernel_rfl) rfl #[.int .i64 a1] rfl (by (try simp only [zT, zC, zN]); first | done | rfl | (simp only [zR, zL]; rfl)) ?_; (with_reducible refine (integer_Of.calls k a1 t422 t423 _ A3.out).mono ?_); rintro e w6 ⟨v424, rfl, ho0, hb⟩; refine ⟨_, rfl, ?_⟩; have HO425 := zM (Kd.R_lower ho0 (keep_size (w := w) (g := g) (row := none) (HK.out))); replace HK := zM (KeepBut.trans (HK.out) (KeepBut.of_below hb g none) (.inl rfl)); replace HB := zM (below_step (by repeat (first | (with_reducible first | exact HB.out | apply below_alloc | apply pw_below_drewN | apply below_drew1 | refine below_set ?_ (IsS81.ge HI0.out)) | exact HB.out)) hb); replace HI0 := zM (IsS81.below (HI0.out) hb); (try clear hb); (try clear hb2); (try clear hk); (try clear hi); (try clear ho0); obtain ⟨Ao7, co7, eo7⟩ := Kd.R_slice HO425.out; subst eo7) | ((with_reducible refine gate_callee (f := 43) rfl ?_); refine goesL_ (some 11) rfl rfl Try.func43 (by kernel_rfl) rfl #[.pointer (some ⟨g, 0, none⟩), .agg #[.bool t422, .slice Ao7 t423.length co7]] rfl (by (try simp only [zT, zC, zN]); first | done | rfl | (simp only [zR, zL]; rfl)) ?_; (with_reducible refine (random_source_below.calls k g s0_0 s0_1 t422 _ _ t423 t426 t427 t430 t431 w0 _ ?side1 ?side2 ?side3 ?side4 ?side5 A4.out).mono ?_); (case side1 => exact HI0.out); (case side2 => repeat (first | (with_reducible first | exact HB.out | apply below_alloc | apply pw_below_drewN | apply below_drew1 | refine below_set ?_ (IsS81.ge HI0.out)) | exact HB.out)); (case side3 => repeat (first | exact (Kd.R_reads' HO425.out).2.2 | (with_reducible refine Kd.C_alloc ?_ _) | (with_reducible refine Kd.C_drewN ?_ _) | (with_reducible refine Kd.C_drew ?_))); (case side4 => exact (Kd.R_reads' HO425.out).2.1); (case side5 => exact far_slice (IsS81.own_ne HI0.out HO425.out (by decide))); rintro e w8 ⟨v428, rfl, ho0, hi, hb, hk⟩; refine ⟨_, rfl, ?_⟩; have HO429 := zM (Kd.R_lower (Kd.R_new' ho0 (Kd.R_lt HO425.out)) (keep_size (w := w) (g := g) (row := none) (HK.out))); replace HO425 := zM (Kd.R_mono (Kd.R_told (Kd.R_oldK (IsS81.apart (show IsS81 w0 _ g s0_0 s0_1 from HI0.out) HO425.out (by decide)) hk) (Kd.R_base ho0)) (fun _ h_ => h_.1)); replace HK := zM (KeepBut.trans (HK.out) hk (.inl rfl)); replace HB := zM (hb); replace HI0 := zM (hi); (try clear hb); (try clear hb2); (try clear hk); (try clear hi); (try clear ho0); obtain ⟨Ao9, co9, eo9⟩ := Kd.R_slice HO429.out; subst eo9) | ((with_reducible refine gate_callee (f := 67) rfl ?_); refine goesL_ (some 12) rfl rfl Try.func67 (by kernel_rfl) rfl #[.agg #[.bool t426, .slice Ao9 t427.length co9]] rfl (by (try simp only [zT, zC, zN]); first | done | rfl | (simp only [zR, zL]; rfl)) ?_; (with_reducible refine (integer_Small.calls k t426 (fun k_ => some k_ = (.slice Ao9 t427.length co9 : Value).ownBlock) _ _ t427 t432 t433 t434 _ ?side1 A5.out).mono ?_); (case side1 => exact Kd.R_V (Kd.R_tight rfl (IsS81.apart HI0.out (HO429.out) (by decide)))); rintro e w10 ⟨rfl, hb⟩; refine ⟨_, rfl, ?_⟩; replace HO425 := zM (Kd.R_below HO425.out hb); replace HO429 := zM (Kd.R_below HO429.out hb); replace HK := zM (KeepBut.trans (HK.out) (KeepBut.of_below hb g none) (.inl rfl)); replace HB := zM (below_step (by repeat (first | (with_reducible first | exact HB.out | apply below_alloc | apply pw_below_drewN | apply below_drew1 | refine below_set ?_ (IsS81.ge HI0.out)) | exact HB.out)) hb); replace HI0 := zM (IsS81.below (HI0.out) hb); (try clear hb); (try clear hb2); (try clear hk); (try clear hi)) | ((with_reducible refine gate_dst (N := 6) rfl ?_); refine box_event ?hg (N := 6) ?hd (cs := #[.int .i64 0, .int .i64 0]) (t := 29) ?hr ?_; (case hd => rfl); (case hg => rfl); (case hr => first | (go_simp; done) | (go_simp; rfl)); intro gb435 hg w11 hbox hb; have BK435 := zM (hbox); have GW435 := zM ((by rw [hg]; exact (keep_size (w := w) (g := g) (row := none) (HK.out)) : w.heap.size ≤ gb435)); have GE435 := zM ((Nat.le_trans HW0.out (by rw [hg]; exact (keep_size (w := w) (g := g) (row := none) (HK.out)) : w.heap.size ≤ gb435) : w0.heap.size ≤ gb435)); have NB0_435 := zM ((by rw [hg]; exact Nat.ne_of_lt (IsS81.lt (show IsS81 w0 _ g t430 t431 from HI0.out)) : g ≠ gb435)); replace HO425 := zM (Kd.R_below HO425.out hb); replace HO429 := zM (Kd.R_below HO429.out hb); replace HK := zM (KeepBut.trans (HK.out) (KeepBut.of_below hb g none) (.inl rfl)); replace HB := zM (below_step (by repeat (first | (with_reducible first | exact HB.out | apply below_alloc | apply pw_below_drewN | apply below_drew1 | refine below_set ?_ (IsS81.ge HI0.out)) | exact HB.out)) hb); replace HI0 := zM (IsS81.below (HI0.out) hb); clear hb hbox hg; have hcz13_0 := pzc (v := .int .i64 0) BK435 0 rfl; have hcz13_1 := pzc (v := .int .i64 0) BK435 1 rfl; have hfz13_0 := zF BK435.out 0; have hfz13_1 := zF BK435.out 1))
 go_ret
 exact ⟨by first | rfl | (simp [errW_none, errW_some] <;> rfl) | (simp [*, errW_none, errW_some] <;> rfl), by repeat (first | (with_reducible first | exact HI0.out | apply IsS81.alloc | apply IsS81.drewN | apply IsS81.drew | apply IsS81.set_0 | apply IsS81.set_1 | refine IsS81.far ?_ NB0_435.out _) | exact HI0.out), by repeat (first | (with_reducible first | exact HB.out | apply below_alloc | apply pw_below_drewN | apply below_drew1 | refine below_set ?_ (IsS81.ge HI0.out) | refine below_setA ?_ (by assumption)) | exact HB.out), by repeat (first | (with_reducible first | exact HK.out | apply KeepBut.set_ | apply keep_drewN | apply keep_drew | apply keep_alloc | refine keep_far ?_ GW435.out _) | exact HK.out)⟩

/-! ### slices_Clone_int_int: function 66 -/
def slices_Clone_int_int.f (l0 : List Int) : Option (List Int) := if l0.length < 17592186044416 then some l0 else none
set_option maxHeartbeats 1000000 in
set_option maxRecDepth 100000 in
theorem slices_Clone_int_int.calls (A0 : Option Addr) (c0 : Nat) (l0 : List Int) (r : List Int) (w : World) (hr0 : Kd.C (Kd.int .i64) w A0 l0.length l0) (hc0 : l0.length ≤ c0) (h : slices_Clone_int_int.f l0 = some r) :
    Calls Try.prog 66 #[.slice A0 l0.length c0] w fun e w' => ∃ v0_ : Value, e = .returned (v0_) ∧ Kd.R (Kd.int .i64) 3 w' w.heap.size (fun _ => True) v0_ r ∧ Below w.heap.size w w' := by
  unfold slices_Clone_int_int.f at h
  have HR := Aside0.mk hr0
  clear hr0
  by_cases hl : l0.length < 17592186044416
  · rw [if_pos hl] at h
    obtain rfl := Option.some.inj h
    have HL := Aside0.mk hl
    clear h hl hc0
    have q22 : ∀ (w : World) (a : Option Addr) (n c n' c' : Nat), (binOp .eql 46 (.slice a n c) (.slice none n' c')).run Try.prog w = .ok (.bool a.isNone) w := fun w a n c n' c' => Lib.run_eql_slice_nil w _ _ a n c n' c' Try.underlying46
    rcases A0 with _ | ad
    · have hz : l0 = [] := by
        rcases l0 with _ | ⟨x, l⟩
        · rfl
        · obtain ⟨ad, e, _⟩ := HR.out.2.2 (by simp)
          cases e
      subst hz
      go_enter Try.func66, Try.ntmps66
      go_wp2
      go_ret
      exact ⟨_, rfl, Kd.R_nil _ _ _ _ _, Below.refl _ _⟩
    · go_enter Try.func66, Try.ntmps66
      go_wp2_with (first
        | ((with_reducible refine gate_dst (N := 5) rfl ?_); refine Kd.R_lit (Kd.int .i64) (w0 := w) w.heap.size 3 ?hg (N := 5) ?hd (xs := ([] : List Int)) (inner := []) (ok := fun _ => True) (okp := fun _ => True) ?hr ?hp (fun _ hk => hk) trivial (Below.refl _ _) (Nat.le_refl _) (by simp) ?_; (case hd => rfl); (case hg => rfl); (case hr => first | (go_simp; done) | (go_simp; rfl)); (case hp => exact Reps.none _ _); intro v1 w1 ho1 hb1 hg_ hnew_; have HO := Aside0.mk ho1; have HB := Aside0.mk hb1; clear ho1 hb1 hg_ hnew_)
        | ((with_reducible refine gate_builtin (b := .append) (xs := #[.tmp 5, .tmp 6]) rfl ?_); at_builtin; refine Kd.R_append_rows (Kd.int .i64) (w0 := w) w.heap.size rfl (.tmp 5) (.tmp 6) 46 3 (.int .i64 0) 8 rfl Try.underlying46 info3 rfl (by decide) (by omega) v1 [] l0 _ _ _ (fun _ => True) (fun _ => False) rfl rfl ?aO ?aR (fun _ _ h => h) (fun _ h => h.elim) (fun _ _ => trivial) ?aB ?aS ?aL ?_; (case aO => exact HO.out); (case aR => exact Kd.C_below HR.out HB.out); (case aB => exact HB.out); (case aS => exact below_size HB.out); (case aL => have := HL.out; simp only [List.length_nil]; omega); intro v2 w2 ho hb hg hat; clear hg hat))
      go_ret
      exact ⟨_, rfl, by simpa using ho, hb⟩
  · rw [if_neg hl] at h
    cases h

/-! ### random_source_sample: function 55 -/
mutual
def random_source_sample.l0 : Nat → Int → Int → List Int → Int → Int → Int → Int → Option (List Int × Int × Int)
 | 0, _, _, _, _, _, _, _ => none
 | k + 1, x1, x2, x7, x14, x15, x1000, x1001 => if x15 < x14 then (if 0 ≤ x15 then (if x15 < (x7.length : Int) then (random_source_sample.l0 k x1 x2 (x7.set (x15 : Int).toNat x15) x14 (wrap64 (x15 + 1)) x1000 x1001) else (none)) else (none)) else (random_source_sample.l1 k x1 x2 x7 x2 0 x1000 x1001)
def random_source_sample.l1 : Nat → Int → Int → List Int → Int → Int → Int → Int → Option (List Int × Int × Int)
 | 0, _, _, _, _, _, _, _ => none
 | k + 1, x1, x2, x7, x23, x24, x1000, x1001 => if x24 < x23 then ((random_source_small.f k x1000 x1001 (wrap64 (x1 - x24))).bind fun bt440 => (if 0 ≤ (wrap64 (x24 + bt440.1)) then (if (wrap64 (x24 + bt440.1)) < (x7.length : Int) then (if 0 ≤ x24 then (if x24 < (x7.length : Int) then (random_source_sample.l1 k x1 x2 ((x7.set (x24 : Int).toNat (rd x7 (wrap64 (x24 + bt440.1)))).set ((wrap64 (x24 + bt440.1)) : Int).toNat (rd x7 x24)) x23 (wrap64 (x24 + 1)) bt440.2.1 bt440.2.2) else (none)) else (none)) else (none)) else (none))) else (if 0 ≤ x2 then (if x2 ≤ (x7.length : Int) then ((slices_Clone_int_int.f (x7.take (x2 : Int).toNat)).bind fun t451 => (some (t451, x1000, x1001))) else (none)) else (none))
end
def random_source_sample.f (k : Nat) (s0_0 : Int) (s0_1 : Int) (a1 : Int) (a2 : Int) : Option (List Int × Int × Int) := if 0 ≤ a1 then (if (a1 : Int).toNat ≤ 35184372088832 then ((some (List.replicate (a1 : Int).toNat 0 : List Int)).bind fun y436 => (random_source_sample.l0 k a1 a2 y436 (y436.length : Int) 0 s0_0 s0_1)) else (none)) else (none)
theorem random_source_sample.mono_l : ∀ k, (∀ y0 y1 y2 y3 y4 y5 y6, LeO (random_source_sample.l0 k y0 y1 y2 y3 y4 y5 y6) (random_source_sample.l0 (k + 1) y0 y1 y2 y3 y4 y5 y6)) ∧ (∀ y0 y1 y2 y3 y4 y5 y6, LeO (random_source_sample.l1 k y0 y1 y2 y3 y4 y5 y6) (random_source_sample.l1 (k + 1) y0 y1 y2 y3 y4 y5 y6))
 | 0 => ⟨fun _ _ _ _ _ _ _ r h => by simp [random_source_sample.l0] at h, fun _ _ _ _ _ _ _ r h => by simp [random_source_sample.l1] at h⟩
 | k + 1 => by
  obtain ⟨ih0, ih1⟩ := random_source_sample.mono_l k
  refine ⟨?_, ?_⟩
  ·intro y0 y1 y2 y3 y4 y5 y6
   unfold random_source_sample.l0
   repeat' first
   | (with_reducible exact ih0 _ _ _ _ _ _ _)
   | (with_reducible exact ih1 _ _ _ _ _ _ _)
   | (with_reducible exact random_source_small.mono _ _ _ _)
   | (with_reducible exact LeO.refl _)
   | (with_reducible exact LeO.none _)
   | (with_reducible refine LeO.ite ?_ ?_)
   | (with_reducible refine LeO.bind ?_ (fun _ => ?_))
   | exact ih0 _ _ _ _ _ _ _
   | exact ih1 _ _ _ _ _ _ _
   | exact random_source_small.mono _ _ _ _
   | exact LeO.none _
   | refine LeO.ite ?_ ?_
   | refine LeO.bind ?_ (fun _ => ?_)
  ·intro y0 y1 y2 y3 y4 y5 y6
   unfold random_source_sample.l1
   repeat' first
   | (with_reducible exact ih0 _ _ _ _ _ _ _)
   | (with_reducible exact ih1 _ _ _ _ _ _ _)
   | (with_reducible exact random_source_small.mono _ _ _ _)
   | (with_reducible exact LeO.refl _)
   | (with_reducible exact LeO.none _)
   | (with_reducible refine LeO.ite ?_ ?_)
   | (with_reducible refine LeO.bind ?_ (fun _ => ?_))
   | exact ih0 _ _ _ _ _ _ _
   | exact ih1 _ _ _ _ _ _ _
   | exact random_source_small.mono _ _ _ _
   | exact LeO.none _
   | refine LeO.ite ?_ ?_
   | refine LeO.bind ?_ (fun _ => ?_)
theorem random_source_sample.mono : ∀ a0 a1 a2 a3 k, LeO (random_source_sample.f k a0 a1 a2 a3) (random_source_sample.f (k + 1) a0 a1 a2 a3) := by
 intro a0 a1 a2 a3 k
 obtain ⟨ih0, ih1⟩ := random_source_sample.mono_l k
 unfold random_source_sample.f
 repeat' first
   | (with_reducible exact ih0 _ _ _ _ _ _ _)
   | (with_reducible exact ih1 _ _ _ _ _ _ _)
   | (with_reducible exact random_source_small.mono _ _ _ _)
   | (with_reducible exact LeO.refl _)
   | (with_reducible exact LeO.none _)
   | (with_reducible refine LeO.ite ?_ ?_)
   | (with_reducible refine LeO.bind ?_ (fun _ => ?_))
   | exact ih0 _ _ _ _ _ _ _
   | exact ih1 _ _ _ _ _ _ _
   | exact random_source_small.mono _ _ _ _
   | exact LeO.none _
   | refine LeO.ite ?_ ?_
   | refine LeO.bind ?_ (fun _ => ?_)
def random_source_sample.T11 : Bool × List (List Nat × List Nat) := (true, [([], []), ([], []), ([], []), ([], []), ([], []), ([], []), ([4, 5], [4, 5]), ([6], [6]), ([], []), ([], []), ([8, 9], [8, 9]), ([10], [10]), ([0, 1, 0, 1, 4, 5, 6, 7, 11], [0, 1]), ([12, 7, 0, 1, 4, 5, 6, 7, 11], [7, 12]), ([2, 3, 0, 1, 2, 3, 4, 5, 6, 7, 8, 9, 10, 11, 12, 13], [2, 3]), ([14, 11, 13, 0, 1, 2, 3, 4, 5, 6, 7, 8, 9, 10, 11, 12, 13], [11, 14])])
def random_source_sample.B11 : List Nat := [0, 0, 0, 0, 0, 0, 48, 112, 0, 0, 768, 1792, 4083, 8179, 16383, 32767]
theorem random_source_sample.tab11 : rtab .any (opsOf Try.f55 11) = random_source_sample.T11 := by kernel_rfl
theorem random_source_sample.bits11 : waitsOk random_source_sample.T11.2 random_source_sample.B11 = true := by kernel_rfl
set_option maxHeartbeats 60000000 in
set_option maxRecDepth 100000 in
theorem random_source_sample.calls (k : Nat) (g : Nat) (s0_0 : Int) (s0_1 : Int) (a1 : Int) (a2 : Int) (r1 : List Int) (r2 : Int) (r3 : Int) (w0 w : World) (hI : IsS81 w0 w g s0_0 s0_1) (hB : Below w0.heap.size w0 w) (h : random_source_sample.f k s0_0 s0_1 a1 a2 = some (r1, r2, r3)) :
  Calls Try.prog 55 #[.pointer (some ⟨g, 0, none⟩), .int .i64 a1, .int .i64 a2] w fun e w' => ∃ v0_ : Value, e = .returned (v0_) ∧ Kd.R (Kd.int .i64) 3 w' w.heap.size (fun _ => True) v0_ r1 ∧ IsS81 w0 w' g r2 r3 ∧ Below w0.heap.size w0 w' ∧ KeepBut w w' g none := by
 have HI0 := zM hI
 have HK := zM (KeepBut.refl w g none)
 have HL := zM hB.size
 clear hI
 have HW0 := zM hB.size
 have HB := zM hB
 clear hB
 have H : (if 0 ≤ a1 then (if (a1 : Int).toNat ≤ 35184372088832 then ((some (List.replicate (a1 : Int).toNat 0 : List Int)).bind fun y436 => (random_source_sample.l0 k a1 a2 y436 (y436.length : Int) 0 s0_0 s0_1)) else (none)) else (none)) = some (r1, r2, r3) := h
 clear h
 by_cases c4 : 0 ≤ a1
 ·rw [if_pos c4] at H
  have c4b0 := eq_true c4
  have c4b1 : decide (0 ≤ a1) = true := zE c4
  clear c4
  by_cases c5 : (a1 : Int).toNat ≤ 35184372088832
  ·rw [if_pos c5] at H
   have c5b0 := eq_true c5
   have c5b1 : decide ((a1 : Int).toNat ≤ 35184372088832) = true := zE c5
   clear c5
   obtain ⟨y436, hy436⟩ : ∃ y_ : List Int, y_ = (List.replicate (a1 : Int).toNat 0) := ⟨_, rfl⟩
   replace H : (random_source_sample.l0 k a1 a2 y436 (y436.length : Int) 0 s0_0 s0_1) = some (r1, r2, r3) := by first | (rw [hy436]; with_reducible exact H) | (have H2_ := (Option.bind_some _ _).symm.trans H; rw [hy436]; with_reducible exact H2_) | (have H2_ := (Option.bind_some _ _).symm.trans H; with_reducible exact H2_) | with_reducible exact H | (rw [hy436]; exact H) | exact H
   have Ny436 := zM hy436
   clear hy436
   have H' := zM H
   clear H
   go_enter Try.func55, Try.ntmps55
   go_wp2_with (first | ((with_reducible refine gate_dst (N := 12) rfl ?_); refine Kd.R_make (Kd.int .i64) _ 3 rfl (N := 12) rfl 46 _ _ rfl a1 rfl rfl Try.underlying46 (.int .i64 0) 8 info3 rfl (by decide) (by omega) 0 (ok := fun _ => True) (okp := fun _ => True) rfl (fun _ hk => hk) trivial (zD (by first | (with_reducible assumption) | assumption)) (Nat.le_trans (Nat.mul_le_mul_right _ (zD (by first | (with_reducible assumption) | assumption) : a1.toNat ≤ 35184372088832)) (by omega)) (Below.refl _ _) (Nat.le_refl _) ?_; intro v437 w6 ho7 hb hg_ hnew_; clear hg_ hnew_; (first | rw [← Ny436.out] at ho7 | (simp only [Int.reduceToNat] at ho7; rw [← Ny436.out] at ho7)); have HO438 := zM (Kd.R_lower ho7 (keep_size (w := w) (g := g) (row := none) (HK.out))); replace HK := zM (KeepBut.trans (HK.out) (KeepBut.of_below hb g none) (.inl rfl)); replace HB := zM (below_step (by repeat (first | (with_reducible first | exact HB.out | apply below_alloc | apply pw_below_drewN | apply below_drew1 | refine below_set ?_ (IsS81.ge HI0.out)) | exact HB.out)) hb); replace HI0 := zM (IsS81.below (HI0.out) hb); clear hb ho7; obtain ⟨Ao8, co8, eo8⟩ := Kd.R_slice HO438.out; subst eo8))
   go_loopg [15] k (fun kq v15 w' => ∃ (x7_1 : List Int) (x15_1 : Int), v15 = .int .i64 x15_1 ∧ Aside0 (random_source_sample.l0 kq a1 a2 x7_1 (y436.length : Int) x15_1 s0_0 s0_1 = some (r1, r2, r3)) ∧ Aside0 (kq ≤ k) ∧ Aside0 (Kd.R (Kd.int .i64) 3 w' w.heap.size (fun _ => True) (.slice Ao8 y436.length co8) x7_1) ∧ Aside0 (IsS81 w0 w' g s0_0 s0_1) ∧ Aside0 (KeepBut w w' g none) ∧ Aside0 (Below w0.heap.size w0 w'))
   case atStart => exact ⟨(y436), (0), (by first | rfl | (simp; done) | (simp [*]; done)), H', ⟨Nat.le_refl _⟩, ⟨by (with_reducible repeat (first | apply Kd.R_alloc | apply Kd.R_drewN | apply Kd.R_drew)); exact HO438.out⟩, ⟨HI0.out⟩, ⟨HK.out⟩, ⟨by repeat (first | (with_reducible first | exact HB.out | apply below_alloc | apply pw_below_drewN | apply below_drew1 | refine below_set ?_ (IsS81.ge HI0.out)) | exact HB.out)⟩⟩
   case round =>
    clear H'
    try clear p2
    try clear c4
    try clear c4b0
    try clear c4b1
    try clear c5
    try clear c5b0
    try clear c5b1
    obtain ⟨x7_1, x15_1, rfl, HA, HK1, HO_7, HI0, HK, HB⟩ := hrel
    have hl7_1 := (Kd.R_reads' HO_7.out).1
    rw [hl7_1] at HO_7
    (try simp only [hl7_1])
    cases gk with
    | zero => exact absurd HA.out (by simp [random_source_sample.l0])
    | succ k1 =>
     have H := HA.out
     clear HA
     simp only [random_source_sample.l0] at H
     by_cases c9 : x15_1 < (y436.length : Int)
     ·rw [if_pos c9] at H
      have c9b0 : decide (x15_1 < (y436.length : Int)) = true := zE c9
      (try (have c9b0l0 := c9b0; rw [hl7_1] at c9b0l0))
      clear c9
      by_cases c10 : 0 ≤ x15_1
      ·rw [if_pos c10] at H
       have c10b0 : decide (0 ≤ x15_1) = true := zE c10
       clear c10
       by_cases c11 : x15_1 < (x7_1.length : Int)
       ·rw [if_pos c11] at H
        have c11b0 : decide (x15_1 < (x7_1.length : Int)) = true := zE c11
        (try (have c11b0l0 := c11b0; rw [hl7_1] at c11b0l0))
        clear c11
        obtain ⟨y439, hy439⟩ : ∃ y_ : List Int, y_ = (x7_1.set (x15_1 : Int).toNat x15_1) := ⟨_, rfl⟩
        replace H : (random_source_sample.l0 k1 a1 a2 y439 (y436.length : Int) (wrap64 (x15_1 + 1)) s0_0 s0_1) = some (r1, r2, r3) := by first | (rw [hy439]; with_reducible exact H) | (have H2_ := (Option.bind_some _ _).symm.trans H; rw [hy439]; with_reducible exact H2_) | (have H2_ := (Option.bind_some _ _).symm.trans H; with_reducible exact H2_) | with_reducible exact H | (rw [hy439]; exact H) | exact H
        have Ny439 := zM hy439
        clear hy439
        have H' := zM H
        clear H
        have p12 : 0 ≤ (x15_1 : Int) := zD (by first | (with_reducible assumption) | assumption)
        have q12 : (x15_1 : Int) < ((x7_1.length : Int) : Int) := zD (by first | (with_reducible assumption) | assumption)
        obtain ⟨go12, co12, eo12, gb12, gl12, cl12, HG12⟩ := Kd.R_form HO_7.out (by omega)
        (first | cases eo12 | (injection eo12 with ea_ en_ ec_; (first | subst ea_ | (injection ea_ with ea_; subst ea_)); subst ec_; clear en_))
        have GB12 := zM gb12
        have GG12 := zM HG12
        clear gb12 gl12 HG12
        obtain ⟨hx12_0, hf12_0⟩ := Kd.R_celln 0 HO_7.out (x15_1 : Int) p12 q12
        replace p12 := eq_true p12
        replace q12 := eq_true q12
        have HP13 := Kd.R_putg HO_7.out (x15_1 : Int) x15_1
        go_wp2_with (first | ((with_reducible refine gate_store (t := 3) (p := 21) rfl ?_); refine store_event (t := 3) (p := 21) (v := ?vo_w14) (w1 := (wr.setCell ⟨go12, (x15_1 : Int).toNat, none⟩ (.int .i64 x15_1))) ?hg ?ho ?hn ?hr ?_; (case ho => rfl); (case hg => rfl); (case hn => rfl); (case hr => first | (go_simp; done) | (go_simp; rfl)); intro w14 hw; have hg : wr.grownBy w14 (some go12) := (by rw [hw]; exact HP13.2); have hp_ : Kd.R (Kd.int .i64) 3 w14 w.heap.size (fun _ => True) (.slice (some ⟨go12, 0, none⟩) x7_1.length co8) y439 := (by rw [hw, Ny439.out]; exact HP13.1); clear HP13; replace HI0 := zM (IsS81.grown (HI0.out) hg (IsS81.own_ne HI0.out HO_7.out (by decide))); replace HB := zM ((by rw [hw]; exact below_set (HB.out) (Nat.le_trans HL.out GB12.out) : Below w0.heap.size w0 w14)); replace HK := zM (KeepBut.trans (HK.out) (KeepBut.of_grown hg g) (Kd.R_base2 HO_7.out)); replace HO_7 := zM (hp_); clear hg hw hp_))
        (try simp only [← hl7_1])
        go_roundg k1
        case measure => have := HK1.out; omega
        case rel => exact ⟨(y439), (wrap64 (x15_1 + 1)), (by first | rfl | (simp; done) | (simp [*]; done)), H', ⟨by have := HK1.out; omega⟩, ⟨by (try simp only [hl7_1]); (with_reducible repeat (first | apply Kd.R_alloc | apply Kd.R_drewN | apply Kd.R_drew)); exact HO_7.out⟩, ⟨HI0.out⟩, ⟨HK.out⟩, ⟨by repeat (first | (with_reducible first | exact HB.out | apply below_alloc | apply pw_below_drewN | apply below_drew1 | refine below_set ?_ (IsS81.ge HI0.out)) | exact HB.out)⟩⟩
       ·rw [if_neg c11] at H
        exact absurd H (by simp)
      ·rw [if_neg c10] at H
       exact absurd H (by simp)
     ·rw [if_neg c9] at H
      have c9b0 : decide (x15_1 < (y436.length : Int)) = false := decide_eq_false c9
      (try (have c9b0l0 := c9b0; rw [hl7_1] at c9b0l0))
      clear c9
      have H' := zM H
      clear H
      go_wp2
      go_loopg [24] k1 (fun kq v24 w' => ∃ (x7_2 : List Int) (x24_2 : Int) (x1000_2 : Int) (x1001_2 : Int), v24 = .int .i64 x24_2 ∧ Aside0 (random_source_sample.l1 kq a1 a2 x7_2 a2 x24_2 x1000_2 x1001_2 = some (r1, r2, r3)) ∧ Aside0 (kq ≤ k1) ∧ Aside0 (Kd.R (Kd.int .i64) 3 w' w.heap.size (fun _ => True) (.slice Ao8 x7_1.length co8) x7_2) ∧ Aside0 (IsS81 w0 w' g x1000_2 x1001_2) ∧ Aside0 (KeepBut w w' g none) ∧ Aside0 (Below w0.heap.size w0 w'))
      case atStart => exact ⟨(x7_1), (0), (s0_0), (s0_1), (by first | rfl | (simp; done) | (simp [*]; done)), H', ⟨Nat.le_refl _⟩, ⟨by (try simp only [hl7_1]); (with_reducible repeat (first | apply Kd.R_alloc | apply Kd.R_drewN | apply Kd.R_drew)); exact HO_7.out⟩, ⟨HI0.out⟩, ⟨HK.out⟩, ⟨by repeat (first | (with_reducible first | exact HB.out | apply below_alloc | apply pw_below_drewN | apply below_drew1 | refine below_set ?_ (IsS81.ge HI0.out)) | exact HB.out)⟩⟩
      case round =>
       clear H'
       try clear c1
       try clear p1
       try clear q1
       try clear hx1
       try clear p2
       try clear c4
       try clear c4b0
       try clear c4b1
       try clear c5
       try clear c5b0
       try clear c5b1
       try clear p6
       try clear c9
       try clear c9b0
       try clear c10
       try clear c10b0
       try clear c11
       try clear c11b0
       try clear p12
       try clear q12
       try clear hx12
       try clear hf12
       try clear hx12_0
       try clear p12
       try clear p2
       try clear q12
       obtain ⟨x7_2, x24_2, x1000_2, x1001_2, rfl, HA, HK2, HO_7, HI0, HK, HB⟩ := hrel
       have hl7_2 := (Kd.R_reads' HO_7.out).1
       rw [hl7_2] at HO_7
       (try simp only [hl7_2])
       cases gk with
       | zero => exact absurd HA.out (by simp [random_source_sample.l1])
       | succ k2 =>
        have H := HA.out
        clear HA
        simp only [random_source_sample.l1] at H
        by_cases c15 : x24_2 < a2
        ·rw [if_pos c15] at H
         have c15b0 : decide (x24_2 < a2) = true := zE c15
         clear c15
         replace H := zB H
         obtain ⟨⟨t440, t441, t442⟩, A160, H⟩ := H
         replace H : (if 0 ≤ (wrap64 (x24_2 + t440)) then (if (wrap64 (x24_2 + t440)) < (x7_2.length : Int) then (if 0 ≤ x24_2 then (if x24_2 < (x7_2.length : Int) then (random_source_sample.l1 k2 a1 a2 ((x7_2.set (x24_2 : Int).toNat (rd x7_2 (wrap64 (x24_2 + t440)))).set ((wrap64 (x24_2 + t440)) : Int).toNat (rd x7_2 x24_2)) a2 (wrap64 (x24_2 + 1)) t441 t442) else (none)) else (none)) else (none)) else (none)) = some (r1, r2, r3) := H
         have A16 := zM A160
         clear A160
         obtain ⟨ji17, hji17⟩ : ∃ j_ : Int, (wrap64 (x24_2 + t440)) = j_ := ⟨_, rfl⟩
         replace H : (if 0 ≤ (ji17) then (if (ji17) < (x7_2.length : Int) then (if 0 ≤ x24_2 then (if x24_2 < (x7_2.length : Int) then (random_source_sample.l1 k2 a1 a2 ((x7_2.set (x24_2 : Int).toNat (rd x7_2 (ji17))).set ((ji17) : Int).toNat (rd x7_2 x24_2)) a2 (wrap64 (x24_2 + 1)) t441 t442) else (none)) else (none)) else (none)) else (none)) = some (r1, r2, r3) := by first | (rw [hji17] at H; exact H) | (simp only [hji17] at H ⊢; exact H)
         (try rw [hji17] at A16)
         have hji17w : (IntKind.i64.wrap (x24_2 + t440)) = ji17 := (i64_w _).trans hji17
         by_cases c18 : 0 ≤ (ji17)
         ·rw [if_pos c18] at H
          have c18b0 : decide (0 ≤ (ji17)) = true := zE c18
          clear c18
          by_cases c19 : (ji17) < (x7_2.length : Int)
          ·rw [if_pos c19] at H
           have c19b0 : decide ((ji17) < (x7_2.length : Int)) = true := zE c19
           (try (have c19b0l0 := c19b0; rw [hl7_1] at c19b0l0))
           (try (have c19b0l1 := c19b0; rw [hl7_2] at c19b0l1))
           clear c19
           by_cases c20 : 0 ≤ x24_2
           ·rw [if_pos c20] at H
            have c20b0 : decide (0 ≤ x24_2) = true := zE c20
            clear c20
            by_cases c21 : x24_2 < (x7_2.length : Int)
            ·rw [if_pos c21] at H
             have c21b0 : decide (x24_2 < (x7_2.length : Int)) = true := zE c21
             (try (have c21b0l0 := c21b0; rw [hl7_1] at c21b0l0))
             (try (have c21b0l1 := c21b0; rw [hl7_2] at c21b0l1))
             clear c21
             obtain ⟨y445, hy445⟩ : ∃ y_ : List Int, y_ = (x7_2.set (x24_2 : Int).toNat (rd x7_2 (ji17))) := ⟨_, rfl⟩
             replace H : (random_source_sample.l1 k2 a1 a2 (y445.set ((ji17) : Int).toNat (rd x7_2 x24_2)) a2 (wrap64 (x24_2 + 1)) t441 t442) = some (r1, r2, r3) := by first | (rw [hy445]; with_reducible exact H) | (have H2_ := (Option.bind_some _ _).symm.trans H; rw [hy445]; with_reducible exact H2_) | (have H2_ := (Option.bind_some _ _).symm.trans H; with_reducible exact H2_) | with_reducible exact H | (rw [hy445]; exact H) | exact H
             have Ny445 := zM hy445
             clear hy445
             obtain ⟨y446, hy446⟩ : ∃ y_ : List Int, y_ = (y445.set ((ji17) : Int).toNat (rd x7_2 x24_2)) := ⟨_, rfl⟩
             replace H : (random_source_sample.l1 k2 a1 a2 y446 a2 (wrap64 (x24_2 + 1)) t441 t442) = some (r1, r2, r3) := by first | (rw [hy446]; with_reducible exact H) | (have H2_ := (Option.bind_some _ _).symm.trans H; rw [hy446]; with_reducible exact H2_) | (have H2_ := (Option.bind_some _ _).symm.trans H; with_reducible exact H2_) | with_reducible exact H | (rw [hy446]; exact H) | exact H
             have Ny446 := zM hy446
             clear hy446
             have H' := zM H
             clear H
             try go_wp2_with (first | ((with_reducible refine gate_callee (f := 56) rfl ?_); refine goesL_ (some 32) rfl rfl Try.func56 (by kernel_rfl) rfl #[.pointer (some ⟨g, 0, none⟩), .int .i64 (wrap64 (a1 - x24_2))] rfl (by (try simp only [zT, zC, zN]); first | done | rfl | (simp only [zR, zL]; rfl)) ?_; (with_reducible refine (random_source_small.calls k2 g x1000_2 x1001_2 (wrap64 (a1 - x24_2)) t440 t441 t442 w0 _ ?side1 ?side2 A16.out).mono ?_); (case side1 => exact HI0.out); (case side2 => repeat (first | (with_reducible first | exact HB.out | apply below_alloc | apply pw_below_drewN | apply below_drew1 | refine below_set ?_ (IsS81.ge HI0.out)) | exact HB.out)); rintro e w24 ⟨rfl, hi, hb, hk⟩; refine ⟨_, rfl, ?_⟩; replace HO_7 := zM (Kd.R_mono (Kd.R_keep (IsS81.apart (show IsS81 w0 _ g x1000_2 x1001_2 from HI0.out) HO_7.out (by decide)) hk (fun _ h => h.2)) (fun _ h => h.1)); replace HK := zM (KeepBut.trans (HK.out) hk (.inl rfl)); replace HB := zM (hb); replace HI0 := zM (hi); (try clear hb); (try clear hb2); (try clear hk); (try clear hi)))
             replace HO_7 := zM (Kd.R_drew HO_7.out)
             replace HI0 := zM (IsS81.drew HI0.out)
             replace HK := zM (keep_drew HK.out)
             replace HB := zM (below_drew1 HB.out)
             have p443 : 0 ≤ ((ji17) : Int) := zD (by first | (with_reducible assumption) | assumption)
             have q443 : (ji17) < (x7_2.length : Int) := zD (by first | (with_reducible assumption) | assumption)
             obtain ⟨ad443, e443, hx443_0⟩ := Kd.at_int (Kd.R_reads' HO_7.out).2.2 (ji17) p443 q443
             cases e443
             replace p443 := eq_true p443
             replace q443 := eq_true q443
             have p444 : 0 ≤ (x24_2 : Int) := zD (by first | (with_reducible assumption) | assumption)
             have q444 : x24_2 < (x7_2.length : Int) := zD (by first | (with_reducible assumption) | assumption)
             obtain ⟨ad444, e444, hx444_0⟩ := Kd.at_int (Kd.R_reads' HO_7.out).2.2 x24_2 p444 q444
             obtain rfl : ad443 = ad444 := (by injection e444)
             replace p444 := eq_true p444
             replace q444 := eq_true q444
             have p22 : 0 ≤ (x24_2 : Int) := zD (by first | (with_reducible assumption) | assumption)
             have q22 : (x24_2 : Int) < ((x7_2.length : Int) : Int) := zD (by first | (with_reducible assumption) | assumption)
             obtain ⟨go22, co22, eo22, gb22, gl22, cl22, HG22⟩ := Kd.R_form HO_7.out (by omega)
             (first | cases eo22 | (injection eo22 with ea_ en_ ec_; (first | subst ea_ | (injection ea_ with ea_; subst ea_)); subst ec_; clear en_))
             have GB22 := zM gb22
             have GG22 := zM HG22
             clear gb22 gl22 HG22
             (first | simp only [add_plain] at hx443_0 | skip)
             (first | simp only [add_plain] at hx444_0 | skip)
             obtain ⟨hx22_0, hf22_0⟩ := Kd.R_celln 0 HO_7.out (x24_2 : Int) p22 q22
             replace p22 := eq_true p22
             replace q22 := eq_true q22
             have HN0_go22 := zM (show g ≠ go22 from by have h_ := IsS81.own_ne HI0.out HO_7.out (by decide); intro e_; exact h_ (by rw [e_]; rfl))
             have HP26 := Kd.R_putn HO_7.out (x24_2 : Int) (rd x7_2 (ji17))
             rw [← Ny445.out] at HP26
             have HQ26 := zM HP26
             clear HP26
             have p23 : 0 ≤ ((ji17) : Int) := zD (by first | (with_reducible assumption) | assumption)
             have q23 : ((ji17) : Int) < ((x7_2.length : Int) : Int) := zD (by first | (with_reducible assumption) | assumption)
             obtain ⟨hx23_0, hf23_0⟩ := Kd.R_celln 0 HQ26.out ((ji17) : Int) p23 q23
             replace p23 := eq_true p23
             replace q23 := eq_true q23
             have HN0_go22 := zM (show g ≠ go22 from by have h_ := IsS81.own_ne HI0.out HO_7.out (by decide); intro e_; exact h_ (by rw [e_]; rfl))
             have HP27 := Kd.R_putn HQ26.out ((ji17) : Int) (rd x7_2 x24_2)
             rw [← Ny446.out] at HP27
             have HQ27 := zM HP27
             clear HP27
             refine start_ (n := 16) (S := fun w' => w'.cell? ⟨go22, ((ji17)).toNat, none⟩ = some (.int .i64 (rd x7_2 (ji17))) ∧ w'.cell? ⟨go22, (x24_2).toNat, none⟩ = some (.int .i64 (rd x7_2 x24_2))) (ds := [13, 15]) #[false, false, false, false, false, false, false, false, false, false, false, false, false, false, false, false] (by kernel_rfl) rfl rfl ⟨hx443_0, hx444_0⟩ (fun hHeld => ?_); refine with_tabW random_source_sample.tab11 random_source_sample.bits11 (fun HT_ HW_ => ?_)
             generalize w24.drew = w25 at HO_7 HI0 HK HB GG22 HQ26 HQ27 hf22_0 hf23_0 hx22_0 hx23_0 hx443_0 hx444_0 hHeld ⊢
             refine pure_ (i := 0) (N := some 34) (v := ?_) (a' := ?_) #[true, false, false, false, false, false, false, false, false, false, false, false, false, false, false, false] rfl rfl (any_of HT_.out (by kernel_rfl)) (fun _ _ _ h => h) (Or.inl ⟨by rfl, ?_⟩) ?_ ?_
             rotate_left
             ·intro w'
              go_simp
              with_reducible rfl
             rotate_left
             ·simp only [Act.put, zS, z0, z1, i64_w, i32_w]
              rfl
             refine pure_ (i := 1) (N := some 35) (v := ?_) (a' := ?_) #[true, true, false, false, false, false, false, false, false, false, false, false, false, false, false, false] rfl rfl (any_of HT_.out (by kernel_rfl)) (fun _ _ _ h => h) (Or.inl ⟨by rfl, ?_⟩) ?_ ?_
             rotate_left
             ·intro w'
              go_simp
              with_reducible rfl
             rotate_left
             ·simp only [Act.put, zS, z0, z1, i64_w, i32_w]
              rfl
             refine pure_ (i := 2) (N := some 36) (v := ?_) (a' := ?_) #[true, true, true, false, false, false, false, false, false, false, false, false, false, false, false, false] rfl rfl (any_of HT_.out (by kernel_rfl)) (fun _ _ _ h => h) (Or.inl ⟨by rfl, ?_⟩) ?_ ?_
             rotate_left
             ·intro w'
              go_simp
              with_reducible rfl
             rotate_left
             ·simp only [Act.put, zS, z0, z1, i64_w, i32_w]
              rfl
             refine pure_ (i := 3) (N := some 37) (v := ?_) (a' := ?_) #[true, true, true, true, false, false, false, false, false, false, false, false, false, false, false, false] rfl rfl (any_of HT_.out (by kernel_rfl)) (fun _ _ _ h => h) (Or.inl ⟨by rfl, ?_⟩) ?_ ?_
             rotate_left
             ·intro w'
              go_simp
              with_reducible rfl
             rotate_left
             ·simp only [Act.put, zS, z0, z1, i64_w, i32_w]
              rfl
             refine pure_ (i := 4) (N := some 38) (v := ?_) (a' := ?_) #[true, true, true, true, true, false, false, false, false, false, false, false, false, false, false, false] rfl rfl (any_of HT_.out (by kernel_rfl)) (fun _ _ _ h => h) (Or.inl ⟨by rfl, ?_⟩) ?_ ?_
             rotate_left
             ·intro w'
              go_simp
              with_reducible rfl
             rotate_left
             ·simp only [Act.put, zS, z0, z1, i64_w, i32_w]
              rfl
             refine pure_ (i := 5) (N := some 39) (v := ?_) (a' := ?_) #[true, true, true, true, true, true, false, false, false, false, false, false, false, false, false, false] rfl rfl (any_of HT_.out (by kernel_rfl)) (fun _ _ _ h => h) (Or.inl ⟨by rfl, ?_⟩) ?_ ?_
             rotate_left
             ·intro w'
              go_simp
              with_reducible rfl
             rotate_left
             ·simp only [Act.put, zS, z0, z1, i64_w, i32_w]
              rfl
             refine pure_ (i := 6) (N := some 40) (v := ?_) (a' := ?_) #[true, true, true, true, true, true, true, false, false, false, false, false, false, false, false, false] rfl rfl (any_of HT_.out (by kernel_rfl)) (fun _ _ _ h => h) (Or.inl ⟨by rfl, ?_⟩) ?_ ?_
             rotate_left
             ·intro w'
              go_simp
              with_reducible rfl
             rotate_left
             ·simp only [Act.put, zS, z0, z1, i64_w, i32_w]
              rfl
             refine pure_ (i := 8) (N := some 42) (v := ?_) (a' := ?_) #[true, true, true, true, true, true, true, false, true, false, false, false, false, false, false, false] rfl rfl (any_of HT_.out (by kernel_rfl)) (fun _ _ _ h => h) (Or.inl ⟨by rfl, ?_⟩) ?_ ?_
             rotate_left
             ·intro w'
              go_simp
              with_reducible rfl
             rotate_left
             ·simp only [Act.put, zS, z0, z1, i64_w, i32_w]
              rfl
             refine pure_ (i := 9) (N := some 43) (v := ?_) (a' := ?_) #[true, true, true, true, true, true, true, false, true, true, false, false, false, false, false, false] rfl rfl (any_of HT_.out (by kernel_rfl)) (fun _ _ _ h => h) (Or.inl ⟨by rfl, ?_⟩) ?_ ?_
             rotate_left
             ·intro w'
              go_simp
              with_reducible rfl
             rotate_left
             ·simp only [Act.put, zS, z0, z1, i64_w, i32_w]
              rfl
             refine pure_ (i := 10) (N := some 44) (v := ?_) (a' := ?_) #[true, true, true, true, true, true, true, false, true, true, true, false, false, false, false, false] rfl rfl (any_of HT_.out (by kernel_rfl)) (fun _ _ _ h => h) (Or.inl ⟨by rfl, ?_⟩) ?_ ?_
             rotate_left
             ·intro w'
              go_simp
              with_reducible rfl
             rotate_left
             ·simp only [Act.put, zS, z0, z1, i64_w, i32_w]
              rfl
             refine take_ (i := 7) (N := some 41) (v := ?_) (a' := ?_) #[true, true, true, true, true, true, true, true, true, true, true, false, false, false, false, false] rfl rfl (take_ofW HT_.out HW_.out (by kernel_rfl)) (fun _ _ _ h => h) (Or.inl ⟨by rfl, ?_⟩) hHeld ?_ ?_
             rotate_left
             ·rintro w' ⟨s0, s1⟩
              go_simp
              with_reducible rfl
             rotate_left
             ·simp only [Act.put, zS, z0, z1, i64_w, i32_w]
              rfl
             refine take_ (i := 11) (N := some 45) (v := ?_) (a' := ?_) #[true, true, true, true, true, true, true, true, true, true, true, true, false, false, false, false] rfl rfl (take_ofW HT_.out HW_.out (by kernel_rfl)) (fun _ _ _ h => h) (Or.inl ⟨by rfl, ?_⟩) hHeld ?_ ?_
             rotate_left
             ·rintro w' ⟨s0, s1⟩
              go_simp
              with_reducible rfl
             rotate_left
             ·simp only [Act.put, zS, z0, z1, i64_w, i32_w]
              rfl
             refine pure_ (i := 12) (N := some 46) (v := ?_) (a' := ?_) #[true, true, true, true, true, true, true, true, true, true, true, true, true, false, false, false] rfl rfl (any_of HT_.out (by kernel_rfl)) (fun _ _ _ h => h) (Or.inl ⟨by rfl, ?_⟩) ?_ ?_
             rotate_left
             ·intro w'
              go_simp
              with_reducible rfl
             rotate_left
             ·simp only [Act.put, zS, z0, z1, i64_w, i32_w]
              rfl
             refine last_ (i := 13) (N := none) #[true, true, true, true, true, true, true, true, true, true, true, true, true, true, false, false] rfl rfl (one_of HT_.out (by kernel_rfl)) (by decide) (fun K hK => ?_)
             refine skip_ (w1 := ?_) (by rfl) rfl ?_ ?_
             rotate_left
             ·go_simp
              rfl
             refine hK.out _ _ ?_
             clear hK K
             refine pure_ (i := 14) (N := some 47) (v := ?_) (a' := ?_) #[true, true, true, true, true, true, true, true, true, true, true, true, true, true, true, false] rfl rfl (any_of HT_.out (by kernel_rfl)) (fun _ _ _ h => h) (Or.inl ⟨by rfl, ?_⟩) ?_ ?_
             rotate_left
             ·intro w'
              go_simp
              with_reducible rfl
             rotate_left
             ·simp only [Act.put, zS, z0, z1, i64_w, i32_w]
              rfl
             refine last_ (i := 15) (N := none) #[true, true, true, true, true, true, true, true, true, true, true, true, true, true, true, true] rfl rfl (one_of HT_.out (by kernel_rfl)) (by decide) (fun K hK => ?_)
             refine skip_ (w1 := ?_) (by rfl) rfl ?_ ?_
             rotate_left
             ·go_simp
              rfl
             refine hK.out _ _ ?_
             clear hK K
             refine done_ (done_of HT_.out (by kernel_rfl)) ?_
             try go_wp2
             (try simp only [← hl7_2])
             go_roundg k2
             case measure => have := HK1.out; have := HK2.out; omega
             case rel => exact ⟨(y446), (wrap64 (x24_2 + 1)), (t441), (t442), (by first | rfl | (simp; done) | (simp [*]; done)), H', ⟨by have := HK1.out; have := HK2.out; omega⟩, ⟨by (try simp only [hl7_1]); (try simp only [hl7_2]); (with_reducible repeat (first | apply Kd.R_alloc | apply Kd.R_drewN | apply Kd.R_drew)); exact HQ27.out⟩, ⟨by repeat (first | (with_reducible first | exact HI0.out | apply IsS81.alloc | apply IsS81.drewN | apply IsS81.drew | apply IsS81.set_0 | apply IsS81.set_1 | refine IsS81.far ?_ HN0_go22.out _ | refine IsS81.far ?_ HN0_go22.out _) | exact HI0.out)⟩, ⟨by repeat (first | (with_reducible first | exact HK.out | apply KeepBut.set_ | apply keep_drewN | apply keep_drew | apply keep_alloc | refine keep_far ?_ GB22.out _ | refine keep_far ?_ GB22.out _) | exact HK.out)⟩, ⟨by repeat (first | (with_reducible first | exact HB.out | apply below_alloc | apply pw_below_drewN | apply below_drew1 | refine below_set ?_ (Nat.le_trans HL.out GB22.out) | refine below_set ?_ (Nat.le_trans HL.out GB22.out) | refine below_set ?_ (IsS81.ge HI0.out)) | exact HB.out)⟩⟩
            ·rw [if_neg c21] at H
             exact absurd H (by simp)
           ·rw [if_neg c20] at H
            exact absurd H (by simp)
          ·rw [if_neg c19] at H
           exact absurd H (by simp)
         ·rw [if_neg c18] at H
          exact absurd H (by simp)
        ·rw [if_neg c15] at H
         have c15b0 : decide (x24_2 < a2) = false := decide_eq_false c15
         clear c15
         by_cases c28 : 0 ≤ a2
         ·rw [if_pos c28] at H
          have c28b0 := eq_true c28
          have c28b1 : decide (0 ≤ a2) = true := zE c28
          clear c28
          by_cases c29 : a2 ≤ (x7_2.length : Int)
          ·rw [if_pos c29] at H
           have c29b0 := eq_true c29
           have c29b1 : decide (a2 ≤ (x7_2.length : Int)) = true := zE c29
           clear c29
           obtain ⟨y447, hy447⟩ : ∃ y_ : List Int, y_ = (x7_2.take (a2 : Int).toNat) := ⟨_, rfl⟩
           replace H : ((slices_Clone_int_int.f y447).bind fun t451 => (some (t451, x1000_2, x1001_2))) = some (r1, r2, r3) := by first | (rw [hy447]; with_reducible exact H) | (have H2_ := (Option.bind_some _ _).symm.trans H; rw [hy447]; with_reducible exact H2_) | (have H2_ := (Option.bind_some _ _).symm.trans H; with_reducible exact H2_) | with_reducible exact H | (rw [hy447]; exact H) | exact H
           have Ny447 := zM hy447
           clear hy447
           replace H := zB H
           obtain ⟨t451, A300, H⟩ := H
           replace H : (some (t451, x1000_2, x1001_2)) = some (r1, r2, r3) := H
           have A30 := zM A300
           clear A300
           simp only [Option.some.injEq, Prod.mk.injEq] at H
           obtain ⟨rfl, rfl, rfl⟩ := H
           have q31 : (a2 : Int) ≤ ((x7_2.length : Int) : Int) := zD (by first | (with_reducible assumption) | assumption)
           obtain ⟨i031, hi031, _, hsz31, _⟩ := info_parts info3
           have hroom31 : x7_2.length ≤ co8 := (Kd.R_reads' HO_7.out).2.1
           have hC31 : Kd.C (Kd.int .i64) _ Ao8 x7_2.length x7_2 := (Kd.R_reads' HO_7.out).2.2
           have hcut31 := cut_to (P := Try.prog) 46 3 .i64 Try.underlying46 hi031 Ao8 x7_2.length co8 a2 (zD (by first | (with_reducible assumption) | assumption)) q31 hroom31
           have hr31 := Kd.C_take (m := (a2 : Int).toNat) hC31 (by omega)
           have hy31 : y447.length = (a2 : Int).toNat := (by rw [Ny447.out, zL]; omega)
           rw [← Ny447.out] at hr31
           rw [← hy31] at hcut31
           have HR450 := zM hr31
           have HC450 := zM (show y447.length ≤ co8 from by omega)
           clear hr31 hC31 hroom31 hi031 hsz31
           have KY31 := zM hy31
           clear hy31
           have KL31 := zM (show (a2 : Int).toNat ≤ x7_2.length from by omega)
           replace q31 := eq_true q31
           go_wp2_with (first | ((with_reducible refine gate_callee (f := 66) rfl ?_); refine goesL_ (some 52) rfl rfl Try.func66 (by kernel_rfl) rfl #[.slice Ao8 y447.length co8] rfl (by (try simp only [zT, zC, zN]); first | done | rfl | (simp only [zR, zL]; rfl)) ?_; (with_reducible refine (slices_Clone_int_int.calls _ _ y447 t451 _ ?side1 ?side2 A30.out).mono ?_); (case side1 => repeat (first | exact (by repeat (first | (with_reducible exact HR450.out) | (with_reducible refine Kd.C_alloc ?_ _) | (with_reducible refine Kd.C_drewN ?_ _) | (with_reducible refine Kd.C_drew ?_) | exact HR450.out)) | (with_reducible refine Kd.C_alloc ?_ _) | (with_reducible refine Kd.C_drewN ?_ _) | (with_reducible refine Kd.C_drew ?_))); (case side2 => exact HC450.out); rintro e w32 ⟨v452, rfl, ho0, hb⟩; refine ⟨_, rfl, ?_⟩; have n0_ := zM (Kd.R_elder' HO_7.out (Kd.R_base ho0) hb); have n1_ := zM (Kd.R_lower (Kd.R_new' ho0 (Kd.R_lt HO_7.out)) (keep_size (w := w) (g := g) (row := none) (HK.out))); have n2_ := zM (IsS81.below (HI0.out) hb); have n3_ := zM (Kd.C_below (by repeat (first | (with_reducible exact HR450.out) | (with_reducible refine Kd.C_alloc ?_ _) | (with_reducible refine Kd.C_drewN ?_ _) | (with_reducible refine Kd.C_drew ?_) | exact HR450.out)) hb); have n4_ := zM (KeepBut.trans (HK.out) (KeepBut.of_below hb g none) (.inl rfl)); have n5_ := zM (below_step (by repeat (first | (with_reducible first | exact HB.out | apply below_alloc | apply pw_below_drewN | apply below_drew1 | refine below_set ?_ (IsS81.ge HI0.out)) | exact HB.out)) hb); clear HO_7; clear HI0; clear HR450; clear HK; clear HB; have HO_7 := n0_; have HO453 := n1_; have HI0 := n2_; have HR450 := n3_; have HK := n4_; have HB := n5_; clear n0_ n1_ n2_ n3_ n4_ n5_; (try clear hb); (try clear hb2); (try clear hk); (try clear hi); (try clear ho0)))
           go_ret
           exact ⟨_, by first | rfl | (simp [errW_none, errW_some] <;> rfl) | (simp [*, errW_none, errW_some] <;> rfl), by (with_reducible repeat (first | apply Kd.R_alloc | apply Kd.R_drewN | apply Kd.R_drew)); exact Kd.R_mono HO453.out (fun _ hk => trivial), HI0.out, by repeat (first | (with_reducible first | exact HB.out | apply below_alloc | apply pw_below_drewN | apply below_drew1 | refine below_set ?_ (IsS81.ge HI0.out)) | exact HB.out), HK.out⟩
          ·rw [if_neg c29] at H
           exact absurd H (by simp)
         ·rw [if_neg c28] at H
          exact absurd H (by simp)
  ·rw [if_neg c5] at H
   exact absurd H (by simp)
 ·rw [if_neg c4] at H
  exact absurd H (by simp)

end Go.Proofs.Ytkhiohlfdkkhdaa.P
