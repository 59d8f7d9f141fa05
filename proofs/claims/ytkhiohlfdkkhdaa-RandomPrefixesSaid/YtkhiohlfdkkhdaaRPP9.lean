-- Written by the session's own program wip/tools/mp.py (over the kit's print) out of the translation. Not trusted: Lean checks it.
import Derived.Test.YtkhiohlfdkkhdaaRPP0
import Derived.Test.YtkhiohlfdkkhdaaRPP2
import Derived.Test.YtkhiohlfdkkhdaaRPP7
import Derived.Test.YtkhiohlfdkkhdaaRPP8
namespace Go.Proofs.Ytkhiohlfdkkhdaa.P
open Go.RowKit Go.Proofs.YtkhiohlfdkkhdaaW.PrintWords Go.Proofs.YtkhiohlfdkkhdaaW.PrintLast Go.Proofs.YtkhiohlfdkkhdaaW.PrintMore
attribute [local go_sem] max2_int min2_int max_two min_two max_three min_three max_four min_four   -- for this text's walks alone
set_option linter.unusedVariables false
set_option linter.unusedSimpArgs false

/-! ### random_Sample: function 28 -/
mutual
def random_Sample.j0 : Nat → Int → Int → Bool → Int → Int → Option (List Int × Int × Int × Int × Int)
 | 0, _, _, _, _, _ => none
 | k + 1, x1, x2, x23, x461000, x461001 => if x23 = true then ((random_at.f 4 (-2)).bind fun bt462 => (some (([] : List Int), 0, 0, bt462.1, bt462.2))) else (if x2 < 0 then (random_Sample.j1 k x1 x2 true x461000 x461001) else (random_Sample.j1 k x1 x2 (decide (x2 > x1)) x461000 x461001))
def random_Sample.j1 : Nat → Int → Int → Bool → Int → Int → Option (List Int × Int × Int × Int × Int)
 | 0, _, _, _, _, _ => none
 | k + 1, x1, x2, x32, x461000, x461001 => if x32 = true then ((random_at.f 4 (-3)).bind fun bt464 => (some (([] : List Int), 0, 0, bt464.1, bt464.2))) else ((random_source_sample.f k x461000 x461001 x1 x2).bind fun bt466 => (some (bt466.1, bt466.2.1, bt466.2.2, 0, 0)))
end
def random_Sample.f (k : Nat) (a0_0 : Int) (a0_1 : Int) (a1 : Int) (a2 : Int) : Option (List Int × Int × Int × Int × Int) := if a0_1 % 2 = 0 then ((random_open_no.f a0_0 a0_1).bind fun _ => (some (([] : List Int), 0, 0, 6, (-1)))) else ((random_open_ok.f a0_0 a0_1).bind fun bt458 => (if a1 < 0 then (random_Sample.j0 k a1 a2 true bt458.1 bt458.2) else (random_Sample.j0 k a1 a2 (decide (a1 > 1000)) bt458.1 bt458.2)))
theorem random_Sample.mono_l : ∀ k, (∀ y0 y1 y2 y3 y4, LeO (random_Sample.j0 k y0 y1 y2 y3 y4) (random_Sample.j0 (k + 1) y0 y1 y2 y3 y4)) ∧ (∀ y0 y1 y2 y3 y4, LeO (random_Sample.j1 k y0 y1 y2 y3 y4) (random_Sample.j1 (k + 1) y0 y1 y2 y3 y4))
 | 0 => ⟨fun _ _ _ _ _ r h => by simp [random_Sample.j0] at h, fun _ _ _ _ _ r h => by simp [random_Sample.j1] at h⟩
 | k + 1 => by
  obtain ⟨ih0, ih1⟩ := random_Sample.mono_l k
  refine ⟨?_, ?_⟩
  ·intro y0 y1 y2 y3 y4
   unfold random_Sample.j0
   repeat' first
   | (with_reducible exact ih0 _ _ _ _ _)
   | (with_reducible exact ih1 _ _ _ _ _)
   | (with_reducible exact random_source_sample.mono _ _ _ _ _)
   | (with_reducible exact LeO.refl _)
   | (with_reducible exact LeO.none _)
   | (with_reducible refine LeO.ite ?_ ?_)
   | (with_reducible refine LeO.bind ?_ (fun _ => ?_))
   | exact ih0 _ _ _ _ _
   | exact ih1 _ _ _ _ _
   | exact random_source_sample.mono _ _ _ _ _
   | exact LeO.none _
   | refine LeO.ite ?_ ?_
   | refine LeO.bind ?_ (fun _ => ?_)
  ·intro y0 y1 y2 y3 y4
   unfold random_Sample.j1
   repeat' first
   | (with_reducible exact ih0 _ _ _ _ _)
   | (with_reducible exact ih1 _ _ _ _ _)
   | (with_reducible exact random_source_sample.mono _ _ _ _ _)
   | (with_reducible exact LeO.refl _)
   | (with_reducible exact LeO.none _)
   | (with_reducible refine LeO.ite ?_ ?_)
   | (with_reducible refine LeO.bind ?_ (fun _ => ?_))
   | exact ih0 _ _ _ _ _
   | exact ih1 _ _ _ _ _
   | exact random_source_sample.mono _ _ _ _ _
   | exact LeO.none _
   | refine LeO.ite ?_ ?_
   | refine LeO.bind ?_ (fun _ => ?_)
theorem random_Sample.mono : ∀ a0 a1 a2 a3 k, LeO (random_Sample.f k a0 a1 a2 a3) (random_Sample.f (k + 1) a0 a1 a2 a3) := by
 intro a0 a1 a2 a3 k
 obtain ⟨ih0, ih1⟩ := random_Sample.mono_l k
 unfold random_Sample.f
 repeat' first
   | (with_reducible exact ih0 _ _ _ _ _)
   | (with_reducible exact ih1 _ _ _ _ _)
   | (with_reducible exact random_source_sample.mono _ _ _ _ _)
   | (with_reducible exact LeO.refl _)
   | (with_reducible exact LeO.none _)
   | (with_reducible refine LeO.ite ?_ ?_)
   | (with_reducible refine LeO.bind ?_ (fun _ => ?_))
   | exact ih0 _ _ _ _ _
   | exact ih1 _ _ _ _ _
   | exact random_source_sample.mono _ _ _ _ _
   | exact LeO.none _
   | refine LeO.ite ?_ ?_
   | refine LeO.bind ?_ (fun _ => ?_)
def random_Sample.T9 : Bool × List (List Nat × List Nat) := (true, [([], []), ([], []), ([1], [1]), ([2], [2]), ([3], [3]), ([], []), ([0, 0], [0]), ([4, 6, 0, 1, 2, 3, 4, 6], [4]), ([5, 7, 0, 1, 2, 3, 4, 5, 6, 7], [5])])
def random_Sample.B9 : List Nat := [0, 0, 2, 6, 14, 0, 1, 95, 255]
theorem random_Sample.tab9 : rtab .any (opsOf Try.f28 9) = random_Sample.T9 := by kernel_rfl
theorem random_Sample.bits9 : waitsOk random_Sample.T9.2 random_Sample.B9 = true := by kernel_rfl
set_option maxHeartbeats 60000000 in
set_option maxRecDepth 100000 in
theorem random_Sample.calls (k : Nat) (a0_0 : Int) (a0_1 : Int) (a1 : Int) (a2 : Int) (r1 : List Int) (r2 : Int) (r3 : Int) (r4 : Int) (r5 : Int) (w : World) (h : random_Sample.f k a0_0 a0_1 a1 a2 = some (r1, r2, r3, r4, r5)) :
  Calls Try.prog 28 #[.agg #[.int .u64 a0_0, .int .u64 a0_1], .int .i64 a1, .int .i64 a2] w fun e w' => ∃ v0_ : Value, e = .returned (.tuple #[v0_, .agg #[.int .u64 r2, .int .u64 r3], .agg #[.int .i64 r4, .int .i64 r5]]) ∧ Kd.R (Kd.int .i64) 3 w' w.heap.size (fun _ => True) v0_ r1 ∧ Below w.heap.size w w' := by
 have hu27 := Try.underlying27
 have hu29 := Try.underlying29
 have HB := zM (Below.refl w.heap.size w)
 have H : (if a0_1 % 2 = 0 then ((random_open_no.f a0_0 a0_1).bind fun _ => (some (([] : List Int), 0, 0, 6, (-1)))) else ((random_open_ok.f a0_0 a0_1).bind fun bt458 => (if a1 < 0 then (random_Sample.j0 k a1 a2 true bt458.1 bt458.2) else (random_Sample.j0 k a1 a2 (decide (a1 > 1000)) bt458.1 bt458.2)))) = some (r1, r2, r3, r4, r5) := h
 clear h
 by_cases c4 : a0_1 % 2 = 0
 ·rw [if_pos c4] at H
  have c4b0 : (a0_1 % 2 == 0) = true := beq_iff_eq.mpr c4
  have c4b1 : (a0_1 % 2 != 0) = false := bne_eq_false_iff_eq.mpr c4
  clear c4
  replace H := zB H
  obtain ⟨_, A50, H⟩ := H
  replace H : (some (([] : List Int), 0, 0, 6, (-1))) = some (r1, r2, r3, r4, r5) := H
  have A5 := zM A50
  clear A50
  simp only [Option.some.injEq, Prod.mk.injEq] at H
  obtain ⟨rfl, rfl, rfl, rfl, rfl⟩ := H
  go_enter Try.func28, Try.ntmps28
  try go_wp2_with (first | ((with_reducible refine gate_dst (N := 3) rfl ?_); refine box_event ?hg (N := 3) ?hd (cs := #[.int .u64 a0_0, .int .u64 a0_1]) (t := 27) ?hr ?_; (case hd => rfl); (case hg => rfl); (case hr => first | (go_simp; done) | (go_simp; rfl)); intro gb454 hg w6 hbox hb; have BK454 := zM (hbox); have GW454 := zM ((by rw [hg]; exact (below_size (HB.out)) : w.heap.size ≤ gb454)); have GE454 := GW454; replace HB := zM (below_step (HB.out) hb); clear hb hbox hg) | ((with_reducible refine gate_dst (N := 7) rfl ?_); refine box_event ?hg (N := 7) ?hd (cs := #[.int .u64 0, .int .u64 0]) (t := 27) ?hr ?_; (case hd => rfl); (case hg => rfl); (case hr => first | (go_simp; done) | (go_simp; rfl)); intro gb455 hg w7 hbox hb; have BK455 := zM (hbox); have GW455 := zM ((by rw [hg]; exact (below_size (by repeat (first | (with_reducible first | exact HB.out | apply pzA | apply pzD | apply pz1 | apply pzs | assumption) | exact HB.out))) : w.heap.size ≤ gb455)); have GE455 := GW455; have NB454_455 := pzf BK454 hg; have NB455_454 := pzg BK454 hg; replace BK454 := pzb BK454 hb; replace HB := zM (below_step (by repeat (first | (with_reducible first | exact HB.out | apply pzA | apply pzD | apply pz1 | apply pzs | assumption) | exact HB.out)) hb); clear hb hbox hg) | ((with_reducible refine gate_dst (N := 8) rfl ?_); refine box_event ?hg (N := 8) ?hd (cs := #[.int .i64 0, .int .i64 0]) (t := 29) ?hr ?_; (case hd => rfl); (case hg => rfl); (case hr => first | (go_simp; done) | (go_simp; rfl)); intro gb456 hg w8 hbox hb; have BK456 := zM (hbox); have GW456 := zM ((by rw [hg]; exact (below_size (by repeat (first | (with_reducible first | exact HB.out | apply pzA | apply pzD | apply pz1 | apply pzs | assumption) | exact HB.out))) : w.heap.size ≤ gb456)); have GE456 := GW456; have NB454_456 := pzf BK454 hg; have NB456_454 := pzg BK454 hg; have NB455_456 := pzf BK455 hg; have NB456_455 := pzg BK455 hg; replace BK454 := pzb BK454 hb; replace BK455 := pzb BK455 hb; replace HB := zM (below_step (by repeat (first | (with_reducible first | exact HB.out | apply pzA | apply pzD | apply pz1 | apply pzs | assumption) | exact HB.out)) hb); clear hb hbox hg; have hnb9 := NB454_455.out; have hnc9 := NB455_454.out; have hnb10 := NB454_456.out; have hnc10 := NB456_454.out; have hcz11_0 := pzc (v := .int .u64 a0_0) BK454 0 rfl; have hcz11_1 := pzc (v := .int .u64 a0_1) BK454 1 rfl; have hfz11_0 := zF BK454.out 0; have hfz11_1 := zF BK454.out 1) | ((with_reducible refine gate_callee (f := 39) rfl ?_); refine goesL_ (some 14) rfl rfl Try.func39 (by kernel_rfl) rfl #[.agg #[.int .u64 a0_0, .int .u64 a0_1]] rfl (by (try simp only [zT, zC, zN]); first | done | rfl | (simp only [zR, zL]; rfl)) ?_; (with_reducible refine (random_open_no.calls a0_0 a0_1  _ A5.out).mono ?_); rintro e w12 ⟨rfl, hb⟩; refine ⟨_, rfl, ?_⟩; replace BK454 := pzb BK454 hb; replace BK455 := pzb BK455 hb; replace BK456 := pzb BK456 hb; replace HB := zM (below_step (by repeat (first | (with_reducible first | exact HB.out | apply pzA | apply pzD | apply pz1 | apply pzs | assumption) | exact HB.out)) hb); (try clear hb); (try clear hb2); (try clear hk); (try clear hi)) | ((with_reducible refine gate_dst (N := 10) rfl ?_); refine box_event ?hg (N := 10) ?hd (cs := #[.int .i64 0, .int .i64 0]) (t := 29) ?hr ?_; (case hd => rfl); (case hg => rfl); (case hr => first | (go_simp; done) | (go_simp; rfl)); intro gb457 hg w13 hbox hb; have BK457 := zM (hbox); have GW457 := zM ((by rw [hg]; exact (below_size (by repeat (first | (with_reducible first | exact HB.out | apply pzA | apply pzD | apply pz1 | apply pzs | assumption) | exact HB.out))) : w.heap.size ≤ gb457)); have GE457 := GW457; have NB454_457 := pzf BK454 hg; have NB457_454 := pzg BK454 hg; have NB455_457 := pzf BK455 hg; have NB457_455 := pzg BK455 hg; have NB456_457 := pzf BK456 hg; have NB457_456 := pzg BK456 hg; replace BK454 := pzb BK454 hb; replace BK455 := pzb BK455 hb; replace BK456 := pzb BK456 hb; replace HB := zM (below_step (by repeat (first | (with_reducible first | exact HB.out | apply pzA | apply pzD | apply pz1 | apply pzs | assumption) | exact HB.out)) hb); clear hb hbox hg; have hnb14 := NB457_454.out; have hnc14 := NB454_457.out; have hnb15 := NB457_455.out; have hnc15 := NB455_457.out; have hnb16 := NB457_456.out; have hnc16 := NB456_457.out; have hcz17_0 := pzc (v := .int .i64 0) BK457 0 rfl; have hcz17_1 := pzc (v := .int .i64 0) BK457 1 rfl; have hfz17_0 := zF BK457.out 0; have hfz17_1 := zF BK457.out 1))
  have n0_ : Aside0 (((w13.setCell ⟨gb457, 0, none⟩ (.int .i64 6)).setCell ⟨gb457, 1, none⟩ (.int .i64 (-1))).heap[gb454]? = some (.cells #[.int .u64 a0_0, .int .u64 a0_1] 27 (0, 0))) := ⟨by (with_reducible repeat (first | apply pzN | apply pzd | apply pza)); refine blk_far ?_ NB454_457.out _; (with_reducible repeat (first | apply pzN | apply pzd | apply pza)); refine blk_far ?_ NB454_457.out _; (with_reducible repeat (first | apply pzN | apply pzd | apply pza)); exact BK454.out⟩
  have n1_ : Aside0 (((w13.setCell ⟨gb457, 0, none⟩ (.int .i64 6)).setCell ⟨gb457, 1, none⟩ (.int .i64 (-1))).heap[gb455]? = some (.cells #[.int .u64 0, .int .u64 0] 27 (0, 0))) := ⟨by (with_reducible repeat (first | apply pzN | apply pzd | apply pza)); refine blk_far ?_ NB455_457.out _; (with_reducible repeat (first | apply pzN | apply pzd | apply pza)); refine blk_far ?_ NB455_457.out _; (with_reducible repeat (first | apply pzN | apply pzd | apply pza)); exact BK455.out⟩
  have n2_ : Aside0 (((w13.setCell ⟨gb457, 0, none⟩ (.int .i64 6)).setCell ⟨gb457, 1, none⟩ (.int .i64 (-1))).heap[gb456]? = some (.cells #[.int .i64 0, .int .i64 0] 29 (0, 0))) := ⟨by (with_reducible repeat (first | apply pzN | apply pzd | apply pza)); refine blk_far ?_ NB456_457.out _; (with_reducible repeat (first | apply pzN | apply pzd | apply pza)); refine blk_far ?_ NB456_457.out _; (with_reducible repeat (first | apply pzN | apply pzd | apply pza)); exact BK456.out⟩
  have n3_ : Aside0 (((w13.setCell ⟨gb457, 0, none⟩ (.int .i64 6)).setCell ⟨gb457, 1, none⟩ (.int .i64 (-1))).heap[gb457]? = some (.cells #[.int .i64 6, .int .i64 (-1)] 29 (0, 0))) := ⟨by (with_reducible repeat (first | apply pzN | apply pzd | apply pza)); refine blk_put (cs := #[.int .i64 6, .int .i64 0]) ?_ 1 _ rfl; (with_reducible repeat (first | apply pzN | apply pzd | apply pza)); refine blk_put (cs := #[.int .i64 0, .int .i64 0]) ?_ 0 _ rfl; (with_reducible repeat (first | apply pzN | apply pzd | apply pza)); exact BK457.out⟩
  have n4_ : Aside0 (Below w.heap.size w ((w13.setCell ⟨gb457, 0, none⟩ (.int .i64 6)).setCell ⟨gb457, 1, none⟩ (.int .i64 (-1)))) := ⟨by repeat (first | (with_reducible first | exact HB.out | apply pzA | apply pzD | apply pz1 | apply pzs | assumption) | exact HB.out)⟩
  (try clear BK454)
  (try clear BK455)
  (try clear BK456)
  (try clear BK457)
  (try clear HB)
  generalize ((w13.setCell ⟨gb457, 0, none⟩ (.int .i64 6)).setCell ⟨gb457, 1, none⟩ (.int .i64 (-1))) = w18 at n0_ n1_ n2_ n3_ n4_ ⊢
  have BK454 := n0_
  have BK455 := n1_
  have BK456 := n2_
  have BK457 := n3_
  have HB := n4_
  clear n0_ n1_ n2_ n3_ n4_
  replace BK455 := zM (blk_drew BK455.out)
  replace BK456 := zM (blk_drew BK456.out)
  replace BK457 := zM (blk_drew BK457.out)
  replace HB := zM (below_drew1 HB.out)
  refine start_ (n := 5) (S := fun w' => w'.cell? ⟨gb457, 0, none⟩ = some (.int .i64 6) ∧ w'.cell? ⟨gb457, 1, none⟩ = some (.int .i64 (-1))) (ds := []) #[false, false, false, false, false] (by kernel_rfl) rfl rfl ⟨(blk_cell BK457.out 0).trans rfl, (blk_cell BK457.out 1).trans rfl⟩ (fun hHeld => ?_)
  generalize w18.drew = w19 at BK455 BK456 HB hHeld ⊢
  refine pure_ (i := 0) (N := some 21) (v := ?_) (a' := ?_) #[true, false, false, false, false] rfl rfl (by kernel_rfl) (fun _ _ _ h => h) (Or.inl ⟨by rfl, ?_⟩) ?_ ?_
  rotate_left
  ·intro w'
   go_simp
   with_reducible rfl
  rotate_left
  ·simp only [Act.put, zS, z0, z1, i64_w, i32_w]
   rfl
  refine pure_ (i := 2) (N := some 6) (v := ?_) (a' := ?_) #[true, false, true, false, false] rfl rfl (by kernel_rfl) (fun _ _ _ h => h) (Or.inl ⟨by rfl, ?_⟩) ?_ ?_
  rotate_left
  ·intro w'
   go_simp
   with_reducible rfl
  rotate_left
  ·simp only [Act.put, zS, z0, z1, i64_w, i32_w]
   rfl
  refine take_ (i := 1) (N := some 22) (v := ?_) (a' := ?_) #[true, true, true, false, false] rfl rfl (by kernel_rfl) (fun _ _ _ h => h) (Or.inl ⟨by rfl, ?_⟩) hHeld ?_ ?_
  rotate_left
  ·rintro w' ⟨s0, s1⟩
   go_simp
   with_reducible rfl
  rotate_left
  ·simp only [Act.put, zS, z0, z1, i64_w, i32_w]
   rfl
  refine one_ (i := 3) (N := none) #[true, true, true, true, false] rfl rfl (by kernel_rfl) (by decide) (fun K hK => ?_)
  have hs20 : w19.cell? ⟨gb455, 0, none⟩ = some (.int .u64 0) := (blk_cell BK455.out 0).trans rfl
  have hfs20 := zF BK455.out 0
  have hns20_0 := NB454_455.out
  have hns20_2 := NB456_455.out
  have hns20_3 := NB457_455.out
  have hms20_0 := NB455_454.out
  have hms20_2 := NB455_456.out
  have hms20_3 := NB455_457.out
  have hs21 : w19.cell? ⟨gb455, 1, none⟩ = some (.int .u64 0) := (blk_cell BK455.out 1).trans rfl
  have hfs21 := zF BK455.out 1
  have hns21_0 := NB454_455.out
  have hns21_2 := NB456_455.out
  have hns21_3 := NB457_455.out
  have hms21_0 := NB455_454.out
  have hms21_2 := NB455_456.out
  have hms21_3 := NB455_457.out
  refine skip_ (w1 := ?_) (by rfl) rfl ?_ ?_
  rotate_left
  ·go_simp
   rfl
  refine hK.out _ _ ⟨((cell_far (p := ⟨gb455, _, none⟩) NB457_455.out _).trans (((cell_far (p := ⟨gb455, _, none⟩) NB457_455.out _).trans (hHeld.1)))), ((cell_far (p := ⟨gb455, _, none⟩) NB457_455.out _).trans (((cell_far (p := ⟨gb455, _, none⟩) NB457_455.out _).trans (hHeld.2))))⟩ (fun hHeld => ?_)
  clear hK K
  refine one_ (i := 4) (N := none) #[true, true, true, true, true] rfl rfl (by kernel_rfl) (by decide) (fun K hK => ?_)
  have hs22 : w19.cell? ⟨gb456, 0, none⟩ = some (.int .i64 0) := (blk_cell BK456.out 0).trans rfl
  have hfs22 := zF BK456.out 0
  have hns22_0 := NB454_456.out
  have hns22_1 := NB455_456.out
  have hns22_3 := NB457_456.out
  have hms22_0 := NB456_454.out
  have hms22_1 := NB456_455.out
  have hms22_3 := NB456_457.out
  have hs23 : w19.cell? ⟨gb456, 1, none⟩ = some (.int .i64 0) := (blk_cell BK456.out 1).trans rfl
  have hfs23 := zF BK456.out 1
  have hns23_0 := NB454_456.out
  have hns23_1 := NB455_456.out
  have hns23_3 := NB457_456.out
  have hms23_0 := NB456_454.out
  have hms23_1 := NB456_455.out
  have hms23_3 := NB456_457.out
  refine skip_ (w1 := ?_) (by rfl) rfl ?_ ?_
  rotate_left
  ·go_simp
   rfl
  refine hK.out _ _ ⟨((cell_far (p := ⟨gb456, _, none⟩) NB457_456.out _).trans (((cell_far (p := ⟨gb456, _, none⟩) NB457_456.out _).trans (hHeld.1)))), ((cell_far (p := ⟨gb456, _, none⟩) NB457_456.out _).trans (((cell_far (p := ⟨gb456, _, none⟩) NB457_456.out _).trans (hHeld.2))))⟩ (fun hHeld => ?_)
  clear hK K
  refine done_ (by kernel_rfl) ?_
  try go_wp2
  refine bodyPost_ret (results_list (rs := [.tmp 6, .cell 7 27, .cell 8 29]) rfl (by simp) (.tmp (.cell gb455 27 #[.int .u64 0, .int .u64 0] (0, 0) _ rfl (by (with_reducible repeat (first | apply pzN | apply pzd | apply pza)); refine blk_far ?_ NB455_456.out _; (with_reducible repeat (first | apply pzN | apply pzd | apply pza)); refine blk_far ?_ NB455_456.out _; (with_reducible repeat (first | apply pzN | apply pzd | apply pza)); refine blk_put (cs := #[.int .u64 0, .int .u64 0]) ?_ 1 _ rfl; (with_reducible repeat (first | apply pzN | apply pzd | apply pza)); refine blk_put (cs := #[.int .u64 0, .int .u64 0]) ?_ 0 _ rfl; (with_reducible repeat (first | apply pzN | apply pzd | apply pza)); exact BK455.out) Try.underlying27 rfl (by kernel_rfl) (.cell gb456 29 #[.int .i64 6, .int .i64 (-1)] (0, 0) _ rfl (by (with_reducible repeat (first | apply pzN | apply pzd | apply pza)); refine blk_put (cs := #[.int .i64 6, .int .i64 0]) ?_ 1 _ rfl; (with_reducible repeat (first | apply pzN | apply pzd | apply pza)); refine blk_put (cs := #[.int .i64 0, .int .i64 0]) ?_ 0 _ rfl; (with_reducible repeat (first | apply pzN | apply pzd | apply pza)); refine blk_far ?_ NB456_455.out _; (with_reducible repeat (first | apply pzN | apply pzd | apply pza)); refine blk_far ?_ NB456_455.out _; (with_reducible repeat (first | apply pzN | apply pzd | apply pza)); exact BK456.out) Try.underlying29 rfl (by kernel_rfl) .nil)))) rfl ?_
  exact ⟨_, by first | rfl | (simp [errW_none, errW_some] <;> rfl) | (simp [*, errW_none, errW_some] <;> rfl), by first | exact Kd.R_nil _ _ _ _ _ | exact Kd.N_nil _ _ _ _ _ | exact Kd.V_nil _ _ _ _ _ | exact Kd.Q_nil _ _ _ _ _ | exact Kd.S_nil _ _ _ _ _, by repeat (first | (with_reducible first | exact HB.out | apply pzA | apply pzD | apply pz1 | apply pzs | assumption) | exact HB.out)⟩
 ·rw [if_neg c4] at H
  have c4b0 : (a0_1 % 2 == 0) = false := beq_eq_false_iff_ne.mpr c4
  have c4b1 : (a0_1 % 2 != 0) = true := bne_iff_ne.mpr c4
  replace H := zB H
  obtain ⟨⟨t458, t459⟩, A240, H⟩ := H
  replace H : (if a1 < 0 then (random_Sample.j0 k a1 a2 true t458 t459) else (random_Sample.j0 k a1 a2 (decide (a1 > 1000)) t458 t459)) = some (r1, r2, r3, r4, r5) := H
  have A24 := zM A240
  clear A240
  have HC25 := zM H
  clear H
  go_enter Try.func28, Try.ntmps28
  go_upto_region 4 with (first | ((with_reducible refine gate_dst (N := 3) rfl ?_); refine box_event ?hg (N := 3) ?hd (cs := #[.int .u64 a0_0, .int .u64 a0_1]) (t := 27) ?hr ?_; (case hd => rfl); (case hg => rfl); (case hr => first | (go_simp; done) | (go_simp; rfl)); intro gb454 hg w26 hbox hb; have n0_ := zM (below_step (HB.out) hb); have n1_ := zM (hbox); have n2_ := zM ((by rw [hg]; exact (below_size (HB.out)) : w.heap.size ≤ gb454)); have n3_ := zM ((by rw [hg]; exact (below_size (HB.out)) : w.heap.size ≤ gb454)); clear HB; have HB := n0_; have BK454 := n1_; have GW454 := n2_; have GE454 := n3_; clear n0_ n1_ n2_ n3_; clear hb hbox hg) | ((with_reducible refine gate_dst (N := 7) rfl ?_); refine box_event ?hg (N := 7) ?hd (cs := #[.int .u64 0, .int .u64 0]) (t := 27) ?hr ?_; (case hd => rfl); (case hg => rfl); (case hr => first | (go_simp; done) | (go_simp; rfl)); intro gb455 hg w27 hbox hb; have BK455 := zM (hbox); have GW455 := zM ((by rw [hg]; exact (below_size (by repeat (first | (with_reducible first | exact HB.out | apply pzA | apply pzD | apply pz1 | apply pzs | assumption) | exact HB.out))) : w.heap.size ≤ gb455)); have GE455 := GW455; have NB454_455 := pzf BK454 hg; have NB455_454 := pzg BK454 hg; replace BK454 := pzb BK454 hb; replace HB := zM (below_step (by repeat (first | (with_reducible first | exact HB.out | apply pzA | apply pzD | apply pz1 | apply pzs | assumption) | exact HB.out)) hb); clear hb hbox hg) | ((with_reducible refine gate_dst (N := 8) rfl ?_); refine box_event ?hg (N := 8) ?hd (cs := #[.int .i64 0, .int .i64 0]) (t := 29) ?hr ?_; (case hd => rfl); (case hg => rfl); (case hr => first | (go_simp; done) | (go_simp; rfl)); intro gb456 hg w28 hbox hb; have BK456 := zM (hbox); have GW456 := zM ((by rw [hg]; exact (below_size (by repeat (first | (with_reducible first | exact HB.out | apply pzA | apply pzD | apply pz1 | apply pzs | assumption) | exact HB.out))) : w.heap.size ≤ gb456)); have GE456 := GW456; have NB454_456 := pzf BK454 hg; have NB456_454 := pzg BK454 hg; have NB455_456 := pzf BK455 hg; have NB456_455 := pzg BK455 hg; replace BK454 := pzb BK454 hb; replace BK455 := pzb BK455 hb; replace HB := zM (below_step (by repeat (first | (with_reducible first | exact HB.out | apply pzA | apply pzD | apply pz1 | apply pzs | assumption) | exact HB.out)) hb); clear hb hbox hg; have hnb29 := NB454_455.out; have hnc29 := NB455_454.out; have hnb30 := NB454_456.out; have hnc30 := NB456_454.out; have hcz31_0 := pzc (v := .int .u64 a0_0) BK454 0 rfl; have hcz31_1 := pzc (v := .int .u64 a0_1) BK454 1 rfl; have hfz31_0 := zF BK454.out 0; have hfz31_1 := zF BK454.out 1) | ((with_reducible refine gate_callee (f := 39) rfl ?_); refine goesL_ (some 14) rfl rfl Try.func39 (by kernel_rfl) rfl #[.agg #[.int .u64 a0_0, .int .u64 a0_1]] rfl (by (try simp only [zT, zC, zN]); first | done | rfl | (simp only [zR, zL]; rfl)) ?_; (with_reducible refine (random_open_ok.calls a0_0 a0_1 t458 t459 w _ ?side1 A24.out).mono ?_); (case side1 => repeat (first | (with_reducible first | exact HB.out | apply pzA | apply pzD | apply pz1 | apply pzs | assumption) | exact HB.out)); rintro e w32 ⟨g460, rfl, hi, hb, hb2⟩; refine ⟨_, rfl, ?_⟩; have HI460 := zM (hi); have NB460_454 := zM (IsS81.ne_blk hi (blk_below (g := gb454) (o := .cells #[.int .u64 a0_0, .int .u64 a0_1] 27 (0, 0)) BK454.out hb2) (by decide)); have NB454_460 := zM (Ne.symm (IsS81.ne_blk hi (blk_below (g := gb454) (o := .cells #[.int .u64 a0_0, .int .u64 a0_1] 27 (0, 0)) BK454.out hb2) (by decide))); have NB460_455 := zM (IsS81.ne_blk hi (blk_below (g := gb455) (o := .cells #[.int .u64 0, .int .u64 0] 27 (0, 0)) BK455.out hb2) (by decide)); have NB455_460 := zM (Ne.symm (IsS81.ne_blk hi (blk_below (g := gb455) (o := .cells #[.int .u64 0, .int .u64 0] 27 (0, 0)) BK455.out hb2) (by decide))); have NB460_456 := zM (IsS81.ne_blk hi (blk_below (g := gb456) (o := .cells #[.int .i64 0, .int .i64 0] 29 (0, 0)) BK456.out hb2) (by decide)); have NB456_460 := zM (Ne.symm (IsS81.ne_blk hi (blk_below (g := gb456) (o := .cells #[.int .i64 0, .int .i64 0] 29 (0, 0)) BK456.out hb2) (by decide))); replace BK455 := zM (blk_below (g := gb455) (o := .cells #[.int .u64 0, .int .u64 0] 27 (0, 0)) BK455.out hb2); replace BK456 := zM (blk_below (g := gb456) (o := .cells #[.int .i64 0, .int .i64 0] 29 (0, 0)) BK456.out hb2); replace HB := zM (hb); (try clear hb); (try clear hb2); (try clear hk); (try clear hi)) | ((with_reducible refine gate_dst (N := 10) rfl ?_); refine box_event ?hg (N := 10) ?hd (cs := #[.int .i64 0, .int .i64 0]) (t := 29) ?hr ?_; (case hd => rfl); (case hg => rfl); (case hr => first | (go_simp; done) | (go_simp; rfl)); intro gb461 hg w33 hbox hb; have BK461 := zM (hbox); have GW461 := zM ((by rw [hg]; exact (below_size (by repeat (first | (with_reducible first | exact HB.out | apply below_alloc | apply pw_below_drewN | apply below_drew1 | refine below_set ?_ (IsS81.ge HI460.out) | refine below_setA ?_ (by assumption)) | exact HB.out))) : w.heap.size ≤ gb461)); have GE461 := GW461; have NB455_461 := pzf BK455 hg; have NB461_455 := pzg BK455 hg; have NB456_461 := pzf BK456 hg; have NB461_456 := pzg BK456 hg; have NB460_461 := zM ((by rw [hg]; exact Nat.ne_of_lt (IsS81.lt (show IsS81 w _ g460 t458 t459 from by repeat (first | (with_reducible first | exact HI460.out | apply IsS81.alloc | apply IsS81.drewN | apply IsS81.drew | apply IsS81.set_0 | apply IsS81.set_1 | refine IsS81.far ?_ NB460_454.out _ | refine IsS81.far ?_ NB460_455.out _ | refine IsS81.far ?_ NB460_456.out _) | exact HI460.out))) : g460 ≠ gb461)); replace BK455 := pzb BK455 hb; replace BK456 := pzb BK456 hb; replace HB := zM (below_step (by repeat (first | (with_reducible first | exact HB.out | apply below_alloc | apply pw_below_drewN | apply below_drew1 | refine below_set ?_ (IsS81.ge HI460.out) | refine below_setA ?_ (by assumption)) | exact HB.out)) hb); replace HI460 := zM (IsS81.below (by repeat (first | (with_reducible first | exact HI460.out | apply IsS81.alloc | apply IsS81.drewN | apply IsS81.drew | apply IsS81.set_0 | apply IsS81.set_1 | refine IsS81.far ?_ NB460_454.out _ | refine IsS81.far ?_ NB460_455.out _ | refine IsS81.far ?_ NB460_456.out _) | exact HI460.out)) hb); clear hb hbox hg; have hnb35 := NB461_455.out; have hnc35 := NB455_461.out; have hnb36 := NB461_456.out; have hnc36 := NB456_461.out; have hcz38_0 := pzc (v := .int .i64 0) BK461 0 rfl; have hcz38_1 := pzc (v := .int .i64 0) BK461 1 rfl; have hfz38_0 := zF BK461.out 0; have hfz38_1 := zF BK461.out 1))
  (try simp only [Act.put, zS, z0, z1])
  go_cut [23] (fun v23 wc => ∃ (kq : Nat) (x23_24 : Bool), v23 = .bool x23_24 ∧ Aside0 (random_Sample.j0 kq a1 a2 x23_24 t458 t459 = some (r1, r2, r3, r4, r5)) ∧ Aside0 (kq ≤ k) ∧ Aside0 (wc.heap[gb455]? = some (.cells #[.int .u64 0, .int .u64 0] 27 (0, 0))) ∧ Aside0 (wc.heap[gb456]? = some (.cells #[.int .i64 0, .int .i64 0] 29 (0, 0))) ∧ Aside0 (IsS81 w wc g460 t458 t459) ∧ Aside0 (Below w.heap.size w wc))
  case first =>
   have H := HC25.out
   clear HC25
   by_cases c39 : a1 < 0
   ·rw [if_pos c39] at H
    have c39b0 : decide (a1 < 0) = true := zE c39
    clear c39
    (first | rw [c39b0] | (simp only [i64_w, i32_w]; rw [c39b0]) | skip)
    have H' := zM H
    clear H
    go_wp2
    go_meet
    case rel => exact ⟨_, (true), (by first | rfl | (simp; done) | (simp [*]; done)), H', ⟨by first | omega | exact Nat.le_refl _⟩, ⟨by (with_reducible repeat (first | apply pzN | apply pzd | apply pza)); refine blk_far ?_ NB455_461.out _; (with_reducible repeat (first | apply pzN | apply pzd | apply pza)); refine blk_far ?_ NB455_461.out _; (with_reducible repeat (first | apply pzN | apply pzd | apply pza)); exact BK455.out⟩, ⟨by (with_reducible repeat (first | apply pzN | apply pzd | apply pza)); refine blk_far ?_ NB456_461.out _; (with_reducible repeat (first | apply pzN | apply pzd | apply pza)); refine blk_far ?_ NB456_461.out _; (with_reducible repeat (first | apply pzN | apply pzd | apply pza)); exact BK456.out⟩, ⟨by repeat (first | (with_reducible first | exact HI460.out | apply IsS81.alloc | apply IsS81.drewN | apply IsS81.drew | apply IsS81.set_0 | apply IsS81.set_1 | refine IsS81.far ?_ NB460_454.out _ | refine IsS81.far ?_ NB460_455.out _ | refine IsS81.far ?_ NB460_456.out _ | refine IsS81.far ?_ NB460_461.out _) | exact HI460.out)⟩, ⟨by repeat (first | (with_reducible first | exact HB.out | apply below_alloc | apply pw_below_drewN | apply below_drew1 | refine below_set ?_ (IsS81.ge HI460.out) | refine below_setA ?_ (by assumption)) | exact HB.out)⟩⟩
   ·rw [if_neg c39] at H
    have c39b0 : decide (a1 < 0) = false := decide_eq_false c39
    clear c39
    (first | rw [c39b0] | (simp only [i64_w, i32_w]; rw [c39b0]) | skip)
    have H' := zM H
    clear H
    go_wp2
    go_meet
    case rel => exact ⟨_, (decide (a1 > 1000)), (by first | rfl | (simp; done) | (simp [*]; done)), H', ⟨by first | omega | exact Nat.le_refl _⟩, ⟨by (with_reducible repeat (first | apply pzN | apply pzd | apply pza)); refine blk_far ?_ NB455_461.out _; (with_reducible repeat (first | apply pzN | apply pzd | apply pza)); refine blk_far ?_ NB455_461.out _; (with_reducible repeat (first | apply pzN | apply pzd | apply pza)); exact BK455.out⟩, ⟨by (with_reducible repeat (first | apply pzN | apply pzd | apply pza)); refine blk_far ?_ NB456_461.out _; (with_reducible repeat (first | apply pzN | apply pzd | apply pza)); refine blk_far ?_ NB456_461.out _; (with_reducible repeat (first | apply pzN | apply pzd | apply pza)); exact BK456.out⟩, ⟨by repeat (first | (with_reducible first | exact HI460.out | apply IsS81.alloc | apply IsS81.drewN | apply IsS81.drew | apply IsS81.set_0 | apply IsS81.set_1 | refine IsS81.far ?_ NB460_454.out _ | refine IsS81.far ?_ NB460_455.out _ | refine IsS81.far ?_ NB460_456.out _ | refine IsS81.far ?_ NB460_461.out _) | exact HI460.out)⟩, ⟨by repeat (first | (with_reducible first | exact HB.out | apply below_alloc | apply pw_below_drewN | apply below_drew1 | refine below_set ?_ (IsS81.ge HI460.out) | refine below_setA ?_ (by assumption)) | exact HB.out)⟩⟩
  case rest =>
   clear HC25
   try clear c1
   try clear c2
   try clear p2
   try clear c3
   try clear c4
   try clear c4b0
   try clear c4b1
   try clear c9
   try clear c10
   try clear c14
   try clear c15
   try clear c16
   try clear c28
   try clear c29
   try clear c30
   try clear c34
   try clear c35
   try clear c36
   try clear c37
   try clear c39
   try clear c39b0
   try clear hcz11_0
   try clear hcz11_1
   try clear hcz17_0
   try clear hcz17_1
   try clear hcz31_0
   try clear hcz31_1
   try clear hcz38_0
   try clear hcz38_1
   try clear hfz11_0
   try clear hfz11_1
   try clear hfz17_0
   try clear hfz17_1
   try clear hfz31_0
   try clear hfz31_1
   try clear hfz38_0
   try clear hfz38_1
   obtain ⟨kq, x23_24, rfl, HA, HJ24, BK455, BK456, HI460, HB⟩ := hcut
   cases kq with
   | zero => exact absurd HA.out (by simp [random_Sample.j0])
   | succ kj24 =>
    have H := HA.out
    clear HA
    simp only [random_Sample.j0] at H
    by_cases c40 : x23_24 = true
    ·subst c40
     have H1 : ((random_at.f 4 (-2)).bind fun bt462 => (some (([] : List Int), 0, 0, bt462.1, bt462.2))) = some (r1, r2, r3, r4, r5) := by rw [if_pos rfl] at H; exact H
     clear H
     have H := H1
     clear H1
     replace H := zB H
     obtain ⟨⟨t462, t463⟩, A410, H⟩ := H
     replace H : (some (([] : List Int), 0, 0, t462, t463)) = some (r1, r2, r3, r4, r5) := H
     have A41 := zM A410
     clear A410
     simp only [Option.some.injEq, Prod.mk.injEq] at H
     obtain ⟨rfl, rfl, rfl, rfl, rfl⟩ := H
     go_wp2_with (first | ((with_reducible refine gate_callee (f := 37) rfl ?_); refine goesL_ (some 31) rfl rfl Try.func37 (by kernel_rfl) rfl #[.int .i64 4, .int .i64 (-2)] rfl (by (try simp only [zT, zC, zN]); first | done | rfl | (simp only [zR, zL]; rfl)) ?_; (with_reducible refine (random_at.calls 4 (-2) t462 t463 _ A41.out).mono ?_); rintro e w42 ⟨rfl, hb⟩; refine ⟨_, rfl, ?_⟩; replace BK455 := pzb BK455 hb; replace BK456 := pzb BK456 hb; replace HB := zM (below_step (by repeat (first | (with_reducible first | exact HB.out | apply below_alloc | apply pw_below_drewN | apply below_drew1 | refine below_set ?_ (IsS81.ge HI460.out) | refine below_setA ?_ (by assumption)) | exact HB.out)) hb); replace HI460 := zM (IsS81.below (by repeat (first | (with_reducible first | exact HI460.out | apply IsS81.alloc | apply IsS81.drewN | apply IsS81.drew | apply IsS81.set_0 | apply IsS81.set_1 | refine IsS81.far ?_ NB460_455.out _ | refine IsS81.far ?_ NB460_456.out _) | exact HI460.out)) hb); (try clear hb); (try clear hb2); (try clear hk); (try clear hi); have hnb43 := NB455_456.out; have hnc43 := NB456_455.out; have hcz45_0 := pzc (v := .int .u64 0) BK455 0 rfl; have hcz45_1 := pzc (v := .int .u64 0) BK455 1 rfl; have hfz45_0 := zF BK455.out 0; have hfz45_1 := zF BK455.out 1; have hcz47_0 := pzc (v := .int .i64 0) BK456 0 rfl; have hcz47_1 := pzc (v := .int .i64 0) BK456 1 rfl; have hfz47_0 := zF BK456.out 0; have hfz47_1 := zF BK456.out 1))
     refine bodyPost_ret (results_list (rs := [.tmp 6, .cell 7 27, .cell 8 29]) rfl (by simp) (.tmp (.cell gb455 27 #[.int .u64 0, .int .u64 0] (0, 0) _ rfl (by (with_reducible repeat (first | apply pzN | apply pzd | apply pza)); refine blk_far ?_ NB455_456.out _; (with_reducible repeat (first | apply pzN | apply pzd | apply pza)); refine blk_far ?_ NB455_456.out _; (with_reducible repeat (first | apply pzN | apply pzd | apply pza)); refine blk_put (cs := #[.int .u64 0, .int .u64 0]) ?_ 1 _ rfl; (with_reducible repeat (first | apply pzN | apply pzd | apply pza)); refine blk_put (cs := #[.int .u64 0, .int .u64 0]) ?_ 0 _ rfl; (with_reducible repeat (first | apply pzN | apply pzd | apply pza)); exact BK455.out) Try.underlying27 rfl (by kernel_rfl) (.cell gb456 29 #[.int .i64 t462, .int .i64 t463] (0, 0) _ rfl (by (with_reducible repeat (first | apply pzN | apply pzd | apply pza)); refine blk_put (cs := #[.int .i64 t462, .int .i64 0]) ?_ 1 _ rfl; (with_reducible repeat (first | apply pzN | apply pzd | apply pza)); refine blk_put (cs := #[.int .i64 0, .int .i64 0]) ?_ 0 _ rfl; (with_reducible repeat (first | apply pzN | apply pzd | apply pza)); refine blk_far ?_ NB456_455.out _; (with_reducible repeat (first | apply pzN | apply pzd | apply pza)); refine blk_far ?_ NB456_455.out _; (with_reducible repeat (first | apply pzN | apply pzd | apply pza)); exact BK456.out) Try.underlying29 rfl (by kernel_rfl) .nil)))) rfl ?_
     exact ⟨_, by first | rfl | (simp [errW_none, errW_some] <;> rfl) | (simp [*, errW_none, errW_some] <;> rfl), by first | exact Kd.R_nil _ _ _ _ _ | exact Kd.N_nil _ _ _ _ _ | exact Kd.V_nil _ _ _ _ _ | exact Kd.Q_nil _ _ _ _ _ | exact Kd.S_nil _ _ _ _ _, by repeat (first | (with_reducible first | exact HB.out | apply below_alloc | apply pw_below_drewN | apply below_drew1 | refine below_set ?_ (IsS81.ge HI460.out) | refine below_setA ?_ (by assumption)) | exact HB.out)⟩
    ·replace c40 := Bool.eq_false_iff.mpr c40
     subst c40
     have H1 : (if a2 < 0 then (random_Sample.j1 kj24 a1 a2 true t458 t459) else (random_Sample.j1 kj24 a1 a2 (decide (a2 > a1)) t458 t459)) = some (r1, r2, r3, r4, r5) := by rw [if_neg (show ¬ (false = true) by decide)] at H; exact H
     clear H
     have H := H1
     clear H1
     have HC48 := zM H
     clear H
     go_upto_region 6 with (fail)
     go_cut [32] (fun v32 wc => ∃ (kq : Nat) (x32_47 : Bool), v32 = .bool x32_47 ∧ Aside0 (random_Sample.j1 kq a1 a2 x32_47 t458 t459 = some (r1, r2, r3, r4, r5)) ∧ Aside0 (kq ≤ kj24) ∧ Aside0 (wc.heap[gb455]? = some (.cells #[.int .u64 0, .int .u64 0] 27 (0, 0))) ∧ Aside0 (wc.heap[gb456]? = some (.cells #[.int .i64 0, .int .i64 0] 29 (0, 0))) ∧ Aside0 (IsS81 w wc g460 t458 t459) ∧ Aside0 (Below w.heap.size w wc))
     case first =>
      have H := HC48.out
      clear HC48
      by_cases c49 : a2 < 0
      ·rw [if_pos c49] at H
       have c49b0 : decide (a2 < 0) = true := zE c49
       clear c49
       (first | rw [c49b0] | (simp only [i64_w, i32_w]; rw [c49b0]) | skip)
       have H' := zM H
       clear H
       go_wp2
       go_meet
       case rel => exact ⟨_, (true), (by first | rfl | (simp; done) | (simp [*]; done)), H', ⟨by have := HJ24.out; first | omega | exact Nat.le_refl _⟩, ⟨by (with_reducible repeat (first | apply pzN | apply pzd | apply pza)); exact BK455.out⟩, ⟨by (with_reducible repeat (first | apply pzN | apply pzd | apply pza)); exact BK456.out⟩, ⟨by repeat (first | (with_reducible first | exact HI460.out | apply IsS81.alloc | apply IsS81.drewN | apply IsS81.drew | apply IsS81.set_0 | apply IsS81.set_1 | refine IsS81.far ?_ NB460_455.out _ | refine IsS81.far ?_ NB460_456.out _) | exact HI460.out)⟩, ⟨by repeat (first | (with_reducible first | exact HB.out | apply below_alloc | apply pw_below_drewN | apply below_drew1 | refine below_set ?_ (IsS81.ge HI460.out) | refine below_setA ?_ (by assumption)) | exact HB.out)⟩⟩
      ·rw [if_neg c49] at H
       have c49b0 : decide (a2 < 0) = false := decide_eq_false c49
       clear c49
       (first | rw [c49b0] | (simp only [i64_w, i32_w]; rw [c49b0]) | skip)
       have H' := zM H
       clear H
       go_wp2
       go_meet
       case rel => exact ⟨_, (decide (a2 > a1)), (by first | rfl | (simp; done) | (simp [*]; done)), H', ⟨by have := HJ24.out; first | omega | exact Nat.le_refl _⟩, ⟨by (with_reducible repeat (first | apply pzN | apply pzd | apply pza)); exact BK455.out⟩, ⟨by (with_reducible repeat (first | apply pzN | apply pzd | apply pza)); exact BK456.out⟩, ⟨by repeat (first | (with_reducible first | exact HI460.out | apply IsS81.alloc | apply IsS81.drewN | apply IsS81.drew | apply IsS81.set_0 | apply IsS81.set_1 | refine IsS81.far ?_ NB460_455.out _ | refine IsS81.far ?_ NB460_456.out _) | exact HI460.out)⟩, ⟨by repeat (first | (with_reducible first | exact HB.out | apply below_alloc | apply pw_below_drewN | apply below_drew1 | refine below_set ?_ (IsS81.ge HI460.out) | refine below_setA ?_ (by assumption)) | exact HB.out)⟩⟩
     case rest =>
      clear HC48
      try clear c1
      try clear c2
      try clear p2
      try clear c3
      try clear c4
      try clear c4b0
      try clear c4b1
      try clear c9
      try clear c10
      try clear c14
      try clear c15
      try clear c16
      try clear c28
      try clear c29
      try clear c30
      try clear c34
      try clear c35
      try clear c36
      try clear c37
      try clear c39
      try clear c39b0
      try clear c40
      try clear c43
      try clear c44
      try clear c46
      try clear c49
      try clear c49b0
      try clear hcz11_0
      try clear hcz11_1
      try clear hcz17_0
      try clear hcz17_1
      try clear hcz31_0
      try clear hcz31_1
      try clear hcz38_0
      try clear hcz38_1
      try clear hcz45_0
      try clear hcz45_1
      try clear hcz47_0
      try clear hcz47_1
      try clear hfz11_0
      try clear hfz11_1
      try clear hfz17_0
      try clear hfz17_1
      try clear hfz31_0
      try clear hfz31_1
      try clear hfz38_0
      try clear hfz38_1
      try clear hfz45_0
      try clear hfz45_1
      try clear hfz47_0
      try clear hfz47_1
      try clear p2
      obtain ⟨kq, x32_47, rfl, HA, HJ47, BK455, BK456, HI460, HB⟩ := hcut
      cases kq with
      | zero => exact absurd HA.out (by simp [random_Sample.j1])
      | succ kj47 =>
       have H := HA.out
       clear HA
       simp only [random_Sample.j1] at H
       by_cases c50 : x32_47 = true
       ·subst c50
        have H1 : ((random_at.f 4 (-3)).bind fun bt464 => (some (([] : List Int), 0, 0, bt464.1, bt464.2))) = some (r1, r2, r3, r4, r5) := by rw [if_pos rfl] at H; exact H
        clear H
        have H := H1
        clear H1
        replace H := zB H
        obtain ⟨⟨t464, t465⟩, A510, H⟩ := H
        replace H : (some (([] : List Int), 0, 0, t464, t465)) = some (r1, r2, r3, r4, r5) := H
        have A51 := zM A510
        clear A510
        simp only [Option.some.injEq, Prod.mk.injEq] at H
        obtain ⟨rfl, rfl, rfl, rfl, rfl⟩ := H
        go_wp2_with (first | ((with_reducible refine gate_callee (f := 37) rfl ?_); refine goesL_ (some 41) rfl rfl Try.func37 (by kernel_rfl) rfl #[.int .i64 4, .int .i64 (-3)] rfl (by (try simp only [zT, zC, zN]); first | done | rfl | (simp only [zR, zL]; rfl)) ?_; (with_reducible refine (random_at.calls 4 (-3) t464 t465 _ A51.out).mono ?_); rintro e w52 ⟨rfl, hb⟩; refine ⟨_, rfl, ?_⟩; replace BK455 := pzb BK455 hb; replace BK456 := pzb BK456 hb; replace HB := zM (below_step (by repeat (first | (with_reducible first | exact HB.out | apply below_alloc | apply pw_below_drewN | apply below_drew1 | refine below_set ?_ (IsS81.ge HI460.out) | refine below_setA ?_ (by assumption)) | exact HB.out)) hb); replace HI460 := zM (IsS81.below (by repeat (first | (with_reducible first | exact HI460.out | apply IsS81.alloc | apply IsS81.drewN | apply IsS81.drew | apply IsS81.set_0 | apply IsS81.set_1 | refine IsS81.far ?_ NB460_455.out _ | refine IsS81.far ?_ NB460_456.out _) | exact HI460.out)) hb); (try clear hb); (try clear hb2); (try clear hk); (try clear hi); have hnb53 := NB455_456.out; have hnc53 := NB456_455.out; have hcz55_0 := pzc (v := .int .u64 0) BK455 0 rfl; have hcz55_1 := pzc (v := .int .u64 0) BK455 1 rfl; have hfz55_0 := zF BK455.out 0; have hfz55_1 := zF BK455.out 1; have hcz57_0 := pzc (v := .int .i64 0) BK456 0 rfl; have hcz57_1 := pzc (v := .int .i64 0) BK456 1 rfl; have hfz57_0 := zF BK456.out 0; have hfz57_1 := zF BK456.out 1))
        refine bodyPost_ret (results_list (rs := [.tmp 6, .cell 7 27, .cell 8 29]) rfl (by simp) (.tmp (.cell gb455 27 #[.int .u64 0, .int .u64 0] (0, 0) _ rfl (by (with_reducible repeat (first | apply pzN | apply pzd | apply pza)); refine blk_far ?_ NB455_456.out _; (with_reducible repeat (first | apply pzN | apply pzd | apply pza)); refine blk_far ?_ NB455_456.out _; (with_reducible repeat (first | apply pzN | apply pzd | apply pza)); refine blk_put (cs := #[.int .u64 0, .int .u64 0]) ?_ 1 _ rfl; (with_reducible repeat (first | apply pzN | apply pzd | apply pza)); refine blk_put (cs := #[.int .u64 0, .int .u64 0]) ?_ 0 _ rfl; (with_reducible repeat (first | apply pzN | apply pzd | apply pza)); exact BK455.out) Try.underlying27 rfl (by kernel_rfl) (.cell gb456 29 #[.int .i64 t464, .int .i64 t465] (0, 0) _ rfl (by (with_reducible repeat (first | apply pzN | apply pzd | apply pza)); refine blk_put (cs := #[.int .i64 t464, .int .i64 0]) ?_ 1 _ rfl; (with_reducible repeat (first | apply pzN | apply pzd | apply pza)); refine blk_put (cs := #[.int .i64 0, .int .i64 0]) ?_ 0 _ rfl; (with_reducible repeat (first | apply pzN | apply pzd | apply pza)); refine blk_far ?_ NB456_455.out _; (with_reducible repeat (first | apply pzN | apply pzd | apply pza)); refine blk_far ?_ NB456_455.out _; (with_reducible repeat (first | apply pzN | apply pzd | apply pza)); exact BK456.out) Try.underlying29 rfl (by kernel_rfl) .nil)))) rfl ?_
        exact ⟨_, by first | rfl | (simp [errW_none, errW_some] <;> rfl) | (simp [*, errW_none, errW_some] <;> rfl), by first | exact Kd.R_nil _ _ _ _ _ | exact Kd.N_nil _ _ _ _ _ | exact Kd.V_nil _ _ _ _ _ | exact Kd.Q_nil _ _ _ _ _ | exact Kd.S_nil _ _ _ _ _, by repeat (first | (with_reducible first | exact HB.out | apply below_alloc | apply pw_below_drewN | apply below_drew1 | refine below_set ?_ (IsS81.ge HI460.out) | refine below_setA ?_ (by assumption)) | exact HB.out)⟩
       ·replace c50 := Bool.eq_false_iff.mpr c50
        subst c50
        have H1 : ((random_source_sample.f kj47 t458 t459 a1 a2).bind fun bt466 => (some (bt466.1, bt466.2.1, bt466.2.2, 0, 0))) = some (r1, r2, r3, r4, r5) := by rw [if_neg (show ¬ (false = true) by decide)] at H; exact H
        clear H
        have H := H1
        clear H1
        replace H := zB H
        obtain ⟨⟨t466, t469, t470⟩, A580, H⟩ := H
        replace H : (some (t466, t469, t470, 0, 0)) = some (r1, r2, r3, r4, r5) := H
        have A58 := zM A580
        clear A580
        simp only [Option.some.injEq, Prod.mk.injEq] at H
        obtain ⟨rfl, rfl, rfl, rfl, rfl⟩ := H
        try go_wp2_with (first | ((with_reducible refine gate_callee (f := 55) rfl ?_); refine goesL_ (some 45) rfl rfl Try.func55 (by kernel_rfl) rfl #[.pointer (some ⟨g460, 0, none⟩), .int .i64 a1, .int .i64 a2] rfl (by (try simp only [zT, zC, zN]); first | done | rfl | (simp only [zR, zL]; rfl)) ?_; (with_reducible refine (random_source_sample.calls kj47 g460 t458 t459 a1 a2 t466 t469 t470 w _ ?side1 ?side2 A58.out).mono ?_); (case side1 => repeat (first | (with_reducible first | exact HI460.out | apply IsS81.alloc | apply IsS81.drewN | apply IsS81.drew | apply IsS81.set_0 | apply IsS81.set_1 | refine IsS81.far ?_ NB460_455.out _ | refine IsS81.far ?_ NB460_456.out _) | exact HI460.out)); (case side2 => repeat (first | (with_reducible first | exact HB.out | apply below_alloc | apply pw_below_drewN | apply below_drew1 | refine below_set ?_ (IsS81.ge HI460.out) | refine below_setA ?_ (by assumption)) | exact HB.out)); rintro e w59 ⟨v467, rfl, ho0, hi, hb, hk⟩; refine ⟨_, rfl, ?_⟩; have HO468 := zM (Kd.R_lower ho0 (below_size (by repeat (first | (with_reducible first | exact HB.out | apply below_alloc | apply pw_below_drewN | apply below_drew1 | refine below_set ?_ (IsS81.ge HI460.out) | refine below_setA ?_ (by assumption)) | exact HB.out)))); replace BK455 := zM (KeepBut.blk hk (g' := gb455) (o := .cells #[.int .u64 0, .int .u64 0] 27 (0, 0)) BK455.out NB455_460.out (by simp)); replace BK456 := zM (KeepBut.blk hk (g' := gb456) (o := .cells #[.int .i64 0, .int .i64 0] 29 (0, 0)) BK456.out NB456_460.out (by simp)); replace HB := zM (hb); replace HI460 := zM (hi); (try clear hb); (try clear hb2); (try clear hk); (try clear hi); (try clear ho0)))
        replace HO468 := zM (Kd.R_drew HO468.out)
        replace BK455 := zM (blk_drew BK455.out)
        replace BK456 := zM (blk_drew BK456.out)
        replace HI460 := zM (IsS81.drew HI460.out)
        replace HB := zM (below_drew1 HB.out)
        refine start_ (n := 9) (S := fun w' => w'.cell? ⟨g460, 0, none⟩ = some (.int .u64 t469) ∧ w'.cell? ⟨g460, 1, none⟩ = some (.int .u64 t470)) (ds := []) #[false, false, false, false, false, false, false, false, false] (by kernel_rfl) rfl rfl ⟨(blk_cell (zM HI460.out.1).out 0).trans rfl, (blk_cell (zM HI460.out.1).out 1).trans rfl⟩ (fun hHeld => ?_); refine with_tabW random_Sample.tab9 random_Sample.bits9 (fun HT_ HW_ => ?_)
        generalize w59.drew = w60 at HO468 BK455 BK456 HI460 HB hHeld ⊢
        refine pure_ (i := 0) (N := some 46) (v := ?_) (a' := ?_) #[true, false, false, false, false, false, false, false, false] rfl rfl (any_of HT_.out (by kernel_rfl)) (fun _ _ _ h => h) (Or.inl ⟨by rfl, ?_⟩) ?_ ?_
        rotate_left
        ·intro w'
         go_simp
         with_reducible rfl
        rotate_left
        ·simp only [Act.put, zS, z0, z1, i64_w, i32_w]
         rfl
        refine pure_ (i := 1) (N := some 47) (v := ?_) (a' := ?_) #[true, true, false, false, false, false, false, false, false] rfl rfl (any_of HT_.out (by kernel_rfl)) (fun _ _ _ h => h) (Or.inl ⟨by rfl, ?_⟩) ?_ ?_
        rotate_left
        ·intro w'
         go_simp
         with_reducible rfl
        rotate_left
        ·simp only [Act.put, zS, z0, z1, i64_w, i32_w]
         rfl
        refine pure_ (i := 2) (N := some 48) (v := ?_) (a' := ?_) #[true, true, true, false, false, false, false, false, false] rfl rfl (any_of HT_.out (by kernel_rfl)) (fun _ _ _ h => h) (Or.inl ⟨by rfl, ?_⟩) ?_ ?_
        rotate_left
        ·intro w'
         go_simp
         with_reducible rfl
        rotate_left
        ·simp only [Act.put, zS, z0, z1, i64_w, i32_w]
         rfl
        refine pure_ (i := 3) (N := some 49) (v := ?_) (a' := ?_) #[true, true, true, true, false, false, false, false, false] rfl rfl (any_of HT_.out (by kernel_rfl)) (fun _ _ _ h => h) (Or.inl ⟨by rfl, ?_⟩) ?_ ?_
        rotate_left
        ·intro w'
         go_simp
         with_reducible rfl
        rotate_left
        ·simp only [Act.put, zS, z0, z1, i64_w, i32_w]
         rfl
        refine pure_ (i := 5) (N := some 51) (v := ?_) (a' := ?_) #[true, true, true, true, false, true, false, false, false] rfl rfl (any_of HT_.out (by kernel_rfl)) (fun _ _ _ h => h) (Or.inl ⟨by rfl, ?_⟩) ?_ ?_
        rotate_left
        ·intro w'
         go_simp
         with_reducible rfl
        rotate_left
        ·simp only [Act.put, zS, z0, z1, i64_w, i32_w]
         rfl
        refine pure_ (i := 6) (N := some 6) (v := ?_) (a' := ?_) #[true, true, true, true, false, true, true, false, false] rfl rfl (any_of HT_.out (by kernel_rfl)) (fun _ _ _ h => h) (Or.inl ⟨by rfl, ?_⟩) ?_ ?_
        rotate_left
        ·intro w'
         go_simp
         with_reducible rfl
        rotate_left
        ·simp only [Act.put, zS, z0, z1, i64_w, i32_w]
         rfl
        refine take_ (i := 4) (N := some 50) (v := ?_) (a' := ?_) #[true, true, true, true, true, true, true, false, false] rfl rfl (take_ofW HT_.out HW_.out (by kernel_rfl)) (fun _ _ _ h => h) (Or.inl ⟨by rfl, ?_⟩) hHeld ?_ ?_
        rotate_left
        ·rintro w' ⟨s0, s1⟩
         go_simp
         with_reducible rfl
        rotate_left
        ·simp only [Act.put, zS, z0, z1, i64_w, i32_w]
         rfl
        refine one_ (i := 7) (N := none) #[true, true, true, true, true, true, true, true, false] rfl rfl (one_of HT_.out (by kernel_rfl)) (by decide) (fun K hK => ?_)
        have hs61 : w60.cell? ⟨gb455, 0, none⟩ = some (.int .u64 0) := (blk_cell BK455.out 0).trans rfl
        have hfs61 := zF BK455.out 0
        have hns61_1 := NB456_455.out
        have hms61_1 := NB455_456.out
        have hs62 : w60.cell? ⟨gb455, 1, none⟩ = some (.int .u64 0) := (blk_cell BK455.out 1).trans rfl
        have hfs62 := zF BK455.out 1
        have hns62_1 := NB456_455.out
        have hms62_1 := NB455_456.out
        refine skip_ (w1 := ?_) (by rfl) rfl ?_ ?_
        rotate_left
        ·go_simp
         rfl
        refine hK.out _ _ ⟨((cell_far (p := ⟨gb455, _, none⟩) NB460_455.out _).trans (((cell_far (p := ⟨gb455, _, none⟩) NB460_455.out _).trans (hHeld.1)))), ((cell_far (p := ⟨gb455, _, none⟩) NB460_455.out _).trans (((cell_far (p := ⟨gb455, _, none⟩) NB460_455.out _).trans (hHeld.2))))⟩ (fun hHeld => ?_)
        clear hK K
        refine one_ (i := 8) (N := none) #[true, true, true, true, true, true, true, true, true] rfl rfl (one_of HT_.out (by kernel_rfl)) (by decide) (fun K hK => ?_)
        have hs63 : w60.cell? ⟨gb456, 0, none⟩ = some (.int .i64 0) := (blk_cell BK456.out 0).trans rfl
        have hfs63 := zF BK456.out 0
        have hns63_0 := NB455_456.out
        have hms63_0 := NB456_455.out
        have hs64 : w60.cell? ⟨gb456, 1, none⟩ = some (.int .i64 0) := (blk_cell BK456.out 1).trans rfl
        have hfs64 := zF BK456.out 1
        have hns64_0 := NB455_456.out
        have hms64_0 := NB456_455.out
        refine skip_ (w1 := ?_) (by rfl) rfl ?_ ?_
        rotate_left
        ·go_simp
         rfl
        refine hK.out _ _ ⟨((cell_far (p := ⟨gb456, _, none⟩) NB460_456.out _).trans (((cell_far (p := ⟨gb456, _, none⟩) NB460_456.out _).trans (hHeld.1)))), ((cell_far (p := ⟨gb456, _, none⟩) NB460_456.out _).trans (((cell_far (p := ⟨gb456, _, none⟩) NB460_456.out _).trans (hHeld.2))))⟩ (fun hHeld => ?_)
        clear hK K
        refine done_ (done_of HT_.out (by kernel_rfl)) ?_
        try go_wp2
        refine bodyPost_ret (results_list (rs := [.tmp 6, .cell 7 27, .cell 8 29]) rfl (by simp) (.tmp (.cell gb455 27 #[.int .u64 t469, .int .u64 t470] (0, 0) _ rfl (by (with_reducible repeat (first | apply pzN | apply pzd | apply pza)); refine blk_far ?_ NB455_456.out _; (with_reducible repeat (first | apply pzN | apply pzd | apply pza)); refine blk_far ?_ NB455_456.out _; (with_reducible repeat (first | apply pzN | apply pzd | apply pza)); refine blk_put (cs := #[.int .u64 t469, .int .u64 0]) ?_ 1 _ rfl; (with_reducible repeat (first | apply pzN | apply pzd | apply pza)); refine blk_put (cs := #[.int .u64 0, .int .u64 0]) ?_ 0 _ rfl; (with_reducible repeat (first | apply pzN | apply pzd | apply pza)); exact BK455.out) Try.underlying27 rfl (by kernel_rfl) (.cell gb456 29 #[.int .i64 0, .int .i64 0] (0, 0) _ rfl (by (with_reducible repeat (first | apply pzN | apply pzd | apply pza)); refine blk_put (cs := #[.int .i64 0, .int .i64 0]) ?_ 1 _ rfl; (with_reducible repeat (first | apply pzN | apply pzd | apply pza)); refine blk_put (cs := #[.int .i64 0, .int .i64 0]) ?_ 0 _ rfl; (with_reducible repeat (first | apply pzN | apply pzd | apply pza)); refine blk_far ?_ NB456_455.out _; (with_reducible repeat (first | apply pzN | apply pzd | apply pza)); refine blk_far ?_ NB456_455.out _; (with_reducible repeat (first | apply pzN | apply pzd | apply pza)); exact BK456.out) Try.underlying29 rfl (by kernel_rfl) .nil)))) rfl ?_
        exact ⟨_, by first | rfl | (simp [errW_none, errW_some] <;> rfl) | (simp [*, errW_none, errW_some] <;> rfl), by (with_reducible repeat (first | apply Kd.R_alloc | apply Kd.R_drewN | apply Kd.R_drew)); exact Kd.R_mono (Kd.R_far (p := ⟨gb456, 1, none⟩) (Kd.R_far (p := ⟨gb456, 0, none⟩) (Kd.R_far (p := ⟨gb455, 1, none⟩) (Kd.R_far (p := ⟨gb455, 0, none⟩) (Kd.R_types (Kd.R_types HO468.out BK455.out (by decide)) BK456.out (by decide)) (fun _ hk => hk.1.2) (.int .u64 t469)) (fun _ hk => hk.1.2) (.int .u64 t470)) (fun _ hk => hk.2) (.int .i64 0)) (fun _ hk => hk.2) (.int .i64 0)) (fun _ hk => trivial), by repeat (first | (with_reducible first | exact HB.out | apply below_alloc | apply pw_below_drewN | apply below_drew1 | refine below_set ?_ (IsS81.ge HI460.out) | refine below_setA ?_ (by assumption)) | exact HB.out)⟩

/-! ### brindlewoodref4_SameBytes: function 29 -/
def brindlewoodref4_SameBytes.f (l0 : List Int) (l1 : List Int) : Option (Bool) := some ((strOfNums l0).toList == (strOfNums l1).toList)
set_option maxHeartbeats 60000000 in
set_option maxRecDepth 100000 in
theorem brindlewoodref4_SameBytes.calls (A0 : Option Addr) (c0 : Nat) (l0 : List Int) (A1 : Option Addr) (c1 : Nat) (l1 : List Int) (r : Bool) (w : World) (hr0 : Kd.C (Kd.int .u8) w A0 l0.length l0) (hc0 : l0.length ≤ c0) (hr1 : Kd.C (Kd.int .u8) w A1 l1.length l1) (hc1 : l1.length ≤ c1) (h : brindlewoodref4_SameBytes.f l0 l1 = some r) :
  Calls Try.prog 29 #[.slice A0 l0.length c0, .slice A1 l1.length c1] w fun e w' => e = .returned (.bool r) ∧ Drawn0 w w' := by
 have HR0 := zM hr0
 have HC0 := zM hc0
 clear hr0 hc0
 have HR1 := zM hr1
 have HC1 := zM hc1
 clear hr1 hc1
 have H : (some ((strOfNums l0).toList == (strOfNums l1).toList)) = some r := h
 clear h
 obtain rfl := Option.some.inj H
 have hcv3 := Kd.C_string (P := Try.prog) (A := A0) (c := c0) Try.underlying60 Try.underlying5 Try.underlying9 HR0.out
 have hcv4 := Kd.C_string (P := Try.prog) (A := A1) (c := c1) Try.underlying60 Try.underlying5 Try.underlying9 HR1.out
 go_enter Try.func29, Try.ntmps29
 go_wp2
 go_ret
 exact ⟨by first | rfl | (simp; done) | (simp [*]; done), by repeat (first | exact Drawn0.refl _ | apply Drawn0.step)⟩

/-! ### brindlewoodref4_Numbers: function 30 -/
def brindlewoodref4_Numbers.l0 : Nat → List Int → List Int → Int → Option (Bool)
 | 0, _, _, _ => none
 | k + 1, x0, x1, x5 => if x5 < (x0.length : Int) then (if 0 ≤ x5 then (if x5 < (x1.length : Int) then (if (rd x0 x5) = (rd x1 x5) then (brindlewoodref4_Numbers.l0 k x0 x1 (wrap64 (x5 + 1))) else (some false)) else (none)) else (none)) else (some true)
def brindlewoodref4_Numbers.f (k : Nat) (l0 : List Int) (l1 : List Int) : Option (Bool) := if (l0.length : Int) = (l1.length : Int) then (brindlewoodref4_Numbers.l0 k l0 l1 0) else (some false)
theorem brindlewoodref4_Numbers.mono_l : ∀ k, (∀ y0 y1 y2, LeO (brindlewoodref4_Numbers.l0 k y0 y1 y2) (brindlewoodref4_Numbers.l0 (k + 1) y0 y1 y2))
 | 0 => fun _ _ _ r h => by simp [brindlewoodref4_Numbers.l0] at h
 | k + 1 => by
  have ih0 := brindlewoodref4_Numbers.mono_l k
  ·intro y0 y1 y2
   unfold brindlewoodref4_Numbers.l0
   repeat' first
   | (with_reducible exact ih0 _ _ _)
   | (with_reducible exact LeO.refl _)
   | (with_reducible exact LeO.none _)
   | (with_reducible refine LeO.ite ?_ ?_)
   | (with_reducible refine LeO.bind ?_ (fun _ => ?_))
   | exact ih0 _ _ _
   | exact LeO.none _
   | refine LeO.ite ?_ ?_
   | refine LeO.bind ?_ (fun _ => ?_)
theorem brindlewoodref4_Numbers.mono : ∀ a0 a1 k, LeO (brindlewoodref4_Numbers.f k a0 a1) (brindlewoodref4_Numbers.f (k + 1) a0 a1) := by
 intro a0 a1 k
 have ih0 := brindlewoodref4_Numbers.mono_l k
 unfold brindlewoodref4_Numbers.f
 repeat' first
   | (with_reducible exact ih0 _ _ _)
   | (with_reducible exact LeO.refl _)
   | (with_reducible exact LeO.none _)
   | (with_reducible refine LeO.ite ?_ ?_)
   | (with_reducible refine LeO.bind ?_ (fun _ => ?_))
   | exact ih0 _ _ _
   | exact LeO.none _
   | refine LeO.ite ?_ ?_
   | refine LeO.bind ?_ (fun _ => ?_)
set_option maxHeartbeats 60000000 in
set_option maxRecDepth 100000 in
theorem brindlewoodref4_Numbers.calls (k : Nat) (A0 : Option Addr) (c0 : Nat) (l0 : List Int) (A1 : Option Addr) (c1 : Nat) (l1 : List Int) (r : Bool) (w : World) (hr0 : Kd.C (Kd.int .i64) w A0 l0.length l0) (hc0 : l0.length ≤ c0) (hr1 : Kd.C (Kd.int .i64) w A1 l1.length l1) (hc1 : l1.length ≤ c1) (h : brindlewoodref4_Numbers.f k l0 l1 = some r) :
  Calls Try.prog 30 #[.slice A0 l0.length c0, .slice A1 l1.length c1] w fun e w' => e = .returned (.bool r) ∧ Drawn0 w w' := by
 have HR0 := zM hr0
 have HC0 := zM hc0
 clear hr0 hc0
 have HR1 := zM hr1
 have HC1 := zM hc1
 clear hr1 hc1
 have H : (if (l0.length : Int) = (l1.length : Int) then (brindlewoodref4_Numbers.l0 k l0 l1 0) else (some false)) = some r := h
 clear h
 by_cases c3 : (l0.length : Int) = (l1.length : Int)
 ·rw [if_pos c3] at H
  have c3b0 : ((l0.length : Int) == (l1.length : Int)) = true := beq_iff_eq.mpr c3
  have c3b1 : ((l0.length : Int) != (l1.length : Int)) = false := bne_eq_false_iff_eq.mpr c3
  have c3b2 : (l0.length == l1.length) = true := by first | simpa using c3 | (simp at c3 ⊢; omega)
  clear c3
  have H' := zM H
  clear H
  go_enter Try.func30, Try.ntmps30
  go_wp2
  repeat (go_quiet (fail); try go_wp2)
  go_loopg [5] k (fun kq v5 w' => ∃ (x5_1 : Int), v5 = .int .i64 x5_1 ∧ Aside0 (brindlewoodref4_Numbers.l0 kq l0 l1 x5_1 = some r) ∧ Aside0 (kq ≤ k) ∧ Drawn0 w w')
  case atStart => exact ⟨(0), (by first | rfl | (simp; done) | (simp [*]; done)), H', ⟨Nat.le_refl _⟩, by repeat (first | exact Drawn0.refl _ | apply Drawn0.step)⟩
  case round =>
   clear H'
   try clear c1
   try clear p2
   try clear c3
   try clear c3b0
   try clear c3b1
   try clear c3b2
   obtain ⟨x5_1, rfl, HA, HK1, ⟨m1, rfl⟩⟩ := hrel
   cases gk with
   | zero => exact absurd HA.out (by simp [brindlewoodref4_Numbers.l0])
   | succ k1 =>
    have H := HA.out
    clear HA
    simp only [brindlewoodref4_Numbers.l0] at H
    by_cases c4 : x5_1 < (l0.length : Int)
    ·rw [if_pos c4] at H
     have c4b0 : decide (x5_1 < (l0.length : Int)) = true := zE c4
     clear c4
     by_cases c5 : 0 ≤ x5_1
     ·rw [if_pos c5] at H
      have c5b0 : decide (0 ≤ x5_1) = true := zE c5
      clear c5
      by_cases c6 : x5_1 < (l1.length : Int)
      ·rw [if_pos c6] at H
       have c6b0 : decide (x5_1 < (l1.length : Int)) = true := zE c6
       clear c6
       by_cases c7 : (rd l0 x5_1) = (rd l1 x5_1)
       ·rw [if_pos c7] at H
        have c7b0 : ((rd l0 x5_1) == (rd l1 x5_1)) = true := beq_iff_eq.mpr c7
        have c7b1 : ((rd l0 x5_1) != (rd l1 x5_1)) = false := bne_eq_false_iff_eq.mpr c7
        clear c7
        have H' := zM H
        clear H
        have p471 : 0 ≤ (x5_1 : Int) := zD (by first | (with_reducible assumption) | assumption)
        have q471 : x5_1 < (l0.length : Int) := zD (by first | (with_reducible assumption) | assumption)
        obtain ⟨ad471, e471, hx471_0⟩ := Kd.at_int HR0.out x5_1 p471 q471
        cases e471
        replace p471 := eq_true p471
        replace q471 := eq_true q471
        have p472 : 0 ≤ (x5_1 : Int) := zD (by first | (with_reducible assumption) | assumption)
        have q472 : x5_1 < (l1.length : Int) := zD (by first | (with_reducible assumption) | assumption)
        obtain ⟨ad472, e472, hx472_0⟩ := Kd.at_int HR1.out x5_1 p472 q472
        cases e472
        replace p472 := eq_true p472
        replace q472 := eq_true q472
        go_wp2
        repeat (go_quiet (fail); try go_wp2)
        go_roundg k1
        case measure => have := HK1.out; omega
        case rel => exact ⟨(wrap64 (x5_1 + 1)), (by first | rfl | (simp; done) | (simp [*]; done)), H', ⟨by have := HK1.out; omega⟩, by repeat (first | exact Drawn0.refl _ | apply Drawn0.step)⟩
       ·rw [if_neg c7] at H
        have c7b0 : ((rd l0 x5_1) == (rd l1 x5_1)) = false := beq_eq_false_iff_ne.mpr c7
        have c7b1 : ((rd l0 x5_1) != (rd l1 x5_1)) = true := bne_iff_ne.mpr c7
        obtain rfl := Option.some.inj H
        have p471 : 0 ≤ (x5_1 : Int) := zD (by first | (with_reducible assumption) | assumption)
        have q471 : x5_1 < (l0.length : Int) := zD (by first | (with_reducible assumption) | assumption)
        obtain ⟨ad471, e471, hx471_0⟩ := Kd.at_int HR0.out x5_1 p471 q471
        cases e471
        replace p471 := eq_true p471
        replace q471 := eq_true q471
        have p472 : 0 ≤ (x5_1 : Int) := zD (by first | (with_reducible assumption) | assumption)
        have q472 : x5_1 < (l1.length : Int) := zD (by first | (with_reducible assumption) | assumption)
        obtain ⟨ad472, e472, hx472_0⟩ := Kd.at_int HR1.out x5_1 p472 q472
        cases e472
        replace p472 := eq_true p472
        replace q472 := eq_true q472
        go_wp2
        repeat (go_quiet (fail); try go_wp2)
        go_ret
        exact ⟨by first | rfl | (simp; done) | (simp [*]; done), by repeat (first | exact Drawn0.refl _ | apply Drawn0.step)⟩
      ·rw [if_neg c6] at H
       exact absurd H (by simp)
     ·rw [if_neg c5] at H
      exact absurd H (by simp)
    ·rw [if_neg c4] at H
     have c4b0 : decide (x5_1 < (l0.length : Int)) = false := decide_eq_false c4
     clear c4
     obtain rfl := Option.some.inj H
     go_wp2
     repeat (go_quiet (fail); try go_wp2)
     go_ret
     exact ⟨by first | rfl | (simp; done) | (simp [*]; done), by repeat (first | exact Drawn0.refl _ | apply Drawn0.step)⟩
 ·rw [if_neg c3] at H
  have c3b0 : ((l0.length : Int) == (l1.length : Int)) = false := beq_eq_false_iff_ne.mpr c3
  have c3b1 : ((l0.length : Int) != (l1.length : Int)) = true := bne_iff_ne.mpr c3
  have c3b2 : (l0.length == l1.length) = false := by first | simpa using c3 | (simp at c3 ⊢; omega)
  obtain rfl := Option.some.inj H
  go_enter Try.func30, Try.ntmps30
  go_wp2
  repeat (go_quiet (fail); try go_wp2)
  go_ret
  exact ⟨by first | rfl | (simp; done) | (simp [*]; done), by repeat (first | exact Drawn0.refl _ | apply Drawn0.step)⟩

/-! ### brindlewoodlaw4_RandomPrefixes: function 5 -/
def brindlewoodlaw4_RandomPrefixes.l0 : Nat → Int → List Int → List Bool → Int → Option (Bool)
 | 0, _, _, _, _ => none
 | k + 1, x1, x13, x19, x20 => if x20 < x1 then (if 0 ≤ x20 then (if x20 < (x13.length : Int) then (if (rd x13 x20) < 0 then (none) else (if (rd x13 x20) ≥ x1 then (none) else (if 0 ≤ (rd x13 x20) then (if (rd x13 x20) < (x19.length : Int) then (if rdOf false x19 (rd x13 x20) = true then (none) else (brindlewoodlaw4_RandomPrefixes.l0 k x1 x13 (x19.set ((rd x13 x20) : Int).toNat true) (wrap64 (x20 + 1)))) else (none)) else (none)))) else (none)) else (none)) else (some true)
def brindlewoodlaw4_RandomPrefixes.f (k : Nat) (a0_0 : Int) (a0_1 : Int) (a1 : Int) (a2 : Int) : Option (Bool) := (brindlewoodlaw4_draws.f k).bind fun t474 => (if t474 = true then (if (Int.tmod a0_1 2) = 0 then (some true) else (if a1 < 0 then (some true) else (if a1 > 1000 then (some true) else (if a2 < 0 then (some true) else (if a2 > a1 then (some true) else ((random_Bytes.f k a0_0 a0_1 a1).bind fun bt475 => ((random_Bytes.f k a0_0 a0_1 a2).bind fun bt484 => ((random_Sample.f k a0_0 a0_1 a1 a1).bind fun bt493 => ((random_Sample.f k a0_0 a0_1 a1 a2).bind fun bt502 => (if bt475.2.2.2.1 = 0 then (if bt484.2.2.2.1 = 0 then (if bt493.2.2.2.1 = 0 then (if bt502.2.2.2.1 = 0 then (if (bt475.1.length : Int) = a1 then (if (bt484.1.length : Int) = a2 then (if (bt493.1.length : Int) = a1 then (if (bt502.1.length : Int) = a2 then (if 0 ≤ a2 then (if a2 ≤ (bt475.1.length : Int) then ((brindlewoodref4_SameBytes.f (bt475.1.take (a2 : Int).toNat) bt484.1).bind fun t515 => (if t515 = true then (if a2 ≤ (bt493.1.length : Int) then ((brindlewoodref4_Numbers.f k (bt493.1.take (a2 : Int).toNat) bt502.1).bind fun t520 => (if t520 = true then (if 0 ≤ a1 then (if (a1 : Int).toNat ≤ 281474976710656 then (brindlewoodlaw4_RandomPrefixes.l0 k a1 bt493.1 (List.replicate (a1 : Int).toNat false) 0) else (none)) else (none)) else (none))) else (none)) else (none))) else (none)) else (none)) else (none)) else (none)) else (none)) else (none)) else (none)) else (none)) else (none)) else (none))))))))))) else (none))
theorem brindlewoodlaw4_RandomPrefixes.mono_l : ∀ k, (∀ y0 y1 y2 y3, LeO (brindlewoodlaw4_RandomPrefixes.l0 k y0 y1 y2 y3) (brindlewoodlaw4_RandomPrefixes.l0 (k + 1) y0 y1 y2 y3))
 | 0 => fun _ _ _ _ r h => by simp [brindlewoodlaw4_RandomPrefixes.l0] at h
 | k + 1 => by
  have ih0 := brindlewoodlaw4_RandomPrefixes.mono_l k
  ·intro y0 y1 y2 y3
   unfold brindlewoodlaw4_RandomPrefixes.l0
   repeat' first
   | (with_reducible exact ih0 _ _ _ _)
   | (with_reducible exact brindlewoodlaw4_draws.mono _)
   | (with_reducible exact brindlewoodref4_Numbers.mono _ _ _)
   | (with_reducible exact random_Bytes.mono _ _ _ _)
   | (with_reducible exact random_Sample.mono _ _ _ _ _)
   | (with_reducible exact LeO.refl _)
   | (with_reducible exact LeO.none _)
   | (with_reducible refine LeO.ite ?_ ?_)
   | (with_reducible refine LeO.bind ?_ (fun _ => ?_))
   | exact ih0 _ _ _ _
   | exact brindlewoodlaw4_draws.mono _
   | exact brindlewoodref4_Numbers.mono _ _ _
   | exact random_Bytes.mono _ _ _ _
   | exact random_Sample.mono _ _ _ _ _
   | exact LeO.none _
   | refine LeO.ite ?_ ?_
   | refine LeO.bind ?_ (fun _ => ?_)
theorem brindlewoodlaw4_RandomPrefixes.mono : ∀ a0 a1 a2 a3 k, LeO (brindlewoodlaw4_RandomPrefixes.f k a0 a1 a2 a3) (brindlewoodlaw4_RandomPrefixes.f (k + 1) a0 a1 a2 a3) := by
 intro a0 a1 a2 a3 k
 have ih0 := brindlewoodlaw4_RandomPrefixes.mono_l k
 unfold brindlewoodlaw4_RandomPrefixes.f
 repeat' first
   | (with_reducible exact ih0 _ _ _ _)
   | (with_reducible exact brindlewoodlaw4_draws.mono _)
   | (with_reducible exact brindlewoodref4_Numbers.mono _ _ _)
   | (with_reducible exact random_Bytes.mono _ _ _ _)
   | (with_reducible exact random_Sample.mono _ _ _ _ _)
   | (with_reducible exact LeO.refl _)
   | (with_reducible exact LeO.none _)
   | (with_reducible refine LeO.ite ?_ ?_)
   | (with_reducible refine LeO.bind ?_ (fun _ => ?_))
   | exact ih0 _ _ _ _
   | exact brindlewoodlaw4_draws.mono _
   | exact brindlewoodref4_Numbers.mono _ _ _
   | exact random_Bytes.mono _ _ _ _
   | exact random_Sample.mono _ _ _ _ _
   | exact LeO.none _
   | refine LeO.ite ?_ ?_
   | refine LeO.bind ?_ (fun _ => ?_)
set_option maxHeartbeats 60000000 in
set_option maxRecDepth 100000 in
theorem brindlewoodlaw4_RandomPrefixes.calls (k : Nat) (a0_0 : Int) (a0_1 : Int) (a1 : Int) (a2 : Int) (r : Bool) (w : World) (h : brindlewoodlaw4_RandomPrefixes.f k a0_0 a0_1 a1 a2 = some r) :
  Calls Try.prog 5 #[.agg #[.int .u64 a0_0, .int .u64 a0_1], .int .i64 a1, .int .i64 a2] w fun e w' => e = .returned (.bool r) ∧ Below w.heap.size w w' := by
 have hu27 := Try.underlying27
 have hu29 := Try.underlying29
 have HB := zM (Below.refl w.heap.size w)
 have H : ((brindlewoodlaw4_draws.f k).bind fun t474 => (if t474 = true then (if (Int.tmod a0_1 2) = 0 then (some true) else (if a1 < 0 then (some true) else (if a1 > 1000 then (some true) else (if a2 < 0 then (some true) else (if a2 > a1 then (some true) else ((random_Bytes.f k a0_0 a0_1 a1).bind fun bt475 => ((random_Bytes.f k a0_0 a0_1 a2).bind fun bt484 => ((random_Sample.f k a0_0 a0_1 a1 a1).bind fun bt493 => ((random_Sample.f k a0_0 a0_1 a1 a2).bind fun bt502 => (if bt475.2.2.2.1 = 0 then (if bt484.2.2.2.1 = 0 then (if bt493.2.2.2.1 = 0 then (if bt502.2.2.2.1 = 0 then (if (bt475.1.length : Int) = a1 then (if (bt484.1.length : Int) = a2 then (if (bt493.1.length : Int) = a1 then (if (bt502.1.length : Int) = a2 then (if 0 ≤ a2 then (if a2 ≤ (bt475.1.length : Int) then ((brindlewoodref4_SameBytes.f (bt475.1.take (a2 : Int).toNat) bt484.1).bind fun t515 => (if t515 = true then (if a2 ≤ (bt493.1.length : Int) then ((brindlewoodref4_Numbers.f k (bt493.1.take (a2 : Int).toNat) bt502.1).bind fun t520 => (if t520 = true then (if 0 ≤ a1 then (if (a1 : Int).toNat ≤ 281474976710656 then (brindlewoodlaw4_RandomPrefixes.l0 k a1 bt493.1 (List.replicate (a1 : Int).toNat false) 0) else (none)) else (none)) else (none))) else (none)) else (none))) else (none)) else (none)) else (none)) else (none)) else (none)) else (none)) else (none)) else (none)) else (none)) else (none))))))))))) else (none))) = some r := h
 clear h
 replace H := zB H
 obtain ⟨t474, A40, H⟩ := H
 replace H : (if t474 = true then (if (Int.tmod a0_1 2) = 0 then (some true) else (if a1 < 0 then (some true) else (if a1 > 1000 then (some true) else (if a2 < 0 then (some true) else (if a2 > a1 then (some true) else ((random_Bytes.f k a0_0 a0_1 a1).bind fun bt475 => ((random_Bytes.f k a0_0 a0_1 a2).bind fun bt484 => ((random_Sample.f k a0_0 a0_1 a1 a1).bind fun bt493 => ((random_Sample.f k a0_0 a0_1 a1 a2).bind fun bt502 => (if bt475.2.2.2.1 = 0 then (if bt484.2.2.2.1 = 0 then (if bt493.2.2.2.1 = 0 then (if bt502.2.2.2.1 = 0 then (if (bt475.1.length : Int) = a1 then (if (bt484.1.length : Int) = a2 then (if (bt493.1.length : Int) = a1 then (if (bt502.1.length : Int) = a2 then (if 0 ≤ a2 then (if a2 ≤ (bt475.1.length : Int) then ((brindlewoodref4_SameBytes.f (bt475.1.take (a2 : Int).toNat) bt484.1).bind fun t515 => (if t515 = true then (if a2 ≤ (bt493.1.length : Int) then ((brindlewoodref4_Numbers.f k (bt493.1.take (a2 : Int).toNat) bt502.1).bind fun t520 => (if t520 = true then (if 0 ≤ a1 then (if (a1 : Int).toNat ≤ 281474976710656 then (brindlewoodlaw4_RandomPrefixes.l0 k a1 bt493.1 (List.replicate (a1 : Int).toNat false) 0) else (none)) else (none)) else (none))) else (none)) else (none))) else (none)) else (none)) else (none)) else (none)) else (none)) else (none)) else (none)) else (none)) else (none)) else (none))))))))))) else (none)) = some r := H
 have A4 := zM A40
 clear A40
 by_cases c5 : t474 = true
 ·subst c5
  have H1 : (if (Int.tmod a0_1 2) = 0 then (some true) else (if a1 < 0 then (some true) else (if a1 > 1000 then (some true) else (if a2 < 0 then (some true) else (if a2 > a1 then (some true) else ((random_Bytes.f k a0_0 a0_1 a1).bind fun bt475 => ((random_Bytes.f k a0_0 a0_1 a2).bind fun bt484 => ((random_Sample.f k a0_0 a0_1 a1 a1).bind fun bt493 => ((random_Sample.f k a0_0 a0_1 a1 a2).bind fun bt502 => (if bt475.2.2.2.1 = 0 then (if bt484.2.2.2.1 = 0 then (if bt493.2.2.2.1 = 0 then (if bt502.2.2.2.1 = 0 then (if (bt475.1.length : Int) = a1 then (if (bt484.1.length : Int) = a2 then (if (bt493.1.length : Int) = a1 then (if (bt502.1.length : Int) = a2 then (if 0 ≤ a2 then (if a2 ≤ (bt475.1.length : Int) then ((brindlewoodref4_SameBytes.f (bt475.1.take (a2 : Int).toNat) bt484.1).bind fun t515 => (if t515 = true then (if a2 ≤ (bt493.1.length : Int) then ((brindlewoodref4_Numbers.f k (bt493.1.take (a2 : Int).toNat) bt502.1).bind fun t520 => (if t520 = true then (if 0 ≤ a1 then (if (a1 : Int).toNat ≤ 281474976710656 then (brindlewoodlaw4_RandomPrefixes.l0 k a1 bt493.1 (List.replicate (a1 : Int).toNat false) 0) else (none)) else (none)) else (none))) else (none)) else (none))) else (none)) else (none)) else (none)) else (none)) else (none)) else (none)) else (none)) else (none)) else (none)) else (none))))))))))) = some r := by rw [if_pos rfl] at H; exact H
  clear H
  have H := H1
  clear H1
  by_cases c6 : (Int.tmod a0_1 2) = 0
  ·rw [if_pos c6] at H
   have c6b0 : ((Int.tmod a0_1 2) == 0) = true := beq_iff_eq.mpr c6
   have c6b1 : ((Int.tmod a0_1 2) != 0) = false := bne_eq_false_iff_eq.mpr c6
   clear c6
   obtain rfl := Option.some.inj H
   go_enter Try.func5, Try.ntmps5
   go_wp2_with (first | ((with_reducible refine gate_dst (N := 3) rfl ?_); (try (refine gate_guard (by rfl) ?_; dsimp only)); refine box_event ?hg (N := 3) ?hd (cs := #[.int .u64 a0_0, .int .u64 a0_1]) (t := 27) ?hr ?_; (case hd => rfl); (case hg => rfl); (case hr => first | (go_simp; done) | (go_simp; rfl)); intro gb473 hg w7 hbox hb; have BK473 := zM (hbox); have GW473 := zM ((by rw [hg]; exact (below_size (HB.out)) : w.heap.size ≤ gb473)); have GE473 := GW473; replace HB := zM (below_step (HB.out) hb); clear hb hbox hg) | ((with_reducible refine gate_callee (f := 11) rfl ?_); refine goesL_ (some 21) rfl rfl Try.func11 (by kernel_rfl) rfl #[] rfl (by (try simp only [zT, zC, zN]); first | done | rfl | (simp only [zR, zL]; rfl)) ?_; (with_reducible refine (brindlewoodlaw4_draws.calls k  true _ A4.out).mono ?_); rintro e w8 ⟨rfl, hb⟩; refine ⟨_, rfl, ?_⟩; replace BK473 := pzb BK473 hb; replace HB := zM (below_step (by repeat (first | (with_reducible first | exact HB.out | apply pzA | apply pzD | apply pz1 | apply pzs | assumption) | exact HB.out)) hb); (try clear hb); (try clear hb2); (try clear hk); (try clear hi); have hcz9_0 := pzc (v := .int .u64 a0_0) BK473 0 rfl; have hcz9_1 := pzc (v := .int .u64 a0_1) BK473 1 rfl; have hfz9_0 := zF BK473.out 0; have hfz9_1 := zF BK473.out 1))
   go_ret
   exact ⟨by first | rfl | (simp [errW_none, errW_some] <;> rfl) | (simp [*, errW_none, errW_some] <;> rfl), by repeat (first | (with_reducible first | exact HB.out | apply pzA | apply pzD | apply pz1 | apply pzs | assumption) | exact HB.out)⟩
  ·rw [if_neg c6] at H
   have c6b0 : ((Int.tmod a0_1 2) == 0) = false := beq_eq_false_iff_ne.mpr c6
   have c6b1 : ((Int.tmod a0_1 2) != 0) = true := bne_iff_ne.mpr c6
   by_cases c10 : a1 < 0
   ·rw [if_pos c10] at H
    have c10b0 : decide (a1 < 0) = true := zE c10
    clear c10
    obtain rfl := Option.some.inj H
    go_enter Try.func5, Try.ntmps5
    go_wp2_with (first | ((with_reducible refine gate_dst (N := 3) rfl ?_); (try (refine gate_guard (by rfl) ?_; dsimp only)); refine box_event ?hg (N := 3) ?hd (cs := #[.int .u64 a0_0, .int .u64 a0_1]) (t := 27) ?hr ?_; (case hd => rfl); (case hg => rfl); (case hr => first | (go_simp; done) | (go_simp; rfl)); intro gb473 hg w11 hbox hb; have BK473 := zM (hbox); have GW473 := zM ((by rw [hg]; exact (below_size (HB.out)) : w.heap.size ≤ gb473)); have GE473 := GW473; replace HB := zM (below_step (HB.out) hb); clear hb hbox hg) | ((with_reducible refine gate_callee (f := 11) rfl ?_); refine goesL_ (some 21) rfl rfl Try.func11 (by kernel_rfl) rfl #[] rfl (by (try simp only [zT, zC, zN]); first | done | rfl | (simp only [zR, zL]; rfl)) ?_; (with_reducible refine (brindlewoodlaw4_draws.calls k  true _ A4.out).mono ?_); rintro e w12 ⟨rfl, hb⟩; refine ⟨_, rfl, ?_⟩; replace BK473 := pzb BK473 hb; replace HB := zM (below_step (by repeat (first | (with_reducible first | exact HB.out | apply pzA | apply pzD | apply pz1 | apply pzs | assumption) | exact HB.out)) hb); (try clear hb); (try clear hb2); (try clear hk); (try clear hi); have hcz13_0 := pzc (v := .int .u64 a0_0) BK473 0 rfl; have hcz13_1 := pzc (v := .int .u64 a0_1) BK473 1 rfl; have hfz13_0 := zF BK473.out 0; have hfz13_1 := zF BK473.out 1))
    go_ret
    exact ⟨by first | rfl | (simp [errW_none, errW_some] <;> rfl) | (simp [*, errW_none, errW_some] <;> rfl), by repeat (first | (with_reducible first | exact HB.out | apply pzA | apply pzD | apply pz1 | apply pzs | assumption) | exact HB.out)⟩
   ·rw [if_neg c10] at H
    have c10b0 : decide (a1 < 0) = false := decide_eq_false c10
    clear c10
    by_cases c14 : a1 > 1000
    ·rw [if_pos c14] at H
     have c14b0 : decide (1000 < a1) = true := zE c14
     clear c14
     obtain rfl := Option.some.inj H
     go_enter Try.func5, Try.ntmps5
     go_wp2_with (first | ((with_reducible refine gate_dst (N := 3) rfl ?_); (try (refine gate_guard (by rfl) ?_; dsimp only)); refine box_event ?hg (N := 3) ?hd (cs := #[.int .u64 a0_0, .int .u64 a0_1]) (t := 27) ?hr ?_; (case hd => rfl); (case hg => rfl); (case hr => first | (go_simp; done) | (go_simp; rfl)); intro gb473 hg w15 hbox hb; have BK473 := zM (hbox); have GW473 := zM ((by rw [hg]; exact (below_size (HB.out)) : w.heap.size ≤ gb473)); have GE473 := GW473; replace HB := zM (below_step (HB.out) hb); clear hb hbox hg) | ((with_reducible refine gate_callee (f := 11) rfl ?_); refine goesL_ (some 21) rfl rfl Try.func11 (by kernel_rfl) rfl #[] rfl (by (try simp only [zT, zC, zN]); first | done | rfl | (simp only [zR, zL]; rfl)) ?_; (with_reducible refine (brindlewoodlaw4_draws.calls k  true _ A4.out).mono ?_); rintro e w16 ⟨rfl, hb⟩; refine ⟨_, rfl, ?_⟩; replace BK473 := pzb BK473 hb; replace HB := zM (below_step (by repeat (first | (with_reducible first | exact HB.out | apply pzA | apply pzD | apply pz1 | apply pzs | assumption) | exact HB.out)) hb); (try clear hb); (try clear hb2); (try clear hk); (try clear hi); have hcz17_0 := pzc (v := .int .u64 a0_0) BK473 0 rfl; have hcz17_1 := pzc (v := .int .u64 a0_1) BK473 1 rfl; have hfz17_0 := zF BK473.out 0; have hfz17_1 := zF BK473.out 1))
     go_ret
     exact ⟨by first | rfl | (simp [errW_none, errW_some] <;> rfl) | (simp [*, errW_none, errW_some] <;> rfl), by repeat (first | (with_reducible first | exact HB.out | apply pzA | apply pzD | apply pz1 | apply pzs | assumption) | exact HB.out)⟩
    ·rw [if_neg c14] at H
     have c14b0 : decide (1000 < a1) = false := decide_eq_false c14
     clear c14
     by_cases c18 : a2 < 0
     ·rw [if_pos c18] at H
      have c18b0 : decide (a2 < 0) = true := zE c18
      clear c18
      obtain rfl := Option.some.inj H
      go_enter Try.func5, Try.ntmps5
      go_wp2_with (first | ((with_reducible refine gate_dst (N := 3) rfl ?_); (try (refine gate_guard (by rfl) ?_; dsimp only)); refine box_event ?hg (N := 3) ?hd (cs := #[.int .u64 a0_0, .int .u64 a0_1]) (t := 27) ?hr ?_; (case hd => rfl); (case hg => rfl); (case hr => first | (go_simp; done) | (go_simp; rfl)); intro gb473 hg w19 hbox hb; have BK473 := zM (hbox); have GW473 := zM ((by rw [hg]; exact (below_size (HB.out)) : w.heap.size ≤ gb473)); have GE473 := GW473; replace HB := zM (below_step (HB.out) hb); clear hb hbox hg) | ((with_reducible refine gate_callee (f := 11) rfl ?_); refine goesL_ (some 21) rfl rfl Try.func11 (by kernel_rfl) rfl #[] rfl (by (try simp only [zT, zC, zN]); first | done | rfl | (simp only [zR, zL]; rfl)) ?_; (with_reducible refine (brindlewoodlaw4_draws.calls k  true _ A4.out).mono ?_); rintro e w20 ⟨rfl, hb⟩; refine ⟨_, rfl, ?_⟩; replace BK473 := pzb BK473 hb; replace HB := zM (below_step (by repeat (first | (with_reducible first | exact HB.out | apply pzA | apply pzD | apply pz1 | apply pzs | assumption) | exact HB.out)) hb); (try clear hb); (try clear hb2); (try clear hk); (try clear hi); have hcz21_0 := pzc (v := .int .u64 a0_0) BK473 0 rfl; have hcz21_1 := pzc (v := .int .u64 a0_1) BK473 1 rfl; have hfz21_0 := zF BK473.out 0; have hfz21_1 := zF BK473.out 1))
      go_ret
      exact ⟨by first | rfl | (simp [errW_none, errW_some] <;> rfl) | (simp [*, errW_none, errW_some] <;> rfl), by repeat (first | (with_reducible first | exact HB.out | apply pzA | apply pzD | apply pz1 | apply pzs | assumption) | exact HB.out)⟩
     ·rw [if_neg c18] at H
      have c18b0 : decide (a2 < 0) = false := decide_eq_false c18
      clear c18
      by_cases c22 : a2 > a1
      ·rw [if_pos c22] at H
       have c22b0 : decide (a1 < a2) = true := zE c22
       clear c22
       obtain rfl := Option.some.inj H
       go_enter Try.func5, Try.ntmps5
       go_wp2_with (first | ((with_reducible refine gate_dst (N := 3) rfl ?_); (try (refine gate_guard (by rfl) ?_; dsimp only)); refine box_event ?hg (N := 3) ?hd (cs := #[.int .u64 a0_0, .int .u64 a0_1]) (t := 27) ?hr ?_; (case hd => rfl); (case hg => rfl); (case hr => first | (go_simp; done) | (go_simp; rfl)); intro gb473 hg w23 hbox hb; have BK473 := zM (hbox); have GW473 := zM ((by rw [hg]; exact (below_size (HB.out)) : w.heap.size ≤ gb473)); have GE473 := GW473; replace HB := zM (below_step (HB.out) hb); clear hb hbox hg) | ((with_reducible refine gate_callee (f := 11) rfl ?_); refine goesL_ (some 21) rfl rfl Try.func11 (by kernel_rfl) rfl #[] rfl (by (try simp only [zT, zC, zN]); first | done | rfl | (simp only [zR, zL]; rfl)) ?_; (with_reducible refine (brindlewoodlaw4_draws.calls k  true _ A4.out).mono ?_); rintro e w24 ⟨rfl, hb⟩; refine ⟨_, rfl, ?_⟩; replace BK473 := pzb BK473 hb; replace HB := zM (below_step (by repeat (first | (with_reducible first | exact HB.out | apply pzA | apply pzD | apply pz1 | apply pzs | assumption) | exact HB.out)) hb); (try clear hb); (try clear hb2); (try clear hk); (try clear hi); have hcz25_0 := pzc (v := .int .u64 a0_0) BK473 0 rfl; have hcz25_1 := pzc (v := .int .u64 a0_1) BK473 1 rfl; have hfz25_0 := zF BK473.out 0; have hfz25_1 := zF BK473.out 1))
       go_ret
       exact ⟨by first | rfl | (simp [errW_none, errW_some] <;> rfl) | (simp [*, errW_none, errW_some] <;> rfl), by repeat (first | (with_reducible first | exact HB.out | apply pzA | apply pzD | apply pz1 | apply pzs | assumption) | exact HB.out)⟩
      ·rw [if_neg c22] at H
       have c22b0 : decide (a1 < a2) = false := decide_eq_false c22
       clear c22
       replace H := zB H
       obtain ⟨⟨t475, t478, t479, t480, t481⟩, A260, H⟩ := H
       replace H : ((random_Bytes.f k a0_0 a0_1 a2).bind fun bt484 => ((random_Sample.f k a0_0 a0_1 a1 a1).bind fun bt493 => ((random_Sample.f k a0_0 a0_1 a1 a2).bind fun bt502 => (if t480 = 0 then (if bt484.2.2.2.1 = 0 then (if bt493.2.2.2.1 = 0 then (if bt502.2.2.2.1 = 0 then (if (t475.length : Int) = a1 then (if (bt484.1.length : Int) = a2 then (if (bt493.1.length : Int) = a1 then (if (bt502.1.length : Int) = a2 then (if 0 ≤ a2 then (if a2 ≤ (t475.length : Int) then ((brindlewoodref4_SameBytes.f (t475.take (a2 : Int).toNat) bt484.1).bind fun t515 => (if t515 = true then (if a2 ≤ (bt493.1.length : Int) then ((brindlewoodref4_Numbers.f k (bt493.1.take (a2 : Int).toNat) bt502.1).bind fun t520 => (if t520 = true then (if 0 ≤ a1 then (if (a1 : Int).toNat ≤ 281474976710656 then (brindlewoodlaw4_RandomPrefixes.l0 k a1 bt493.1 (List.replicate (a1 : Int).toNat false) 0) else (none)) else (none)) else (none))) else (none)) else (none))) else (none)) else (none)) else (none)) else (none)) else (none)) else (none)) else (none)) else (none)) else (none)) else (none))))) = some r := H
       have A26 := zM A260
       clear A260
       replace H := zB H
       obtain ⟨⟨t484, t487, t488, t489, t490⟩, A270, H⟩ := H
       replace H : ((random_Sample.f k a0_0 a0_1 a1 a1).bind fun bt493 => ((random_Sample.f k a0_0 a0_1 a1 a2).bind fun bt502 => (if t480 = 0 then (if t489 = 0 then (if bt493.2.2.2.1 = 0 then (if bt502.2.2.2.1 = 0 then (if (t475.length : Int) = a1 then (if (t484.length : Int) = a2 then (if (bt493.1.length : Int) = a1 then (if (bt502.1.length : Int) = a2 then (if 0 ≤ a2 then (if a2 ≤ (t475.length : Int) then ((brindlewoodref4_SameBytes.f (t475.take (a2 : Int).toNat) t484).bind fun t515 => (if t515 = true then (if a2 ≤ (bt493.1.length : Int) then ((brindlewoodref4_Numbers.f k (bt493.1.take (a2 : Int).toNat) bt502.1).bind fun t520 => (if t520 = true then (if 0 ≤ a1 then (if (a1 : Int).toNat ≤ 281474976710656 then (brindlewoodlaw4_RandomPrefixes.l0 k a1 bt493.1 (List.replicate (a1 : Int).toNat false) 0) else (none)) else (none)) else (none))) else (none)) else (none))) else (none)) else (none)) else (none)) else (none)) else (none)) else (none)) else (none)) else (none)) else (none)) else (none)))) = some r := H
       have A27 := zM A270
       clear A270
       replace H := zB H
       obtain ⟨⟨t493, t496, t497, t498, t499⟩, A280, H⟩ := H
       replace H : ((random_Sample.f k a0_0 a0_1 a1 a2).bind fun bt502 => (if t480 = 0 then (if t489 = 0 then (if t498 = 0 then (if bt502.2.2.2.1 = 0 then (if (t475.length : Int) = a1 then (if (t484.length : Int) = a2 then (if (t493.length : Int) = a1 then (if (bt502.1.length : Int) = a2 then (if 0 ≤ a2 then (if a2 ≤ (t475.length : Int) then ((brindlewoodref4_SameBytes.f (t475.take (a2 : Int).toNat) t484).bind fun t515 => (if t515 = true then (if a2 ≤ (t493.length : Int) then ((brindlewoodref4_Numbers.f k (t493.take (a2 : Int).toNat) bt502.1).bind fun t520 => (if t520 = true then (if 0 ≤ a1 then (if (a1 : Int).toNat ≤ 281474976710656 then (brindlewoodlaw4_RandomPrefixes.l0 k a1 t493 (List.replicate (a1 : Int).toNat false) 0) else (none)) else (none)) else (none))) else (none)) else (none))) else (none)) else (none)) else (none)) else (none)) else (none)) else (none)) else (none)) else (none)) else (none)) else (none))) = some r := H
       have A28 := zM A280
       clear A280
       replace H := zB H
       obtain ⟨⟨t502, t505, t506, t507, t508⟩, A290, H⟩ := H
       replace H : (if t480 = 0 then (if t489 = 0 then (if t498 = 0 then (if t507 = 0 then (if (t475.length : Int) = a1 then (if (t484.length : Int) = a2 then (if (t493.length : Int) = a1 then (if (t502.length : Int) = a2 then (if 0 ≤ a2 then (if a2 ≤ (t475.length : Int) then ((brindlewoodref4_SameBytes.f (t475.take (a2 : Int).toNat) t484).bind fun t515 => (if t515 = true then (if a2 ≤ (t493.length : Int) then ((brindlewoodref4_Numbers.f k (t493.take (a2 : Int).toNat) t502).bind fun t520 => (if t520 = true then (if 0 ≤ a1 then (if (a1 : Int).toNat ≤ 281474976710656 then (brindlewoodlaw4_RandomPrefixes.l0 k a1 t493 (List.replicate (a1 : Int).toNat false) 0) else (none)) else (none)) else (none))) else (none)) else (none))) else (none)) else (none)) else (none)) else (none)) else (none)) else (none)) else (none)) else (none)) else (none)) else (none)) = some r := H
       have A29 := zM A290
       clear A290
       by_cases c30 : t480 = 0
       ·rw [if_pos c30] at H
        have c30b0 : (t480 == 0) = true := beq_iff_eq.mpr c30
        have c30b1 : (t480 != 0) = false := bne_eq_false_iff_eq.mpr c30
        clear c30
        by_cases c31 : t489 = 0
        ·rw [if_pos c31] at H
         have c31b0 : (t489 == 0) = true := beq_iff_eq.mpr c31
         have c31b1 : (t489 != 0) = false := bne_eq_false_iff_eq.mpr c31
         clear c31
         by_cases c32 : t498 = 0
         ·rw [if_pos c32] at H
          have c32b0 : (t498 == 0) = true := beq_iff_eq.mpr c32
          have c32b1 : (t498 != 0) = false := bne_eq_false_iff_eq.mpr c32
          clear c32
          by_cases c33 : t507 = 0
          ·rw [if_pos c33] at H
           have c33b0 : (t507 == 0) = true := beq_iff_eq.mpr c33
           have c33b1 : (t507 != 0) = false := bne_eq_false_iff_eq.mpr c33
           clear c33
           by_cases c34 : (t475.length : Int) = a1
           ·rw [if_pos c34] at H
            have c34b0 : ((t475.length : Int) == a1) = true := beq_iff_eq.mpr c34
            have c34b1 : ((t475.length : Int) != a1) = false := bne_eq_false_iff_eq.mpr c34
            clear c34
            by_cases c35 : (t484.length : Int) = a2
            ·rw [if_pos c35] at H
             have c35b0 : ((t484.length : Int) == a2) = true := beq_iff_eq.mpr c35
             have c35b1 : ((t484.length : Int) != a2) = false := bne_eq_false_iff_eq.mpr c35
             clear c35
             by_cases c36 : (t493.length : Int) = a1
             ·rw [if_pos c36] at H
              have c36b0 : ((t493.length : Int) == a1) = true := beq_iff_eq.mpr c36
              have c36b1 : ((t493.length : Int) != a1) = false := bne_eq_false_iff_eq.mpr c36
              clear c36
              by_cases c37 : (t502.length : Int) = a2
              ·rw [if_pos c37] at H
               have c37b0 : ((t502.length : Int) == a2) = true := beq_iff_eq.mpr c37
               have c37b1 : ((t502.length : Int) != a2) = false := bne_eq_false_iff_eq.mpr c37
               clear c37
               by_cases c38 : 0 ≤ a2
               ·rw [if_pos c38] at H
                have c38b0 := eq_true c38
                have c38b1 : decide (0 ≤ a2) = true := zE c38
                clear c38
                by_cases c39 : a2 ≤ (t475.length : Int)
                ·rw [if_pos c39] at H
                 have c39b0 := eq_true c39
                 have c39b1 : decide (a2 ≤ (t475.length : Int)) = true := zE c39
                 clear c39
                 obtain ⟨y511, hy511⟩ : ∃ y_ : List Int, y_ = (t475.take (a2 : Int).toNat) := ⟨_, rfl⟩
                 replace H : ((brindlewoodref4_SameBytes.f y511 t484).bind fun t515 => (if t515 = true then (if a2 ≤ (t493.length : Int) then ((brindlewoodref4_Numbers.f k (t493.take (a2 : Int).toNat) t502).bind fun t520 => (if t520 = true then (if 0 ≤ a1 then (if (a1 : Int).toNat ≤ 281474976710656 then (brindlewoodlaw4_RandomPrefixes.l0 k a1 t493 (List.replicate (a1 : Int).toNat false) 0) else (none)) else (none)) else (none))) else (none)) else (none))) = some r := by first | (rw [hy511]; with_reducible exact H) | (have H2_ := (Option.bind_some _ _).symm.trans H; rw [hy511]; with_reducible exact H2_) | (have H2_ := (Option.bind_some _ _).symm.trans H; with_reducible exact H2_) | with_reducible exact H | (rw [hy511]; exact H) | exact H
                 have Ny511 := zM hy511
                 clear hy511
                 replace H := zB H
                 obtain ⟨t515, A400, H⟩ := H
                 replace H : (if t515 = true then (if a2 ≤ (t493.length : Int) then ((brindlewoodref4_Numbers.f k (t493.take (a2 : Int).toNat) t502).bind fun t520 => (if t520 = true then (if 0 ≤ a1 then (if (a1 : Int).toNat ≤ 281474976710656 then (brindlewoodlaw4_RandomPrefixes.l0 k a1 t493 (List.replicate (a1 : Int).toNat false) 0) else (none)) else (none)) else (none))) else (none)) else (none)) = some r := H
                 have A40 := zM A400
                 clear A400
                 by_cases c41 : t515 = true
                 ·subst c41
                  have H1 : (if a2 ≤ (t493.length : Int) then ((brindlewoodref4_Numbers.f k (t493.take (a2 : Int).toNat) t502).bind fun t520 => (if t520 = true then (if 0 ≤ a1 then (if (a1 : Int).toNat ≤ 281474976710656 then (brindlewoodlaw4_RandomPrefixes.l0 k a1 t493 (List.replicate (a1 : Int).toNat false) 0) else (none)) else (none)) else (none))) else (none)) = some r := by rw [if_pos rfl] at H; exact H
                  clear H
                  have H := H1
                  clear H1
                  have c42b0 := eq_true (zD (by first | (with_reducible assumption) | assumption) : 0 ≤ a2)
                  by_cases c43 : a2 ≤ (t493.length : Int)
                  ·rw [if_pos c43] at H
                   have c43b0 := eq_true c43
                   have c43b1 : decide (a2 ≤ (t493.length : Int)) = true := zE c43
                   clear c43
                   obtain ⟨y516, hy516⟩ : ∃ y_ : List Int, y_ = (t493.take (a2 : Int).toNat) := ⟨_, rfl⟩
                   replace H : ((brindlewoodref4_Numbers.f k y516 t502).bind fun t520 => (if t520 = true then (if 0 ≤ a1 then (if (a1 : Int).toNat ≤ 281474976710656 then (brindlewoodlaw4_RandomPrefixes.l0 k a1 t493 (List.replicate (a1 : Int).toNat false) 0) else (none)) else (none)) else (none))) = some r := by first | (rw [hy516]; with_reducible exact H) | (have H2_ := (Option.bind_some _ _).symm.trans H; rw [hy516]; with_reducible exact H2_) | (have H2_ := (Option.bind_some _ _).symm.trans H; with_reducible exact H2_) | with_reducible exact H | (rw [hy516]; exact H) | exact H
                   have Ny516 := zM hy516
                   clear hy516
                   replace H := zB H
                   obtain ⟨t520, A440, H⟩ := H
                   replace H : (if t520 = true then (if 0 ≤ a1 then (if (a1 : Int).toNat ≤ 281474976710656 then (brindlewoodlaw4_RandomPrefixes.l0 k a1 t493 (List.replicate (a1 : Int).toNat false) 0) else (none)) else (none)) else (none)) = some r := H
                   have A44 := zM A440
                   clear A440
                   by_cases c45 : t520 = true
                   ·subst c45
                    have H1 : (if 0 ≤ a1 then (if (a1 : Int).toNat ≤ 281474976710656 then (brindlewoodlaw4_RandomPrefixes.l0 k a1 t493 (List.replicate (a1 : Int).toNat false) 0) else (none)) else (none)) = some r := by rw [if_pos rfl] at H; exact H
                    clear H
                    have H := H1
                    clear H1
                    by_cases c46 : 0 ≤ a1
                    ·rw [if_pos c46] at H
                     have c46b0 := eq_true c46
                     have c46b1 : decide (0 ≤ a1) = true := zE c46
                     clear c46
                     by_cases c47 : (a1 : Int).toNat ≤ 281474976710656
                     ·rw [if_pos c47] at H
                      have c47b0 := eq_true c47
                      have c47b1 : decide ((a1 : Int).toNat ≤ 281474976710656) = true := zE c47
                      clear c47
                      obtain ⟨y521, hy521⟩ : ∃ y_ : List Bool, y_ = (List.replicate (a1 : Int).toNat false) := ⟨_, rfl⟩
                      replace H : (brindlewoodlaw4_RandomPrefixes.l0 k a1 t493 y521 0) = some r := by first | (rw [hy521]; with_reducible exact H) | (have H2_ := (Option.bind_some _ _).symm.trans H; rw [hy521]; with_reducible exact H2_) | (have H2_ := (Option.bind_some _ _).symm.trans H; with_reducible exact H2_) | with_reducible exact H | (rw [hy521]; exact H) | exact H
                      have Ny521 := zM hy521
                      clear hy521
                      have H' := zM H
                      clear H
                      go_enter Try.func5, Try.ntmps5
                      go_wp2_with (first | ((with_reducible refine gate_dst (N := 3) rfl ?_); (try (refine gate_guard (by rfl) ?_; dsimp only)); refine box_event ?hg (N := 3) ?hd (cs := #[.int .u64 a0_0, .int .u64 a0_1]) (t := 27) ?hr ?_; (case hd => rfl); (case hg => rfl); (case hr => first | (go_simp; done) | (go_simp; rfl)); intro gb473 hg w48 hbox hb; have BK473 := zM (hbox); have GW473 := zM ((by rw [hg]; exact (below_size (HB.out)) : w.heap.size ≤ gb473)); have GE473 := GW473; replace HB := zM (below_step (HB.out) hb); clear hb hbox hg) | ((with_reducible refine gate_callee (f := 11) rfl ?_); refine goesL_ (some 21) rfl rfl Try.func11 (by kernel_rfl) rfl #[] rfl (by (try simp only [zT, zC, zN]); first | done | rfl | (simp only [zR, zL]; rfl)) ?_; (with_reducible refine (brindlewoodlaw4_draws.calls k  true _ A4.out).mono ?_); rintro e w49 ⟨rfl, hb⟩; refine ⟨_, rfl, ?_⟩; replace BK473 := pzb BK473 hb; replace HB := zM (below_step (by repeat (first | (with_reducible first | exact HB.out | apply pzA | apply pzD | apply pz1 | apply pzs | assumption) | exact HB.out)) hb); (try clear hb); (try clear hb2); (try clear hk); (try clear hi); have hcz50_0 := pzc (v := .int .u64 a0_0) BK473 0 rfl; have hcz50_1 := pzc (v := .int .u64 a0_1) BK473 1 rfl; have hfz50_0 := zF BK473.out 0; have hfz50_1 := zF BK473.out 1) | ((with_reducible refine gate_callee (f := 27) rfl ?_); refine goesL_ (some 47) rfl rfl Try.func27 (by kernel_rfl) rfl #[.agg #[.int .u64 a0_0, .int .u64 a0_1], .int .i64 a1] rfl (by (try simp only [zT, zC, zN]); first | done | rfl | (simp only [zR, zL]; rfl)) ?_; (with_reducible refine (random_Bytes.calls k a0_0 a0_1 a1 t475 t478 t479 t480 t481 _ A26.out).mono ?_); rintro e w51 ⟨v476, rfl, ho0, hb⟩; refine ⟨_, rfl, ?_⟩; have HO477 := zM (Kd.R_lower ho0 (below_size (by repeat (first | (with_reducible first | exact HB.out | apply pzA | apply pzD | apply pz1 | apply pzs | assumption) | exact HB.out)))); replace BK473 := pzb BK473 hb; replace HB := zM (below_step (by repeat (first | (with_reducible first | exact HB.out | apply pzA | apply pzD | apply pz1 | apply pzs | assumption) | exact HB.out)) hb); (try clear hb); (try clear hb2); (try clear hk); (try clear hi); (try clear ho0)) | ((with_reducible refine gate_dst (N := 8) rfl ?_); (try (refine gate_guard (by rfl) ?_; dsimp only)); refine box_event ?hg (N := 8) ?hd (cs := #[.int .u64 0, .int .u64 0]) (t := 27) ?hr ?_; (case hd => rfl); (case hg => rfl); (case hr => first | (go_simp; done) | (go_simp; rfl)); intro gb482 hg w52 hbox hb; have BK482 := zM (hbox); have GW482 := zM ((by rw [hg]; exact (below_size (by repeat (first | (with_reducible first | exact HB.out | apply pzA | apply pzD | apply pz1 | apply pzs | assumption) | exact HB.out))) : w.heap.size ≤ gb482)); have GE482 := GW482; have NB473_482 := pzf BK473 hg; have NB482_473 := pzg BK473 hg; replace HO477 := zM (Kd.R_below (by (with_reducible repeat (first | apply Kd.R_alloc | apply Kd.R_drewN | apply Kd.R_drew)); exact HO477.out) hb); replace BK473 := pzb BK473 hb; replace HB := zM (below_step (by repeat (first | (with_reducible first | exact HB.out | apply pzA | apply pzD | apply pz1 | apply pzs | assumption) | exact HB.out)) hb); clear hb hbox hg) | ((with_reducible refine gate_dst (N := 9) rfl ?_); (try (refine gate_guard (by rfl) ?_; dsimp only)); refine box_event ?hg (N := 9) ?hd (cs := #[.int .i64 0, .int .i64 0]) (t := 29) ?hr ?_; (case hd => rfl); (case hg => rfl); (case hr => first | (go_simp; done) | (go_simp; rfl)); intro gb483 hg w53 hbox hb; have BK483 := zM (hbox); have GW483 := zM ((by rw [hg]; exact (below_size (by repeat (first | (with_reducible first | exact HB.out | apply pzA | apply pzD | apply pz1 | apply pzs | assumption) | exact HB.out))) : w.heap.size ≤ gb483)); have GE483 := GW483; have NB473_483 := pzf BK473 hg; have NB483_473 := pzg BK473 hg; have NB482_483 := pzf BK482 hg; have NB483_482 := pzg BK482 hg; replace HO477 := zM (Kd.R_below (by (with_reducible repeat (first | apply Kd.R_alloc | apply Kd.R_drewN | apply Kd.R_drew)); exact HO477.out) hb); replace BK473 := pzb BK473 hb; replace BK482 := pzb BK482 hb; replace HB := zM (below_step (by repeat (first | (with_reducible first | exact HB.out | apply pzA | apply pzD | apply pz1 | apply pzs | assumption) | exact HB.out)) hb); clear hb hbox hg; have hnb54 := NB482_473.out; have hnc54 := NB473_482.out; have hnb55 := NB482_483.out; have hnc55 := NB483_482.out; have hcz56_0 := pzc (v := .int .u64 0) BK482 0 rfl; have hcz56_1 := pzc (v := .int .u64 0) BK482 1 rfl; have hfz56_0 := zF BK482.out 0; have hfz56_1 := zF BK482.out 1; have hnb57 := NB483_473.out; have hnc57 := NB473_483.out; have hcz58_0 := pzc (v := .int .i64 0) BK483 0 rfl; have hcz58_1 := pzc (v := .int .i64 0) BK483 1 rfl; have hfz58_0 := zF BK483.out 0; have hfz58_1 := zF BK483.out 1; have hcz59_0 := pzc (v := .int .u64 a0_0) BK473 0 rfl; have hcz59_1 := pzc (v := .int .u64 a0_1) BK473 1 rfl; have hfz59_0 := zF BK473.out 0; have hfz59_1 := zF BK473.out 1) | ((with_reducible refine gate_callee (f := 27) rfl ?_); refine goesL_ (some 54) rfl rfl Try.func27 (by kernel_rfl) rfl #[.agg #[.int .u64 a0_0, .int .u64 a0_1], .int .i64 a2] rfl (by (try simp only [zT, zC, zN]); first | done | rfl | (simp only [zR, zL]; rfl)) ?_; (with_reducible refine (random_Bytes.calls k a0_0 a0_1 a2 t484 t487 t488 t489 t490 _ A27.out).mono ?_); rintro e w60 ⟨v485, rfl, ho0, hb⟩; refine ⟨_, rfl, ?_⟩; have HO486 := zM (Kd.R_lower (Kd.R_new' ho0 (Kd.R_lt (by (with_reducible repeat (first | apply Kd.R_alloc | apply Kd.R_drewN | apply Kd.R_drew)); exact (Kd.R_mono (Kd.R_mono (Kd.R_far (p := ⟨gb483, 1, none⟩) (Kd.R_far (p := ⟨gb483, 0, none⟩) (Kd.R_far (p := ⟨gb482, 1, none⟩) (Kd.R_far (p := ⟨gb482, 0, none⟩) (Kd.R_types (Kd.R_types HO477.out BK482.out (by decide)) BK483.out (by decide)) (fun _ hk => hk.1.2) (.int .u64 t478)) (fun _ hk => hk.1.2) (.int .u64 t479)) (fun _ hk => hk.2) (.int .i64 t480)) (fun _ hk => hk.2) (.int .i64 t481)) (fun _ h_ => h_.1)) (fun _ h_ => h_.1))))) (below_size (by repeat (first | (with_reducible first | exact HB.out | apply pzA | apply pzD | apply pz1 | apply pzs | assumption) | exact HB.out)))); replace HO477 := zM (Kd.R_elder' (by (with_reducible repeat (first | apply Kd.R_alloc | apply Kd.R_drewN | apply Kd.R_drew)); exact (Kd.R_mono (Kd.R_mono (Kd.R_far (p := ⟨gb483, 1, none⟩) (Kd.R_far (p := ⟨gb483, 0, none⟩) (Kd.R_far (p := ⟨gb482, 1, none⟩) (Kd.R_far (p := ⟨gb482, 0, none⟩) (Kd.R_types (Kd.R_types HO477.out BK482.out (by decide)) BK483.out (by decide)) (fun _ hk => hk.1.2) (.int .u64 t478)) (fun _ hk => hk.1.2) (.int .u64 t479)) (fun _ hk => hk.2) (.int .i64 t480)) (fun _ hk => hk.2) (.int .i64 t481)) (fun _ h_ => h_.1)) (fun _ h_ => h_.1))) (Kd.R_base ho0) hb); replace BK473 := zM (blk_below (g := gb473) (o := .cells #[.int .u64 a0_0, .int .u64 a0_1] 27 (0, 0)) (by (with_reducible repeat (first | apply pzN | apply pzd | apply pza)); refine blk_far ?_ NB473_483.out _; (with_reducible repeat (first | apply pzN | apply pzd | apply pza)); refine blk_far ?_ NB473_483.out _; (with_reducible repeat (first | apply pzN | apply pzd | apply pza)); refine blk_far ?_ NB473_482.out _; (with_reducible repeat (first | apply pzN | apply pzd | apply pza)); refine blk_far ?_ NB473_482.out _; (with_reducible repeat (first | apply pzN | apply pzd | apply pza)); exact BK473.out) hb); replace BK482 := zM (blk_below (g := gb482) (o := .cells #[.int .u64 t478, .int .u64 t479] 27 (0, 0)) (by (with_reducible repeat (first | apply pzN | apply pzd | apply pza)); refine blk_far ?_ NB482_483.out _; (with_reducible repeat (first | apply pzN | apply pzd | apply pza)); refine blk_far ?_ NB482_483.out _; (with_reducible repeat (first | apply pzN | apply pzd | apply pza)); refine blk_put (cs := #[.int .u64 t478, .int .u64 0]) ?_ 1 _ rfl; (with_reducible repeat (first | apply pzN | apply pzd | apply pza)); refine blk_put (cs := #[.int .u64 0, .int .u64 0]) ?_ 0 _ rfl; (with_reducible repeat (first | apply pzN | apply pzd | apply pza)); exact BK482.out) hb); replace BK483 := zM (blk_below (g := gb483) (o := .cells #[.int .i64 t480, .int .i64 t481] 29 (0, 0)) (by (with_reducible repeat (first | apply pzN | apply pzd | apply pza)); refine blk_put (cs := #[.int .i64 t480, .int .i64 0]) ?_ 1 _ rfl; (with_reducible repeat (first | apply pzN | apply pzd | apply pza)); refine blk_put (cs := #[.int .i64 0, .int .i64 0]) ?_ 0 _ rfl; (with_reducible repeat (first | apply pzN | apply pzd | apply pza)); refine blk_far ?_ NB483_482.out _; (with_reducible repeat (first | apply pzN | apply pzd | apply pza)); refine blk_far ?_ NB483_482.out _; (with_reducible repeat (first | apply pzN | apply pzd | apply pza)); exact BK483.out) hb); replace HB := zM (below_step (by repeat (first | (with_reducible first | exact HB.out | apply pzA | apply pzD | apply pz1 | apply pzs | assumption) | exact HB.out)) hb); (try clear hb); (try clear hb2); (try clear hk); (try clear hi); (try clear ho0)) | ((with_reducible refine gate_dst (N := 11) rfl ?_); (try (refine gate_guard (by rfl) ?_; dsimp only)); refine box_event ?hg (N := 11) ?hd (cs := #[.int .u64 0, .int .u64 0]) (t := 27) ?hr ?_; (case hd => rfl); (case hg => rfl); (case hr => first | (go_simp; done) | (go_simp; rfl)); intro gb491 hg w61 hbox hb; have BK491 := zM (hbox); have GW491 := zM ((by rw [hg]; exact (below_size (by repeat (first | (with_reducible first | exact HB.out | apply pzA | apply pzD | apply pz1 | apply pzs | assumption) | exact HB.out))) : w.heap.size ≤ gb491)); have GE491 := GW491; have NB473_491 := pzf BK473 hg; have NB491_473 := pzg BK473 hg; have NB482_491 := pzf BK482 hg; have NB491_482 := pzg BK482 hg; have NB483_491 := pzf BK483 hg; have NB491_483 := pzg BK483 hg; replace HO477 := zM (Kd.R_below (by (with_reducible repeat (first | apply Kd.R_alloc | apply Kd.R_drewN | apply Kd.R_drew)); exact HO477.out) hb); replace HO486 := zM (Kd.R_below (by (with_reducible repeat (first | apply Kd.R_alloc | apply Kd.R_drewN | apply Kd.R_drew)); exact HO486.out) hb); replace BK473 := pzb BK473 hb; replace BK482 := pzb BK482 hb; replace BK483 := pzb BK483 hb; replace HB := zM (below_step (by repeat (first | (with_reducible first | exact HB.out | apply pzA | apply pzD | apply pz1 | apply pzs | assumption) | exact HB.out)) hb); clear hb hbox hg) | ((with_reducible refine gate_dst (N := 12) rfl ?_); (try (refine gate_guard (by rfl) ?_; dsimp only)); refine box_event ?hg (N := 12) ?hd (cs := #[.int .i64 0, .int .i64 0]) (t := 29) ?hr ?_; (case hd => rfl); (case hg => rfl); (case hr => first | (go_simp; done) | (go_simp; rfl)); intro gb492 hg w62 hbox hb; have BK492 := zM (hbox); have GW492 := zM ((by rw [hg]; exact (below_size (by repeat (first | (with_reducible first | exact HB.out | apply pzA | apply pzD | apply pz1 | apply pzs | assumption) | exact HB.out))) : w.heap.size ≤ gb492)); have GE492 := GW492; have NB473_492 := pzf BK473 hg; have NB492_473 := pzg BK473 hg; have NB482_492 := pzf BK482 hg; have NB492_482 := pzg BK482 hg; have NB483_492 := pzf BK483 hg; have NB492_483 := pzg BK483 hg; have NB491_492 := pzf BK491 hg; have NB492_491 := pzg BK491 hg; replace HO477 := zM (Kd.R_below (by (with_reducible repeat (first | apply Kd.R_alloc | apply Kd.R_drewN | apply Kd.R_drew)); exact HO477.out) hb); replace HO486 := zM (Kd.R_below (by (with_reducible repeat (first | apply Kd.R_alloc | apply Kd.R_drewN | apply Kd.R_drew)); exact HO486.out) hb); replace BK473 := pzb BK473 hb; replace BK482 := pzb BK482 hb; replace BK483 := pzb BK483 hb; replace BK491 := pzb BK491 hb; replace HB := zM (below_step (by repeat (first | (with_reducible first | exact HB.out | apply pzA | apply pzD | apply pz1 | apply pzs | assumption) | exact HB.out)) hb); clear hb hbox hg; have hnb63 := NB491_473.out; have hnc63 := NB473_491.out; have hnb64 := NB491_482.out; have hnc64 := NB482_491.out; have hnb65 := NB491_483.out; have hnc65 := NB483_491.out; have hnb66 := NB491_492.out; have hnc66 := NB492_491.out; have hcz67_0 := pzc (v := .int .u64 0) BK491 0 rfl; have hcz67_1 := pzc (v := .int .u64 0) BK491 1 rfl; have hfz67_0 := zF BK491.out 0; have hfz67_1 := zF BK491.out 1; have hnb68 := NB492_473.out; have hnc68 := NB473_492.out; have hnb69 := NB492_482.out; have hnc69 := NB482_492.out; have hnb70 := NB492_483.out; have hnc70 := NB483_492.out; have hcz71_0 := pzc (v := .int .i64 0) BK492 0 rfl; have hcz71_1 := pzc (v := .int .i64 0) BK492 1 rfl; have hfz71_0 := zF BK492.out 0; have hfz71_1 := zF BK492.out 1; have hcz72_0 := pzc (v := .int .u64 a0_0) BK473 0 rfl; have hcz72_1 := pzc (v := .int .u64 a0_1) BK473 1 rfl; have hfz72_0 := zF BK473.out 0; have hfz72_1 := zF BK473.out 1) | ((with_reducible refine gate_callee (f := 28) rfl ?_); refine goesL_ (some 62) rfl rfl Try.func28 (by kernel_rfl) rfl #[.agg #[.int .u64 a0_0, .int .u64 a0_1], .int .i64 a1, .int .i64 a1] rfl (by (try simp only [zT, zC, zN]); first | done | rfl | (simp only [zR, zL]; rfl)) ?_; (with_reducible refine (random_Sample.calls k a0_0 a0_1 a1 a1 t493 t496 t497 t498 t499 _ A28.out).mono ?_); rintro e w73 ⟨v494, rfl, ho0, hb⟩; refine ⟨_, rfl, ?_⟩; have HO495 := zM (Kd.R_lower ho0 (below_size (by repeat (first | (with_reducible first | exact HB.out | apply pzA | apply pzD | apply pz1 | apply pzs | assumption) | exact HB.out)))); replace HO477 := zM (Kd.R_below (by (with_reducible repeat (first | apply Kd.R_alloc | apply Kd.R_drewN | apply Kd.R_drew)); exact (Kd.R_mono (Kd.R_mono (Kd.R_far (p := ⟨gb492, 1, none⟩) (Kd.R_far (p := ⟨gb492, 0, none⟩) (Kd.R_far (p := ⟨gb491, 1, none⟩) (Kd.R_far (p := ⟨gb491, 0, none⟩) (Kd.R_types (Kd.R_types HO477.out BK491.out (by decide)) BK492.out (by decide)) (fun _ hk => hk.1.2) (.int .u64 t487)) (fun _ hk => hk.1.2) (.int .u64 t488)) (fun _ hk => hk.2) (.int .i64 t489)) (fun _ hk => hk.2) (.int .i64 t490)) (fun _ h_ => h_.1)) (fun _ h_ => h_.1))) hb); replace HO486 := zM (Kd.R_below (by (with_reducible repeat (first | apply Kd.R_alloc | apply Kd.R_drewN | apply Kd.R_drew)); exact (Kd.R_mono (Kd.R_mono (Kd.R_far (p := ⟨gb492, 1, none⟩) (Kd.R_far (p := ⟨gb492, 0, none⟩) (Kd.R_far (p := ⟨gb491, 1, none⟩) (Kd.R_far (p := ⟨gb491, 0, none⟩) (Kd.R_types (Kd.R_types HO486.out BK491.out (by decide)) BK492.out (by decide)) (fun _ hk => hk.1.2) (.int .u64 t487)) (fun _ hk => hk.1.2) (.int .u64 t488)) (fun _ hk => hk.2) (.int .i64 t489)) (fun _ hk => hk.2) (.int .i64 t490)) (fun _ h_ => h_.1)) (fun _ h_ => h_.1))) hb); replace BK473 := zM (blk_below (g := gb473) (o := .cells #[.int .u64 a0_0, .int .u64 a0_1] 27 (0, 0)) (by (with_reducible repeat (first | apply pzN | apply pzd | apply pza)); refine blk_far ?_ NB473_492.out _; (with_reducible repeat (first | apply pzN | apply pzd | apply pza)); refine blk_far ?_ NB473_492.out _; (with_reducible repeat (first | apply pzN | apply pzd | apply pza)); refine blk_far ?_ NB473_491.out _; (with_reducible repeat (first | apply pzN | apply pzd | apply pza)); refine blk_far ?_ NB473_491.out _; (with_reducible repeat (first | apply pzN | apply pzd | apply pza)); exact BK473.out) hb); replace BK482 := zM (blk_below (g := gb482) (o := .cells #[.int .u64 t478, .int .u64 t479] 27 (0, 0)) (by (with_reducible repeat (first | apply pzN | apply pzd | apply pza)); refine blk_far ?_ NB482_492.out _; (with_reducible repeat (first | apply pzN | apply pzd | apply pza)); refine blk_far ?_ NB482_492.out _; (with_reducible repeat (first | apply pzN | apply pzd | apply pza)); refine blk_far ?_ NB482_491.out _; (with_reducible repeat (first | apply pzN | apply pzd | apply pza)); refine blk_far ?_ NB482_491.out _; (with_reducible repeat (first | apply pzN | apply pzd | apply pza)); exact BK482.out) hb); replace BK483 := zM (blk_below (g := gb483) (o := .cells #[.int .i64 t480, .int .i64 t481] 29 (0, 0)) (by (with_reducible repeat (first | apply pzN | apply pzd | apply pza)); refine blk_far ?_ NB483_492.out _; (with_reducible repeat (first | apply pzN | apply pzd | apply pza)); refine blk_far ?_ NB483_492.out _; (with_reducible repeat (first | apply pzN | apply pzd | apply pza)); refine blk_far ?_ NB483_491.out _; (with_reducible repeat (first | apply pzN | apply pzd | apply pza)); refine blk_far ?_ NB483_491.out _; (with_reducible repeat (first | apply pzN | apply pzd | apply pza)); exact BK483.out) hb); replace BK491 := zM (blk_below (g := gb491) (o := .cells #[.int .u64 t487, .int .u64 t488] 27 (0, 0)) (by (with_reducible repeat (first | apply pzN | apply pzd | apply pza)); refine blk_far ?_ NB491_492.out _; (with_reducible repeat (first | apply pzN | apply pzd | apply pza)); refine blk_far ?_ NB491_492.out _; (with_reducible repeat (first | apply pzN | apply pzd | apply pza)); refine blk_put (cs := #[.int .u64 t487, .int .u64 0]) ?_ 1 _ rfl; (with_reducible repeat (first | apply pzN | apply pzd | apply pza)); refine blk_put (cs := #[.int .u64 0, .int .u64 0]) ?_ 0 _ rfl; (with_reducible repeat (first | apply pzN | apply pzd | apply pza)); exact BK491.out) hb); replace BK492 := zM (blk_below (g := gb492) (o := .cells #[.int .i64 t489, .int .i64 t490] 29 (0, 0)) (by (with_reducible repeat (first | apply pzN | apply pzd | apply pza)); refine blk_put (cs := #[.int .i64 t489, .int .i64 0]) ?_ 1 _ rfl; (with_reducible repeat (first | apply pzN | apply pzd | apply pza)); refine blk_put (cs := #[.int .i64 0, .int .i64 0]) ?_ 0 _ rfl; (with_reducible repeat (first | apply pzN | apply pzd | apply pza)); refine blk_far ?_ NB492_491.out _; (with_reducible repeat (first | apply pzN | apply pzd | apply pza)); refine blk_far ?_ NB492_491.out _; (with_reducible repeat (first | apply pzN | apply pzd | apply pza)); exact BK492.out) hb); replace HB := zM (below_step (by repeat (first | (with_reducible first | exact HB.out | apply pzA | apply pzD | apply pz1 | apply pzs | assumption) | exact HB.out)) hb); (try clear hb); (try clear hb2); (try clear hk); (try clear hi); (try clear ho0)) | ((with_reducible refine gate_dst (N := 14) rfl ?_); (try (refine gate_guard (by rfl) ?_; dsimp only)); refine box_event ?hg (N := 14) ?hd (cs := #[.int .u64 0, .int .u64 0]) (t := 27) ?hr ?_; (case hd => rfl); (case hg => rfl); (case hr => first | (go_simp; done) | (go_simp; rfl)); intro gb500 hg w74 hbox hb; have BK500 := zM (hbox); have GW500 := zM ((by rw [hg]; exact (below_size (by repeat (first | (with_reducible first | exact HB.out | apply pzA | apply pzD | apply pz1 | apply pzs | assumption) | exact HB.out))) : w.heap.size ≤ gb500)); have GE500 := GW500; have NB473_500 := pzf BK473 hg; have NB500_473 := pzg BK473 hg; have NB482_500 := pzf BK482 hg; have NB500_482 := pzg BK482 hg; have NB483_500 := pzf BK483 hg; have NB500_483 := pzg BK483 hg; have NB491_500 := pzf BK491 hg; have NB500_491 := pzg BK491 hg; have NB492_500 := pzf BK492 hg; have NB500_492 := pzg BK492 hg; replace HO477 := zM (Kd.R_below (by (with_reducible repeat (first | apply Kd.R_alloc | apply Kd.R_drewN | apply Kd.R_drew)); exact HO477.out) hb); replace HO486 := zM (Kd.R_below (by (with_reducible repeat (first | apply Kd.R_alloc | apply Kd.R_drewN | apply Kd.R_drew)); exact HO486.out) hb); replace HO495 := zM (Kd.R_below (by (with_reducible repeat (first | apply Kd.R_alloc | apply Kd.R_drewN | apply Kd.R_drew)); exact HO495.out) hb); replace BK473 := pzb BK473 hb; replace BK482 := pzb BK482 hb; replace BK483 := pzb BK483 hb; replace BK491 := pzb BK491 hb; replace BK492 := pzb BK492 hb; replace HB := zM (below_step (by repeat (first | (with_reducible first | exact HB.out | apply pzA | apply pzD | apply pz1 | apply pzs | assumption) | exact HB.out)) hb); clear hb hbox hg) | ((with_reducible refine gate_dst (N := 15) rfl ?_); (try (refine gate_guard (by rfl) ?_; dsimp only)); refine box_event ?hg (N := 15) ?hd (cs := #[.int .i64 0, .int .i64 0]) (t := 29) ?hr ?_; (case hd => rfl); (case hg => rfl); (case hr => first | (go_simp; done) | (go_simp; rfl)); intro gb501 hg w75 hbox hb; have BK501 := zM (hbox); have GW501 := zM ((by rw [hg]; exact (below_size (by repeat (first | (with_reducible first | exact HB.out | apply pzA | apply pzD | apply pz1 | apply pzs | assumption) | exact HB.out))) : w.heap.size ≤ gb501)); have GE501 := GW501; have NB473_501 := pzf BK473 hg; have NB501_473 := pzg BK473 hg; have NB482_501 := pzf BK482 hg; have NB501_482 := pzg BK482 hg; have NB483_501 := pzf BK483 hg; have NB501_483 := pzg BK483 hg; have NB491_501 := pzf BK491 hg; have NB501_491 := pzg BK491 hg; have NB492_501 := pzf BK492 hg; have NB501_492 := pzg BK492 hg; have NB500_501 := pzf BK500 hg; have NB501_500 := pzg BK500 hg; replace HO477 := zM (Kd.R_below (by (with_reducible repeat (first | apply Kd.R_alloc | apply Kd.R_drewN | apply Kd.R_drew)); exact HO477.out) hb); replace HO486 := zM (Kd.R_below (by (with_reducible repeat (first | apply Kd.R_alloc | apply Kd.R_drewN | apply Kd.R_drew)); exact HO486.out) hb); replace HO495 := zM (Kd.R_below (by (with_reducible repeat (first | apply Kd.R_alloc | apply Kd.R_drewN | apply Kd.R_drew)); exact HO495.out) hb); replace BK473 := pzb BK473 hb; replace BK482 := pzb BK482 hb; replace BK483 := pzb BK483 hb; replace BK491 := pzb BK491 hb; replace BK492 := pzb BK492 hb; replace BK500 := pzb BK500 hb; replace HB := zM (below_step (by repeat (first | (with_reducible first | exact HB.out | apply pzA | apply pzD | apply pz1 | apply pzs | assumption) | exact HB.out)) hb); clear hb hbox hg; have hnb76 := NB500_473.out; have hnc76 := NB473_500.out; have hnb77 := NB500_482.out; have hnc77 := NB482_500.out; have hnb78 := NB500_483.out; have hnc78 := NB483_500.out; have hnb79 := NB500_491.out; have hnc79 := NB491_500.out; have hnb80 := NB500_492.out; have hnc80 := NB492_500.out; have hnb81 := NB500_501.out; have hnc81 := NB501_500.out; have hcz82_0 := pzc (v := .int .u64 0) BK500 0 rfl; have hcz82_1 := pzc (v := .int .u64 0) BK500 1 rfl; have hfz82_0 := zF BK500.out 0; have hfz82_1 := zF BK500.out 1; have hnb83 := NB501_473.out; have hnc83 := NB473_501.out; have hnb84 := NB501_482.out; have hnc84 := NB482_501.out; have hnb85 := NB501_483.out; have hnc85 := NB483_501.out; have hnb86 := NB501_491.out; have hnc86 := NB491_501.out; have hnb87 := NB501_492.out; have hnc87 := NB492_501.out; have hcz88_0 := pzc (v := .int .i64 0) BK501 0 rfl; have hcz88_1 := pzc (v := .int .i64 0) BK501 1 rfl; have hfz88_0 := zF BK501.out 0; have hfz88_1 := zF BK501.out 1; have hcz89_0 := pzc (v := .int .u64 a0_0) BK473 0 rfl; have hcz89_1 := pzc (v := .int .u64 a0_1) BK473 1 rfl; have hfz89_0 := zF BK473.out 0; have hfz89_1 := zF BK473.out 1) | ((with_reducible refine gate_callee (f := 28) rfl ?_); refine goesL_ (some 70) rfl rfl Try.func28 (by kernel_rfl) rfl #[.agg #[.int .u64 a0_0, .int .u64 a0_1], .int .i64 a1, .int .i64 a2] rfl (by (try simp only [zT, zC, zN]); first | done | rfl | (simp only [zR, zL]; rfl)) ?_; (with_reducible refine (random_Sample.calls k a0_0 a0_1 a1 a2 t502 t505 t506 t507 t508 _ A29.out).mono ?_); rintro e w90 ⟨v503, rfl, ho0, hb⟩; refine ⟨_, rfl, ?_⟩; have HO504 := zM (Kd.R_lower (Kd.R_new' ho0 (Kd.R_lt (by (with_reducible repeat (first | apply Kd.R_alloc | apply Kd.R_drewN | apply Kd.R_drew)); exact (Kd.R_mono (Kd.R_mono (Kd.R_far (p := ⟨gb501, 1, none⟩) (Kd.R_far (p := ⟨gb501, 0, none⟩) (Kd.R_far (p := ⟨gb500, 1, none⟩) (Kd.R_far (p := ⟨gb500, 0, none⟩) (Kd.R_types (Kd.R_types HO495.out BK500.out (by decide)) BK501.out (by decide)) (fun _ hk => hk.1.2) (.int .u64 t496)) (fun _ hk => hk.1.2) (.int .u64 t497)) (fun _ hk => hk.2) (.int .i64 t498)) (fun _ hk => hk.2) (.int .i64 t499)) (fun _ h_ => h_.1)) (fun _ h_ => h_.1))))) (below_size (by repeat (first | (with_reducible first | exact HB.out | apply pzA | apply pzD | apply pz1 | apply pzs | assumption) | exact HB.out)))); replace HO477 := zM (Kd.R_below (by (with_reducible repeat (first | apply Kd.R_alloc | apply Kd.R_drewN | apply Kd.R_drew)); exact (Kd.R_mono (Kd.R_mono (Kd.R_far (p := ⟨gb501, 1, none⟩) (Kd.R_far (p := ⟨gb501, 0, none⟩) (Kd.R_far (p := ⟨gb500, 1, none⟩) (Kd.R_far (p := ⟨gb500, 0, none⟩) (Kd.R_types (Kd.R_types HO477.out BK500.out (by decide)) BK501.out (by decide)) (fun _ hk => hk.1.2) (.int .u64 t496)) (fun _ hk => hk.1.2) (.int .u64 t497)) (fun _ hk => hk.2) (.int .i64 t498)) (fun _ hk => hk.2) (.int .i64 t499)) (fun _ h_ => h_.1)) (fun _ h_ => h_.1))) hb); replace HO486 := zM (Kd.R_below (by (with_reducible repeat (first | apply Kd.R_alloc | apply Kd.R_drewN | apply Kd.R_drew)); exact (Kd.R_mono (Kd.R_mono (Kd.R_far (p := ⟨gb501, 1, none⟩) (Kd.R_far (p := ⟨gb501, 0, none⟩) (Kd.R_far (p := ⟨gb500, 1, none⟩) (Kd.R_far (p := ⟨gb500, 0, none⟩) (Kd.R_types (Kd.R_types HO486.out BK500.out (by decide)) BK501.out (by decide)) (fun _ hk => hk.1.2) (.int .u64 t496)) (fun _ hk => hk.1.2) (.int .u64 t497)) (fun _ hk => hk.2) (.int .i64 t498)) (fun _ hk => hk.2) (.int .i64 t499)) (fun _ h_ => h_.1)) (fun _ h_ => h_.1))) hb); replace HO495 := zM (Kd.R_elder' (by (with_reducible repeat (first | apply Kd.R_alloc | apply Kd.R_drewN | apply Kd.R_drew)); exact (Kd.R_mono (Kd.R_mono (Kd.R_far (p := ⟨gb501, 1, none⟩) (Kd.R_far (p := ⟨gb501, 0, none⟩) (Kd.R_far (p := ⟨gb500, 1, none⟩) (Kd.R_far (p := ⟨gb500, 0, none⟩) (Kd.R_types (Kd.R_types HO495.out BK500.out (by decide)) BK501.out (by decide)) (fun _ hk => hk.1.2) (.int .u64 t496)) (fun _ hk => hk.1.2) (.int .u64 t497)) (fun _ hk => hk.2) (.int .i64 t498)) (fun _ hk => hk.2) (.int .i64 t499)) (fun _ h_ => h_.1)) (fun _ h_ => h_.1))) (Kd.R_base ho0) hb); replace BK473 := zM (blk_below (g := gb473) (o := .cells #[.int .u64 a0_0, .int .u64 a0_1] 27 (0, 0)) (by (with_reducible repeat (first | apply pzN | apply pzd | apply pza)); refine blk_far ?_ NB473_501.out _; (with_reducible repeat (first | apply pzN | apply pzd | apply pza)); refine blk_far ?_ NB473_501.out _; (with_reducible repeat (first | apply pzN | apply pzd | apply pza)); refine blk_far ?_ NB473_500.out _; (with_reducible repeat (first | apply pzN | apply pzd | apply pza)); refine blk_far ?_ NB473_500.out _; (with_reducible repeat (first | apply pzN | apply pzd | apply pza)); exact BK473.out) hb); replace BK482 := zM (blk_below (g := gb482) (o := .cells #[.int .u64 t478, .int .u64 t479] 27 (0, 0)) (by (with_reducible repeat (first | apply pzN | apply pzd | apply pza)); refine blk_far ?_ NB482_501.out _; (with_reducible repeat (first | apply pzN | apply pzd | apply pza)); refine blk_far ?_ NB482_501.out _; (with_reducible repeat (first | apply pzN | apply pzd | apply pza)); refine blk_far ?_ NB482_500.out _; (with_reducible repeat (first | apply pzN | apply pzd | apply pza)); refine blk_far ?_ NB482_500.out _; (with_reducible repeat (first | apply pzN | apply pzd | apply pza)); exact BK482.out) hb); replace BK483 := zM (blk_below (g := gb483) (o := .cells #[.int .i64 t480, .int .i64 t481] 29 (0, 0)) (by (with_reducible repeat (first | apply pzN | apply pzd | apply pza)); refine blk_far ?_ NB483_501.out _; (with_reducible repeat (first | apply pzN | apply pzd | apply pza)); refine blk_far ?_ NB483_501.out _; (with_reducible repeat (first | apply pzN | apply pzd | apply pza)); refine blk_far ?_ NB483_500.out _; (with_reducible repeat (first | apply pzN | apply pzd | apply pza)); refine blk_far ?_ NB483_500.out _; (with_reducible repeat (first | apply pzN | apply pzd | apply pza)); exact BK483.out) hb); replace BK491 := zM (blk_below (g := gb491) (o := .cells #[.int .u64 t487, .int .u64 t488] 27 (0, 0)) (by (with_reducible repeat (first | apply pzN | apply pzd | apply pza)); refine blk_far ?_ NB491_501.out _; (with_reducible repeat (first | apply pzN | apply pzd | apply pza)); refine blk_far ?_ NB491_501.out _; (with_reducible repeat (first | apply pzN | apply pzd | apply pza)); refine blk_far ?_ NB491_500.out _; (with_reducible repeat (first | apply pzN | apply pzd | apply pza)); refine blk_far ?_ NB491_500.out _; (with_reducible repeat (first | apply pzN | apply pzd | apply pza)); exact BK491.out) hb); replace BK492 := zM (blk_below (g := gb492) (o := .cells #[.int .i64 t489, .int .i64 t490] 29 (0, 0)) (by (with_reducible repeat (first | apply pzN | apply pzd | apply pza)); refine blk_far ?_ NB492_501.out _; (with_reducible repeat (first | apply pzN | apply pzd | apply pza)); refine blk_far ?_ NB492_501.out _; (with_reducible repeat (first | apply pzN | apply pzd | apply pza)); refine blk_far ?_ NB492_500.out _; (with_reducible repeat (first | apply pzN | apply pzd | apply pza)); refine blk_far ?_ NB492_500.out _; (with_reducible repeat (first | apply pzN | apply pzd | apply pza)); exact BK492.out) hb); replace BK500 := zM (blk_below (g := gb500) (o := .cells #[.int .u64 t496, .int .u64 t497] 27 (0, 0)) (by (with_reducible repeat (first | apply pzN | apply pzd | apply pza)); refine blk_far ?_ NB500_501.out _; (with_reducible repeat (first | apply pzN | apply pzd | apply pza)); refine blk_far ?_ NB500_501.out _; (with_reducible repeat (first | apply pzN | apply pzd | apply pza)); refine blk_put (cs := #[.int .u64 t496, .int .u64 0]) ?_ 1 _ rfl; (with_reducible repeat (first | apply pzN | apply pzd | apply pza)); refine blk_put (cs := #[.int .u64 0, .int .u64 0]) ?_ 0 _ rfl; (with_reducible repeat (first | apply pzN | apply pzd | apply pza)); exact BK500.out) hb); replace BK501 := zM (blk_below (g := gb501) (o := .cells #[.int .i64 t498, .int .i64 t499] 29 (0, 0)) (by (with_reducible repeat (first | apply pzN | apply pzd | apply pza)); refine blk_put (cs := #[.int .i64 t498, .int .i64 0]) ?_ 1 _ rfl; (with_reducible repeat (first | apply pzN | apply pzd | apply pza)); refine blk_put (cs := #[.int .i64 0, .int .i64 0]) ?_ 0 _ rfl; (with_reducible repeat (first | apply pzN | apply pzd | apply pza)); refine blk_far ?_ NB501_500.out _; (with_reducible repeat (first | apply pzN | apply pzd | apply pza)); refine blk_far ?_ NB501_500.out _; (with_reducible repeat (first | apply pzN | apply pzd | apply pza)); exact BK501.out) hb); replace HB := zM (below_step (by repeat (first | (with_reducible first | exact HB.out | apply pzA | apply pzD | apply pz1 | apply pzs | assumption) | exact HB.out)) hb); (try clear hb); (try clear hb2); (try clear hk); (try clear hi); (try clear ho0)) | ((with_reducible refine gate_dst (N := 17) rfl ?_); (try (refine gate_guard (by rfl) ?_; dsimp only)); refine box_event ?hg (N := 17) ?hd (cs := #[.int .u64 0, .int .u64 0]) (t := 27) ?hr ?_; (case hd => rfl); (case hg => rfl); (case hr => first | (go_simp; done) | (go_simp; rfl)); intro gb509 hg w91 hbox hb; have BK509 := zM (hbox); have GW509 := zM ((by rw [hg]; exact (below_size (by repeat (first | (with_reducible first | exact HB.out | apply pzA | apply pzD | apply pz1 | apply pzs | assumption) | exact HB.out))) : w.heap.size ≤ gb509)); have GE509 := GW509; have NB473_509 := pzf BK473 hg; have NB509_473 := pzg BK473 hg; have NB482_509 := pzf BK482 hg; have NB509_482 := pzg BK482 hg; have NB483_509 := pzf BK483 hg; have NB509_483 := pzg BK483 hg; have NB491_509 := pzf BK491 hg; have NB509_491 := pzg BK491 hg; have NB492_509 := pzf BK492 hg; have NB509_492 := pzg BK492 hg; have NB500_509 := pzf BK500 hg; have NB509_500 := pzg BK500 hg; have NB501_509 := pzf BK501 hg; have NB509_501 := pzg BK501 hg; replace HO477 := zM (Kd.R_below (by (with_reducible repeat (first | apply Kd.R_alloc | apply Kd.R_drewN | apply Kd.R_drew)); exact HO477.out) hb); replace HO486 := zM (Kd.R_below (by (with_reducible repeat (first | apply Kd.R_alloc | apply Kd.R_drewN | apply Kd.R_drew)); exact HO486.out) hb); replace HO495 := zM (Kd.R_below (by (with_reducible repeat (first | apply Kd.R_alloc | apply Kd.R_drewN | apply Kd.R_drew)); exact HO495.out) hb); replace HO504 := zM (Kd.R_below (by (with_reducible repeat (first | apply Kd.R_alloc | apply Kd.R_drewN | apply Kd.R_drew)); exact HO504.out) hb); replace BK473 := pzb BK473 hb; replace BK482 := pzb BK482 hb; replace BK483 := pzb BK483 hb; replace BK491 := pzb BK491 hb; replace BK492 := pzb BK492 hb; replace BK500 := pzb BK500 hb; replace BK501 := pzb BK501 hb; replace HB := zM (below_step (by repeat (first | (with_reducible first | exact HB.out | apply pzA | apply pzD | apply pz1 | apply pzs | assumption) | exact HB.out)) hb); clear hb hbox hg) | ((with_reducible refine gate_dst (N := 18) rfl ?_); (try (refine gate_guard (by rfl) ?_; dsimp only)); refine box_event ?hg (N := 18) ?hd (cs := #[.int .i64 0, .int .i64 0]) (t := 29) ?hr ?_; (case hd => rfl); (case hg => rfl); (case hr => first | (go_simp; done) | (go_simp; rfl)); intro gb510 hg w92 hbox hb; have BK510 := zM (hbox); have GW510 := zM ((by rw [hg]; exact (below_size (by repeat (first | (with_reducible first | exact HB.out | apply pzA | apply pzD | apply pz1 | apply pzs | assumption) | exact HB.out))) : w.heap.size ≤ gb510)); have GE510 := GW510; have NB473_510 := pzf BK473 hg; have NB510_473 := pzg BK473 hg; have NB482_510 := pzf BK482 hg; have NB510_482 := pzg BK482 hg; have NB483_510 := pzf BK483 hg; have NB510_483 := pzg BK483 hg; have NB491_510 := pzf BK491 hg; have NB510_491 := pzg BK491 hg; have NB492_510 := pzf BK492 hg; have NB510_492 := pzg BK492 hg; have NB500_510 := pzf BK500 hg; have NB510_500 := pzg BK500 hg; have NB501_510 := pzf BK501 hg; have NB510_501 := pzg BK501 hg; have NB509_510 := pzf BK509 hg; have NB510_509 := pzg BK509 hg; replace HO477 := zM (Kd.R_below (by (with_reducible repeat (first | apply Kd.R_alloc | apply Kd.R_drewN | apply Kd.R_drew)); exact HO477.out) hb); replace HO486 := zM (Kd.R_below (by (with_reducible repeat (first | apply Kd.R_alloc | apply Kd.R_drewN | apply Kd.R_drew)); exact HO486.out) hb); replace HO495 := zM (Kd.R_below (by (with_reducible repeat (first | apply Kd.R_alloc | apply Kd.R_drewN | apply Kd.R_drew)); exact HO495.out) hb); replace HO504 := zM (Kd.R_below (by (with_reducible repeat (first | apply Kd.R_alloc | apply Kd.R_drewN | apply Kd.R_drew)); exact HO504.out) hb); replace BK473 := pzb BK473 hb; replace BK482 := pzb BK482 hb; replace BK483 := pzb BK483 hb; replace BK491 := pzb BK491 hb; replace BK492 := pzb BK492 hb; replace BK500 := pzb BK500 hb; replace BK501 := pzb BK501 hb; replace BK509 := pzb BK509 hb; replace HB := zM (below_step (by repeat (first | (with_reducible first | exact HB.out | apply pzA | apply pzD | apply pz1 | apply pzs | assumption) | exact HB.out)) hb); clear hb hbox hg; have hnb93 := NB509_473.out; have hnc93 := NB473_509.out; have hnb94 := NB509_482.out; have hnc94 := NB482_509.out; have hnb95 := NB509_483.out; have hnc95 := NB483_509.out; have hnb96 := NB509_491.out; have hnc96 := NB491_509.out; have hnb97 := NB509_492.out; have hnc97 := NB492_509.out; have hnb98 := NB509_500.out; have hnc98 := NB500_509.out; have hnb99 := NB509_501.out; have hnc99 := NB501_509.out; have hnb100 := NB509_510.out; have hnc100 := NB510_509.out; have hcz101_0 := pzc (v := .int .u64 0) BK509 0 rfl; have hcz101_1 := pzc (v := .int .u64 0) BK509 1 rfl; have hfz101_0 := zF BK509.out 0; have hfz101_1 := zF BK509.out 1) | ((with_reducible refine gate_store (t := 27) (p := 17) rfl ?_); refine store_event (t := 27) (p := 17) (v := ?vo_w102) (w1 := ((w92.setCell ⟨gb509, 0, none⟩ (.int .u64 t505)).setCell ⟨gb509, 1, none⟩ (.int .u64 t506))) ?hg ?ho ?hn ?hr ?_; (case ho => rfl); (case hg => rfl); (case hn => rfl); (case hr => first | (go_simp; done) | (go_simp; rfl)); intro w102 hw; have n0_ : Aside0 (Kd.R (Kd.int .u8) 5 w102 w.heap.size (fun k_ => some k_ ≠ (v485 : Value).ownBlock) v476 t475) := ⟨(by rw [hw]; exact (by (with_reducible repeat (first | apply Kd.R_alloc | apply Kd.R_drewN | apply Kd.R_drew)); exact Kd.R_mono (Kd.R_far (p := ⟨gb509, 1, none⟩) (Kd.R_far (p := ⟨gb509, 0, none⟩) (Kd.R_types HO477.out BK509.out (by decide)) (fun _ hk => hk.2) (.int .u64 t505)) (fun _ hk => hk.2) (.int .u64 t506)) (fun _ hk => hk.1.2)))⟩; have n1_ : Aside0 (Kd.R (Kd.int .u8) 5 w102 w.heap.size (fun k_ => some k_ ≠ (v476 : Value).ownBlock) v485 t484) := ⟨(by rw [hw]; exact (by (with_reducible repeat (first | apply Kd.R_alloc | apply Kd.R_drewN | apply Kd.R_drew)); exact Kd.R_mono (Kd.R_far (p := ⟨gb509, 1, none⟩) (Kd.R_far (p := ⟨gb509, 0, none⟩) (Kd.R_types HO486.out BK509.out (by decide)) (fun _ hk => hk.2) (.int .u64 t505)) (fun _ hk => hk.2) (.int .u64 t506)) (fun _ hk => hk.1.2)))⟩; have n2_ : Aside0 (Kd.R (Kd.int .i64) 3 w102 w.heap.size (fun k_ => some k_ ≠ (v503 : Value).ownBlock) v494 t493) := ⟨(by rw [hw]; exact (by (with_reducible repeat (first | apply Kd.R_alloc | apply Kd.R_drewN | apply Kd.R_drew)); exact Kd.R_mono (Kd.R_far (p := ⟨gb509, 1, none⟩) (Kd.R_far (p := ⟨gb509, 0, none⟩) (Kd.R_types HO495.out BK509.out (by decide)) (fun _ hk => hk.2) (.int .u64 t505)) (fun _ hk => hk.2) (.int .u64 t506)) (fun _ hk => hk.1.2)))⟩; have n3_ : Aside0 (Kd.R (Kd.int .i64) 3 w102 w.heap.size (fun k_ => some k_ ≠ (v494 : Value).ownBlock) v503 t502) := ⟨(by rw [hw]; exact (by (with_reducible repeat (first | apply Kd.R_alloc | apply Kd.R_drewN | apply Kd.R_drew)); exact Kd.R_mono (Kd.R_far (p := ⟨gb509, 1, none⟩) (Kd.R_far (p := ⟨gb509, 0, none⟩) (Kd.R_types HO504.out BK509.out (by decide)) (fun _ hk => hk.2) (.int .u64 t505)) (fun _ hk => hk.2) (.int .u64 t506)) (fun _ hk => hk.1.2)))⟩; have n4_ : Aside0 (w102.heap[gb473]? = some (.cells #[.int .u64 a0_0, .int .u64 a0_1] 27 (0, 0))) := ⟨(by rw [hw]; exact (by (with_reducible repeat (first | apply pzN | apply pzd | apply pza)); refine blk_far ?_ NB473_509.out _; (with_reducible repeat (first | apply pzN | apply pzd | apply pza)); refine blk_far ?_ NB473_509.out _; (with_reducible repeat (first | apply pzN | apply pzd | apply pza)); exact BK473.out))⟩; have n5_ : Aside0 (w102.heap[gb482]? = some (.cells #[.int .u64 t478, .int .u64 t479] 27 (0, 0))) := ⟨(by rw [hw]; exact (by (with_reducible repeat (first | apply pzN | apply pzd | apply pza)); refine blk_far ?_ NB482_509.out _; (with_reducible repeat (first | apply pzN | apply pzd | apply pza)); refine blk_far ?_ NB482_509.out _; (with_reducible repeat (first | apply pzN | apply pzd | apply pza)); exact BK482.out))⟩; have n6_ : Aside0 (w102.heap[gb483]? = some (.cells #[.int .i64 t480, .int .i64 t481] 29 (0, 0))) := ⟨(by rw [hw]; exact (by (with_reducible repeat (first | apply pzN | apply pzd | apply pza)); refine blk_far ?_ NB483_509.out _; (with_reducible repeat (first | apply pzN | apply pzd | apply pza)); refine blk_far ?_ NB483_509.out _; (with_reducible repeat (first | apply pzN | apply pzd | apply pza)); exact BK483.out))⟩; have n7_ : Aside0 (w102.heap[gb491]? = some (.cells #[.int .u64 t487, .int .u64 t488] 27 (0, 0))) := ⟨(by rw [hw]; exact (by (with_reducible repeat (first | apply pzN | apply pzd | apply pza)); refine blk_far ?_ NB491_509.out _; (with_reducible repeat (first | apply pzN | apply pzd | apply pza)); refine blk_far ?_ NB491_509.out _; (with_reducible repeat (first | apply pzN | apply pzd | apply pza)); exact BK491.out))⟩; have n8_ : Aside0 (w102.heap[gb492]? = some (.cells #[.int .i64 t489, .int .i64 t490] 29 (0, 0))) := ⟨(by rw [hw]; exact (by (with_reducible repeat (first | apply pzN | apply pzd | apply pza)); refine blk_far ?_ NB492_509.out _; (with_reducible repeat (first | apply pzN | apply pzd | apply pza)); refine blk_far ?_ NB492_509.out _; (with_reducible repeat (first | apply pzN | apply pzd | apply pza)); exact BK492.out))⟩; have n9_ : Aside0 (w102.heap[gb500]? = some (.cells #[.int .u64 t496, .int .u64 t497] 27 (0, 0))) := ⟨(by rw [hw]; exact (by (with_reducible repeat (first | apply pzN | apply pzd | apply pza)); refine blk_far ?_ NB500_509.out _; (with_reducible repeat (first | apply pzN | apply pzd | apply pza)); refine blk_far ?_ NB500_509.out _; (with_reducible repeat (first | apply pzN | apply pzd | apply pza)); exact BK500.out))⟩; have n10_ : Aside0 (w102.heap[gb501]? = some (.cells #[.int .i64 t498, .int .i64 t499] 29 (0, 0))) := ⟨(by rw [hw]; exact (by (with_reducible repeat (first | apply pzN | apply pzd | apply pza)); refine blk_far ?_ NB501_509.out _; (with_reducible repeat (first | apply pzN | apply pzd | apply pza)); refine blk_far ?_ NB501_509.out _; (with_reducible repeat (first | apply pzN | apply pzd | apply pza)); exact BK501.out))⟩; have n11_ : Aside0 (w102.heap[gb509]? = some (.cells #[.int .u64 t505, .int .u64 t506] 27 (0, 0))) := ⟨(by rw [hw]; exact (by (with_reducible repeat (first | apply pzN | apply pzd | apply pza)); refine blk_put (cs := #[.int .u64 t505, .int .u64 0]) ?_ 1 _ rfl; (with_reducible repeat (first | apply pzN | apply pzd | apply pza)); refine blk_put (cs := #[.int .u64 0, .int .u64 0]) ?_ 0 _ rfl; (with_reducible repeat (first | apply pzN | apply pzd | apply pza)); exact BK509.out))⟩; have n12_ : Aside0 (w102.heap[gb510]? = some (.cells #[.int .i64 0, .int .i64 0] 29 (0, 0))) := ⟨(by rw [hw]; exact (by (with_reducible repeat (first | apply pzN | apply pzd | apply pza)); refine blk_far ?_ NB510_509.out _; (with_reducible repeat (first | apply pzN | apply pzd | apply pza)); refine blk_far ?_ NB510_509.out _; (with_reducible repeat (first | apply pzN | apply pzd | apply pza)); exact BK510.out))⟩; have n13_ : Aside0 (Below w.heap.size w w102) := ⟨(by rw [hw]; exact (by repeat (first | (with_reducible first | exact HB.out | apply pzA | apply pzD | apply pz1 | apply pzs | assumption) | exact HB.out)))⟩; clear hw; clear HO477; clear HO486; clear HO495; clear HO504; clear BK473; clear BK482; clear BK483; clear BK491; clear BK492; clear BK500; clear BK501; clear BK509; clear BK510; clear HB; have HO477 := n0_; have HO486 := n1_; have HO495 := n2_; have HO504 := n3_; have BK473 := n4_; have BK482 := n5_; have BK483 := n6_; have BK491 := n7_; have BK492 := n8_; have BK500 := n9_; have BK501 := n10_; have BK509 := n11_; have BK510 := n12_; have HB := n13_; clear n0_ n1_ n2_ n3_ n4_ n5_ n6_ n7_ n8_ n9_ n10_ n11_ n12_ n13_; have hnb103 := NB510_473.out; have hnc103 := NB473_510.out; have hnb104 := NB510_482.out; have hnc104 := NB482_510.out; have hnb105 := NB510_483.out; have hnc105 := NB483_510.out; have hnb106 := NB510_491.out; have hnc106 := NB491_510.out; have hnb107 := NB510_492.out; have hnc107 := NB492_510.out; have hnb108 := NB510_500.out; have hnc108 := NB500_510.out; have hnb109 := NB510_501.out; have hnc109 := NB501_510.out; have hcz110_0 := pzc (v := .int .i64 0) BK510 0 rfl; have hcz110_1 := pzc (v := .int .i64 0) BK510 1 rfl; have hfz110_0 := zF BK510.out 0; have hfz110_1 := zF BK510.out 1) | ((with_reducible refine gate_store (t := 29) (p := 18) rfl ?_); refine store_event (t := 29) (p := 18) (v := ?vo_w111) (w1 := ((w102.setCell ⟨gb510, 0, none⟩ (.int .i64 t507)).setCell ⟨gb510, 1, none⟩ (.int .i64 t508))) ?hg ?ho ?hn ?hr ?_; (case ho => rfl); (case hg => rfl); (case hn => rfl); (case hr => first | (go_simp; done) | (go_simp; rfl)); intro w111 hw; have n0_ : Aside0 (Kd.R (Kd.int .u8) 5 w111 w.heap.size (fun k_ => some k_ ≠ (v485 : Value).ownBlock) v476 t475) := ⟨(by rw [hw]; exact (by (with_reducible repeat (first | apply Kd.R_alloc | apply Kd.R_drewN | apply Kd.R_drew)); exact Kd.R_mono (Kd.R_far (p := ⟨gb510, 1, none⟩) (Kd.R_far (p := ⟨gb510, 0, none⟩) (Kd.R_types HO477.out BK510.out (by decide)) (fun _ hk => hk.2) (.int .i64 t507)) (fun _ hk => hk.2) (.int .i64 t508)) (fun _ hk => hk.1)))⟩; have n1_ : Aside0 (Kd.R (Kd.int .u8) 5 w111 w.heap.size (fun k_ => some k_ ≠ (v476 : Value).ownBlock) v485 t484) := ⟨(by rw [hw]; exact (by (with_reducible repeat (first | apply Kd.R_alloc | apply Kd.R_drewN | apply Kd.R_drew)); exact Kd.R_mono (Kd.R_far (p := ⟨gb510, 1, none⟩) (Kd.R_far (p := ⟨gb510, 0, none⟩) (Kd.R_types HO486.out BK510.out (by decide)) (fun _ hk => hk.2) (.int .i64 t507)) (fun _ hk => hk.2) (.int .i64 t508)) (fun _ hk => hk.1)))⟩; have n2_ : Aside0 (Kd.R (Kd.int .i64) 3 w111 w.heap.size (fun k_ => some k_ ≠ (v503 : Value).ownBlock) v494 t493) := ⟨(by rw [hw]; exact (by (with_reducible repeat (first | apply Kd.R_alloc | apply Kd.R_drewN | apply Kd.R_drew)); exact Kd.R_mono (Kd.R_far (p := ⟨gb510, 1, none⟩) (Kd.R_far (p := ⟨gb510, 0, none⟩) (Kd.R_types HO495.out BK510.out (by decide)) (fun _ hk => hk.2) (.int .i64 t507)) (fun _ hk => hk.2) (.int .i64 t508)) (fun _ hk => hk.1)))⟩; have n3_ : Aside0 (Kd.R (Kd.int .i64) 3 w111 w.heap.size (fun k_ => some k_ ≠ (v494 : Value).ownBlock) v503 t502) := ⟨(by rw [hw]; exact (by (with_reducible repeat (first | apply Kd.R_alloc | apply Kd.R_drewN | apply Kd.R_drew)); exact Kd.R_mono (Kd.R_far (p := ⟨gb510, 1, none⟩) (Kd.R_far (p := ⟨gb510, 0, none⟩) (Kd.R_types HO504.out BK510.out (by decide)) (fun _ hk => hk.2) (.int .i64 t507)) (fun _ hk => hk.2) (.int .i64 t508)) (fun _ hk => hk.1)))⟩; have n4_ : Aside0 (w111.heap[gb473]? = some (.cells #[.int .u64 a0_0, .int .u64 a0_1] 27 (0, 0))) := ⟨(by rw [hw]; exact (by (with_reducible repeat (first | apply pzN | apply pzd | apply pza)); refine blk_far ?_ NB473_510.out _; (with_reducible repeat (first | apply pzN | apply pzd | apply pza)); refine blk_far ?_ NB473_510.out _; (with_reducible repeat (first | apply pzN | apply pzd | apply pza)); exact BK473.out))⟩; have n5_ : Aside0 (w111.heap[gb482]? = some (.cells #[.int .u64 t478, .int .u64 t479] 27 (0, 0))) := ⟨(by rw [hw]; exact (by (with_reducible repeat (first | apply pzN | apply pzd | apply pza)); refine blk_far ?_ NB482_510.out _; (with_reducible repeat (first | apply pzN | apply pzd | apply pza)); refine blk_far ?_ NB482_510.out _; (with_reducible repeat (first | apply pzN | apply pzd | apply pza)); exact BK482.out))⟩; have n6_ : Aside0 (w111.heap[gb483]? = some (.cells #[.int .i64 t480, .int .i64 t481] 29 (0, 0))) := ⟨(by rw [hw]; exact (by (with_reducible repeat (first | apply pzN | apply pzd | apply pza)); refine blk_far ?_ NB483_510.out _; (with_reducible repeat (first | apply pzN | apply pzd | apply pza)); refine blk_far ?_ NB483_510.out _; (with_reducible repeat (first | apply pzN | apply pzd | apply pza)); exact BK483.out))⟩; have n7_ : Aside0 (w111.heap[gb491]? = some (.cells #[.int .u64 t487, .int .u64 t488] 27 (0, 0))) := ⟨(by rw [hw]; exact (by (with_reducible repeat (first | apply pzN | apply pzd | apply pza)); refine blk_far ?_ NB491_510.out _; (with_reducible repeat (first | apply pzN | apply pzd | apply pza)); refine blk_far ?_ NB491_510.out _; (with_reducible repeat (first | apply pzN | apply pzd | apply pza)); exact BK491.out))⟩; have n8_ : Aside0 (w111.heap[gb492]? = some (.cells #[.int .i64 t489, .int .i64 t490] 29 (0, 0))) := ⟨(by rw [hw]; exact (by (with_reducible repeat (first | apply pzN | apply pzd | apply pza)); refine blk_far ?_ NB492_510.out _; (with_reducible repeat (first | apply pzN | apply pzd | apply pza)); refine blk_far ?_ NB492_510.out _; (with_reducible repeat (first | apply pzN | apply pzd | apply pza)); exact BK492.out))⟩; have n9_ : Aside0 (w111.heap[gb500]? = some (.cells #[.int .u64 t496, .int .u64 t497] 27 (0, 0))) := ⟨(by rw [hw]; exact (by (with_reducible repeat (first | apply pzN | apply pzd | apply pza)); refine blk_far ?_ NB500_510.out _; (with_reducible repeat (first | apply pzN | apply pzd | apply pza)); refine blk_far ?_ NB500_510.out _; (with_reducible repeat (first | apply pzN | apply pzd | apply pza)); exact BK500.out))⟩; have n10_ : Aside0 (w111.heap[gb501]? = some (.cells #[.int .i64 t498, .int .i64 t499] 29 (0, 0))) := ⟨(by rw [hw]; exact (by (with_reducible repeat (first | apply pzN | apply pzd | apply pza)); refine blk_far ?_ NB501_510.out _; (with_reducible repeat (first | apply pzN | apply pzd | apply pza)); refine blk_far ?_ NB501_510.out _; (with_reducible repeat (first | apply pzN | apply pzd | apply pza)); exact BK501.out))⟩; have n11_ : Aside0 (w111.heap[gb509]? = some (.cells #[.int .u64 t505, .int .u64 t506] 27 (0, 0))) := ⟨(by rw [hw]; exact (by (with_reducible repeat (first | apply pzN | apply pzd | apply pza)); refine blk_far ?_ NB509_510.out _; (with_reducible repeat (first | apply pzN | apply pzd | apply pza)); refine blk_far ?_ NB509_510.out _; (with_reducible repeat (first | apply pzN | apply pzd | apply pza)); exact BK509.out))⟩; have n12_ : Aside0 (w111.heap[gb510]? = some (.cells #[.int .i64 t507, .int .i64 t508] 29 (0, 0))) := ⟨(by rw [hw]; exact (by (with_reducible repeat (first | apply pzN | apply pzd | apply pza)); refine blk_put (cs := #[.int .i64 t507, .int .i64 0]) ?_ 1 _ rfl; (with_reducible repeat (first | apply pzN | apply pzd | apply pza)); refine blk_put (cs := #[.int .i64 0, .int .i64 0]) ?_ 0 _ rfl; (with_reducible repeat (first | apply pzN | apply pzd | apply pza)); exact BK510.out))⟩; have n13_ : Aside0 (Below w.heap.size w w111) := ⟨(by rw [hw]; exact (by repeat (first | (with_reducible first | exact HB.out | apply pzA | apply pzD | apply pz1 | apply pzs | assumption) | exact HB.out)))⟩; clear hw; clear HO477; clear HO486; clear HO495; clear HO504; clear BK473; clear BK482; clear BK483; clear BK491; clear BK492; clear BK500; clear BK501; clear BK509; clear BK510; clear HB; have HO477 := n0_; have HO486 := n1_; have HO495 := n2_; have HO504 := n3_; have BK473 := n4_; have BK482 := n5_; have BK483 := n6_; have BK491 := n7_; have BK492 := n8_; have BK500 := n9_; have BK501 := n10_; have BK509 := n11_; have BK510 := n12_; have HB := n13_; clear n0_ n1_ n2_ n3_ n4_ n5_ n6_ n7_ n8_ n9_ n10_ n11_ n12_ n13_; have hcz112_0 := pzc (v := .int .i64 t480) BK483 0 rfl; have hcz112_1 := pzc (v := .int .i64 t481) BK483 1 rfl; have hfz112_0 := zF BK483.out 0; have hfz112_1 := zF BK483.out 1; have hcz113_0 := pzc (v := .int .i64 t489) BK492 0 rfl; have hcz113_1 := pzc (v := .int .i64 t490) BK492 1 rfl; have hfz113_0 := zF BK492.out 0; have hfz113_1 := zF BK492.out 1; have hcz114_0 := pzc (v := .int .i64 t498) BK501 0 rfl; have hcz114_1 := pzc (v := .int .i64 t499) BK501 1 rfl; have hfz114_0 := zF BK501.out 0; have hfz114_1 := zF BK501.out 1; have hcz115_0 := pzc (v := .int .i64 t507) BK510 0 rfl; have hcz115_1 := pzc (v := .int .i64 t508) BK510 1 rfl; have hfz115_0 := zF BK510.out 0; have hfz115_1 := zF BK510.out 1; obtain ⟨Ao116, co116, eo116⟩ := Kd.R_slice HO477.out; subst eo116; obtain ⟨Ao117, co117, eo117⟩ := Kd.R_slice HO486.out; subst eo117; obtain ⟨Ao118, co118, eo118⟩ := Kd.R_slice HO495.out; subst eo118; obtain ⟨Ao119, co119, eo119⟩ := Kd.R_slice HO504.out; subst eo119; have q120 : (a2 : Int) ≤ ((t475.length : Int) : Int) := zD (by first | (with_reducible assumption) | assumption); obtain ⟨i0120, hi0120, _, hsz120, _⟩ := info_parts info5; have hroom120 : t475.length ≤ co116 := (Kd.R_reads' HO477.out).2.1; have hC120 : Kd.C (Kd.int .u8) _ Ao116 t475.length t475 := (Kd.R_reads' HO477.out).2.2; have hcut120 := cut_to (P := Try.prog) 60 5 .i64 Try.underlying60 hi0120 Ao116 t475.length co116 a2 (zD (by first | (with_reducible assumption) | assumption)) q120 hroom120; have hr120 := Kd.C_take (m := (a2 : Int).toNat) hC120 (by omega); have hy120 : y511.length = (a2 : Int).toNat := (by rw [Ny511.out, zL]; omega); rw [← Ny511.out] at hr120; rw [← hy120] at hcut120; have HR514 := zM hr120; have HC514 := zM (show y511.length ≤ co116 from by omega); clear hr120 hC120 hroom120 hi0120 hsz120; have KY120 := zM hy120; clear hy120; have KL120 := zM (show (a2 : Int).toNat ≤ t475.length from by omega); replace q120 := eq_true q120) | (go_at_call 29; (with_reducible refine (brindlewoodref4_SameBytes.calls _ _ y511 _ _ t484 true _ ?side1 ?side2 ?side3 ?side4 A40.out).mono ?_); (case side1 => repeat (first | exact (by repeat (first | (with_reducible exact HR514.out) | (with_reducible refine Kd.C_alloc ?_ _) | (with_reducible refine Kd.C_drewN ?_ _) | (with_reducible refine Kd.C_drew ?_) | exact HR514.out)) | (with_reducible refine Kd.C_alloc ?_ _) | (with_reducible refine Kd.C_drewN ?_ _) | (with_reducible refine Kd.C_drew ?_))); (case side2 => exact HC514.out); (case side3 => repeat (first | exact (Kd.R_reads' HO486.out).2.2 | (with_reducible refine Kd.C_alloc ?_ _) | (with_reducible refine Kd.C_drewN ?_ _) | (with_reducible refine Kd.C_drew ?_))); (case side4 => exact (Kd.R_reads' HO486.out).2.1); rintro e w' ⟨rfl, ⟨nd, rfl⟩⟩; have q121 : (a2 : Int) ≤ ((t493.length : Int) : Int) := zD (by first | (with_reducible assumption) | assumption); obtain ⟨i0121, hi0121, _, hsz121, _⟩ := info_parts info3; have hroom121 : t493.length ≤ co118 := (Kd.R_reads' HO495.out).2.1; have hC121 : Kd.C (Kd.int .i64) _ Ao118 t493.length t493 := (Kd.R_reads' HO495.out).2.2; have hcut121 := cut_to (P := Try.prog) 46 3 .i64 Try.underlying46 hi0121 Ao118 t493.length co118 a2 (zD (by first | (with_reducible assumption) | assumption)) q121 hroom121; have hr121 := Kd.C_take (m := (a2 : Int).toNat) hC121 (by omega); have hy121 : y516.length = (a2 : Int).toNat := (by rw [Ny516.out, zL]; omega); rw [← Ny516.out] at hr121; rw [← hy121] at hcut121; have HR519 := zM hr121; have HC519 := zM (show y516.length ≤ co118 from by omega); clear hr121 hC121 hroom121 hi0121 hsz121; have KY121 := zM hy121; clear hy121; have KL121 := zM (show (a2 : Int).toNat ≤ t493.length from by omega); replace q121 := eq_true q121) | (go_at_call 30; (with_reducible refine (brindlewoodref4_Numbers.calls k _ _ y516 _ _ t502 true _ ?side1 ?side2 ?side3 ?side4 A44.out).mono ?_); (case side1 => repeat (first | exact (by repeat (first | (with_reducible exact HR519.out) | (with_reducible refine Kd.C_alloc ?_ _) | (with_reducible refine Kd.C_drewN ?_ _) | (with_reducible refine Kd.C_drew ?_) | exact HR519.out)) | (with_reducible refine Kd.C_alloc ?_ _) | (with_reducible refine Kd.C_drewN ?_ _) | (with_reducible refine Kd.C_drew ?_))); (case side2 => exact HC519.out); (case side3 => repeat (first | exact (Kd.R_reads' HO504.out).2.2 | (with_reducible refine Kd.C_alloc ?_ _) | (with_reducible refine Kd.C_drewN ?_ _) | (with_reducible refine Kd.C_drew ?_))); (case side4 => exact (Kd.R_reads' HO504.out).2.1); rintro e w' ⟨rfl, ⟨nd, rfl⟩⟩) | ((with_reducible refine gate_dst (N := 133) rfl ?_); (try (refine gate_guard (by rfl) ?_; dsimp only)); refine Kd.R_make Kd.bool _ 4 rfl (N := 133) rfl 67 _ _ rfl a1 rfl rfl Try.underlying67 (.bool false) 1 info4 rfl (by decide) (by omega) false (ok := fun _ => True) (okp := fun _ => True) rfl (fun _ hk => hk) trivial (zD (by first | (with_reducible assumption) | assumption)) (Nat.le_trans (Nat.mul_le_mul_right _ (zD (by first | (with_reducible assumption) | assumption) : a1.toNat ≤ 281474976710656)) (by omega)) (Below.refl _ _) (Nat.le_refl _) ?_; intro v522 w122 ho123 hb hg_ hnew_; clear hg_ hnew_; (first | rw [← Ny521.out] at ho123 | (simp only [Int.reduceToNat] at ho123; rw [← Ny521.out] at ho123)); have HO523 := zM (Kd.R_lower ho123 (below_size (by repeat (first | (with_reducible first | exact HB.out | apply pzA | apply pzD | apply pz1 | apply pzs | assumption) | exact HB.out)))); replace HO477 := zM (Kd.R_below (by (with_reducible repeat (first | apply Kd.R_alloc | apply Kd.R_drewN | apply Kd.R_drew)); exact HO477.out) hb); replace HO486 := zM (Kd.R_below (by (with_reducible repeat (first | apply Kd.R_alloc | apply Kd.R_drewN | apply Kd.R_drew)); exact HO486.out) hb); replace HO495 := zM (Kd.R_below (by (with_reducible repeat (first | apply Kd.R_alloc | apply Kd.R_drewN | apply Kd.R_drew)); exact HO495.out) hb); replace HO504 := zM (Kd.R_below (by (with_reducible repeat (first | apply Kd.R_alloc | apply Kd.R_drewN | apply Kd.R_drew)); exact HO504.out) hb); replace HR514 := zM (Kd.C_below (by repeat (first | (with_reducible exact HR514.out) | (with_reducible refine Kd.C_alloc ?_ _) | (with_reducible refine Kd.C_drewN ?_ _) | (with_reducible refine Kd.C_drew ?_) | exact HR514.out)) hb); replace HR519 := zM (Kd.C_below (by repeat (first | (with_reducible exact HR519.out) | (with_reducible refine Kd.C_alloc ?_ _) | (with_reducible refine Kd.C_drewN ?_ _) | (with_reducible refine Kd.C_drew ?_) | exact HR519.out)) hb); replace HB := zM (below_step (by repeat (first | (with_reducible first | exact HB.out | apply pzA | apply pzD | apply pz1 | apply pzs | assumption) | exact HB.out)) hb); clear hb ho123))
                      go_loopg [20] k (fun kq v20 w' => ∃ (x19_1 : List Bool) (x20_1 : Int), v20 = .int .i64 x20_1 ∧ Aside0 (brindlewoodlaw4_RandomPrefixes.l0 kq a1 t493 x19_1 x20_1 = some r) ∧ Aside0 (kq ≤ k) ∧ Aside0 (Kd.R (Kd.int .i64) 3 w' w.heap.size (fun _ => True) (.slice Ao118 t493.length co118) t493) ∧ Aside0 (Kd.R Kd.bool 4 w' w.heap.size (fun _ => True) v522 x19_1) ∧ Aside0 (Below w.heap.size w w'))
                      case atStart => exact ⟨(y521), (0), (by first | rfl | (simp; done) | (simp [*]; done)), H', ⟨Nat.le_refl _⟩, ⟨by (with_reducible repeat (first | apply Kd.R_alloc | apply Kd.R_drewN | apply Kd.R_drew)); exact Kd.R_mono HO495.out (fun _ hk => trivial)⟩, ⟨by (with_reducible repeat (first | apply Kd.R_alloc | apply Kd.R_drewN | apply Kd.R_drew)); exact HO523.out⟩, ⟨by repeat (first | (with_reducible first | exact HB.out | apply pzA | apply pzD | apply pz1 | apply pzs | assumption) | exact HB.out)⟩⟩
                      case round =>
                       clear H'
                       try clear c1
                       try clear q1
                       try clear c2
                       try clear p2
                       try clear c3
                       try clear c4
                       try clear c5
                       try clear c6
                       try clear c6b0
                       try clear c6b1
                       try clear c7
                       try clear c8
                       try clear c9
                       try clear c10
                       try clear c10b0
                       try clear c11
                       try clear q12
                       try clear c14
                       try clear c14b0
                       try clear c18
                       try clear c18b0
                       try clear c22
                       try clear c22b0
                       try clear c27
                       try clear c28
                       try clear c30
                       try clear c30b0
                       try clear c30b1
                       try clear c31
                       try clear c31b0
                       try clear c31b1
                       try clear c32
                       try clear c32b0
                       try clear c32b1
                       try clear c33
                       try clear c33b0
                       try clear c33b1
                       try clear c34
                       try clear c34b0
                       try clear c34b1
                       try clear c35
                       try clear c35b0
                       try clear c35b1
                       try clear c36
                       try clear c36b0
                       try clear c36b1
                       try clear c37
                       try clear c37b0
                       try clear c37b1
                       try clear c38
                       try clear c38b0
                       try clear c38b1
                       try clear c39
                       try clear c39b0
                       try clear c39b1
                       try clear c41
                       try clear c42
                       try clear c42b0
                       try clear c43
                       try clear c43b0
                       try clear c43b1
                       try clear c45
                       try clear c46
                       try clear c46b0
                       try clear c46b1
                       try clear c47
                       try clear c47b0
                       try clear c47b1
                       try clear c54
                       try clear c55
                       try clear c57
                       try clear c63
                       try clear c64
                       try clear c65
                       try clear c66
                       try clear c68
                       try clear c69
                       try clear c70
                       try clear c76
                       try clear c77
                       try clear c78
                       try clear c79
                       try clear c80
                       try clear c81
                       try clear c83
                       try clear c84
                       try clear c85
                       try clear c86
                       try clear c87
                       try clear c93
                       try clear c94
                       try clear c95
                       try clear c96
                       try clear c97
                       try clear c98
                       try clear c99
                       try clear c100
                       try clear c103
                       try clear c104
                       try clear c105
                       try clear c106
                       try clear c107
                       try clear c108
                       try clear c109
                       try clear q120
                       try clear q121
                       try clear hcz101_0
                       try clear hcz101_1
                       try clear hcz110_0
                       try clear hcz110_1
                       try clear hcz112_0
                       try clear hcz112_1
                       try clear hcz113_0
                       try clear hcz113_1
                       try clear hcz114_0
                       try clear hcz114_1
                       try clear hcz115_0
                       try clear hcz115_1
                       try clear hcz13_0
                       try clear hcz13_1
                       try clear hcz17_0
                       try clear hcz17_1
                       try clear hcz21_0
                       try clear hcz21_1
                       try clear hcz25_0
                       try clear hcz25_1
                       try clear hcz50_0
                       try clear hcz50_1
                       try clear hcz56_0
                       try clear hcz56_1
                       try clear hcz58_0
                       try clear hcz58_1
                       try clear hcz59_0
                       try clear hcz59_1
                       try clear hcz67_0
                       try clear hcz67_1
                       try clear hcz71_0
                       try clear hcz71_1
                       try clear hcz72_0
                       try clear hcz72_1
                       try clear hcz82_0
                       try clear hcz82_1
                       try clear hcz88_0
                       try clear hcz88_1
                       try clear hcz89_0
                       try clear hcz89_1
                       try clear hcz9_0
                       try clear hcz9_1
                       try clear hfz101_0
                       try clear hfz101_1
                       try clear hfz110_0
                       try clear hfz110_1
                       try clear hfz112_0
                       try clear hfz112_1
                       try clear hfz113_0
                       try clear hfz113_1
                       try clear hfz114_0
                       try clear hfz114_1
                       try clear hfz115_0
                       try clear hfz115_1
                       try clear hfz13_0
                       try clear hfz13_1
                       try clear hfz17_0
                       try clear hfz17_1
                       try clear hfz21_0
                       try clear hfz21_1
                       try clear hfz25_0
                       try clear hfz25_1
                       try clear hfz50_0
                       try clear hfz50_1
                       try clear hfz56_0
                       try clear hfz56_1
                       try clear hfz58_0
                       try clear hfz58_1
                       try clear hfz59_0
                       try clear hfz59_1
                       try clear hfz67_0
                       try clear hfz67_1
                       try clear hfz71_0
                       try clear hfz71_1
                       try clear hfz72_0
                       try clear hfz72_1
                       try clear hfz82_0
                       try clear hfz82_1
                       try clear hfz88_0
                       try clear hfz88_1
                       try clear hfz89_0
                       try clear hfz89_1
                       try clear hfz9_0
                       try clear hfz9_1
                       try clear q120
                       try clear q121
                       obtain ⟨x19_1, x20_1, rfl, HA, HK1, HO_13, HO_19, HB⟩ := hrel
                       cases gk with
                       | zero => exact absurd HA.out (by simp [brindlewoodlaw4_RandomPrefixes.l0])
                       | succ k1 =>
                        have H := HA.out
                        clear HA
                        simp only [brindlewoodlaw4_RandomPrefixes.l0] at H
                        by_cases c124 : x20_1 < a1
                        ·rw [if_pos c124] at H
                         have c124b0 : decide (x20_1 < a1) = true := zE c124
                         clear c124
                         by_cases c125 : 0 ≤ x20_1
                         ·rw [if_pos c125] at H
                          have c125b0 : decide (0 ≤ x20_1) = true := zE c125
                          clear c125
                          by_cases c126 : x20_1 < (t493.length : Int)
                          ·rw [if_pos c126] at H
                           have c126b0 : decide (x20_1 < (t493.length : Int)) = true := zE c126
                           clear c126
                           by_cases c127 : (rd t493 x20_1) < 0
                           ·rw [if_pos c127] at H
                            exact absurd H (by simp)
                           ·rw [if_neg c127] at H
                            have c127b0 : decide ((rd t493 x20_1) < 0) = false := decide_eq_false c127
                            clear c127
                            by_cases c128 : (rd t493 x20_1) ≥ a1
                            ·rw [if_pos c128] at H
                             exact absurd H (by simp)
                            ·rw [if_neg c128] at H
                             have c128b0 : decide (a1 ≤ (rd t493 x20_1)) = false := decide_eq_false c128
                             clear c128
                             by_cases c129 : 0 ≤ (rd t493 x20_1)
                             ·rw [if_pos c129] at H
                              have c129b0 : decide (0 ≤ (rd t493 x20_1)) = true := zE c129
                              clear c129
                              by_cases c130 : (rd t493 x20_1) < (x19_1.length : Int)
                              ·rw [if_pos c130] at H
                               have c130b0 : decide ((rd t493 x20_1) < (x19_1.length : Int)) = true := zE c130
                               clear c130
                               obtain ⟨bq131, hbq131⟩ : ∃ b_ : Bool, b_ = (rdOf false x19_1 (rd t493 x20_1)) := ⟨_, rfl⟩
                               replace H : (if bq131 = true then (none) else (brindlewoodlaw4_RandomPrefixes.l0 k1 a1 t493 (x19_1.set ((rd t493 x20_1) : Int).toNat true) (wrap64 (x20_1 + 1)))) = some r := by rw [← hbq131] at H; exact H
                               have Nbq131 := zM hbq131
                               clear hbq131
                               by_cases c132 : bq131 = true
                               ·subst c132
                                have H1 : (none) = some r := by rw [if_pos rfl] at H; exact H
                                clear H
                                have H := H1
                                clear H1
                                exact absurd H (by simp)
                               ·replace c132 := Bool.eq_false_iff.mpr c132
                                subst c132
                                have H1 : (brindlewoodlaw4_RandomPrefixes.l0 k1 a1 t493 (x19_1.set ((rd t493 x20_1) : Int).toNat true) (wrap64 (x20_1 + 1))) = some r := by rw [if_neg (show ¬ (false = true) by decide)] at H; exact H
                                clear H
                                have H := H1
                                clear H1
                                obtain ⟨y529, hy529⟩ : ∃ y_ : List Bool, y_ = (x19_1.set ((rd t493 x20_1) : Int).toNat true) := ⟨_, rfl⟩
                                replace H : (brindlewoodlaw4_RandomPrefixes.l0 k1 a1 t493 y529 (wrap64 (x20_1 + 1))) = some r := by first | (rw [hy529]; with_reducible exact H) | (have H2_ := (Option.bind_some _ _).symm.trans H; rw [hy529]; with_reducible exact H2_) | (have H2_ := (Option.bind_some _ _).symm.trans H; with_reducible exact H2_) | with_reducible exact H | (rw [hy529]; exact H) | exact H
                                have Ny529 := zM hy529
                                clear hy529
                                have H' := zM H
                                clear H
                                have p524 : 0 ≤ (x20_1 : Int) := zD (by first | (with_reducible assumption) | assumption)
                                have q524 : x20_1 < (t493.length : Int) := zD (by first | (with_reducible assumption) | assumption)
                                obtain ⟨ad524, e524, hx524_0⟩ := Kd.at_int (Kd.R_reads' HO_13.out).2.2 x20_1 p524 q524
                                cases e524
                                replace p524 := eq_true p524
                                replace q524 := eq_true q524
                                have p525 : 0 ≤ (x20_1 : Int) := zD (by first | (with_reducible assumption) | assumption)
                                have q525 : x20_1 < (t493.length : Int) := zD (by first | (with_reducible assumption) | assumption)
                                obtain ⟨ad525, e525, hx525_0⟩ := Kd.at_int (Kd.R_reads' HO_13.out).2.2 x20_1 p525 q525
                                obtain rfl : ad524 = ad525 := (by injection e525)
                                replace p525 := eq_true p525
                                replace q525 := eq_true q525
                                have p526 : 0 ≤ (x20_1 : Int) := zD (by first | (with_reducible assumption) | assumption)
                                have q526 : x20_1 < (t493.length : Int) := zD (by first | (with_reducible assumption) | assumption)
                                obtain ⟨ad526, e526, hx526_0⟩ := Kd.at_int (Kd.R_reads' HO_13.out).2.2 x20_1 p526 q526
                                obtain rfl : ad524 = ad526 := (by injection e526)
                                replace p526 := eq_true p526
                                replace q526 := eq_true q526
                                obtain ⟨Ao134, co134, eo134⟩ := Kd.R_slice HO_19.out
                                subst eo134
                                have p527 : 0 ≤ ((rd t493 x20_1) : Int) := zD (by first | (with_reducible assumption) | assumption)
                                have q527 : (rd t493 x20_1) < (x19_1.length : Int) := zD (by first | (with_reducible assumption) | assumption)
                                obtain ⟨ad527, e527, hx527_0⟩ := Kd.at_bool (Kd.R_reads' HO_19.out).2.2 (rd t493 x20_1) p527 q527
                                (try rw [← Nbq131.out] at hx527_0)
                                cases e527
                                replace p527 := eq_true p527
                                replace q527 := eq_true q527
                                have p528 : 0 ≤ (x20_1 : Int) := zD (by first | (with_reducible assumption) | assumption)
                                have q528 : x20_1 < (t493.length : Int) := zD (by first | (with_reducible assumption) | assumption)
                                obtain ⟨ad528, e528, hx528_0⟩ := Kd.at_int (Kd.R_reads' HO_13.out).2.2 x20_1 p528 q528
                                obtain rfl : ad524 = ad528 := (by injection e528)
                                replace p528 := eq_true p528
                                replace q528 := eq_true q528
                                have p133 : 0 ≤ ((rd t493 x20_1) : Int) := zD (by first | (with_reducible assumption) | assumption)
                                have q133 : ((rd t493 x20_1) : Int) < ((x19_1.length : Int) : Int) := zD (by first | (with_reducible assumption) | assumption)
                                obtain ⟨go133, co133, eo133, gb133, gl133, cl133, HG133⟩ := Kd.R_form HO_19.out (by omega)
                                (first | cases eo133 | (injection eo133 with ea_ en_ ec_; (first | subst ea_ | (injection ea_ with ea_; subst ea_)); subst ec_; clear en_))
                                have GB133 := zM gb133
                                have GG133 := zM HG133
                                clear gb133 gl133 HG133
                                (first | simp only [add_plain] at hx527_0 | skip)
                                obtain ⟨hx133_0, hf133_0⟩ := Kd.R_celln false HO_19.out ((rd t493 x20_1) : Int) p133 q133
                                replace p133 := eq_true p133
                                replace q133 := eq_true q133
                                have HP135 := Kd.R_putg HO_19.out ((rd t493 x20_1) : Int) true
                                go_wp2_with (first | ((with_reducible refine gate_store (t := 4) (p := 166) rfl ?_); refine store_event (t := 4) (p := 166) (v := ?vo_w136) (w1 := (wr.setCell ⟨go133, ((rd t493 x20_1) : Int).toNat, none⟩ (.bool true))) ?hg ?ho ?hn ?hr ?_; (case ho => rfl); (case hg => rfl); (case hn => rfl); (case hr => first | (go_simp; done) | (go_simp; rfl)); intro w136 hw; have hg : wr.grownBy w136 (some go133) := (by rw [hw]; exact HP135.2); have hp_ : Kd.R Kd.bool 4 w136 w.heap.size (fun _ => True) (.slice (some ⟨go133, 0, none⟩) x19_1.length co134) y529 := (by rw [hw, Ny529.out]; exact HP135.1); clear HP135; replace HO_13 := zM (Kd.R_over' (v := (.slice (some ⟨go133, 0, none⟩) x19_1.length co134)) (by (with_reducible repeat (first | apply Kd.R_alloc | apply Kd.R_drewN | apply Kd.R_drew)); exact HO_13.out) (Kd.R_typed HO_19.out) (by decide) hg); replace HO_19 := zM (hp_); replace HB := zM ((by rw [hw]; exact below_set (HB.out) GB133.out : Below w.heap.size w w136)); clear hg hw hp_))
                                go_roundg k1
                                case measure => have := HK1.out; omega
                                case rel => exact ⟨(y529), (wrap64 (x20_1 + 1)), (by first | rfl | (simp; done) | (simp [*]; done)), H', ⟨by have := HK1.out; omega⟩, ⟨by (with_reducible repeat (first | apply Kd.R_alloc | apply Kd.R_drewN | apply Kd.R_drew)); exact HO_13.out⟩, ⟨by (with_reducible repeat (first | apply Kd.R_alloc | apply Kd.R_drewN | apply Kd.R_drew)); exact HO_19.out⟩, ⟨HB.out⟩⟩
                              ·rw [if_neg c130] at H
                               exact absurd H (by simp)
                             ·rw [if_neg c129] at H
                              exact absurd H (by simp)
                          ·rw [if_neg c126] at H
                           exact absurd H (by simp)
                         ·rw [if_neg c125] at H
                          exact absurd H (by simp)
                        ·rw [if_neg c124] at H
                         have c124b0 : decide (x20_1 < a1) = false := decide_eq_false c124
                         clear c124
                         obtain rfl := Option.some.inj H
                         go_wp2
                         go_ret
                         exact ⟨by first | rfl | (simp [errW_none, errW_some] <;> rfl) | (simp [*, errW_none, errW_some] <;> rfl), HB.out⟩
                     ·rw [if_neg c47] at H
                      exact absurd H (by simp)
                    ·rw [if_neg c46] at H
                     exact absurd H (by simp)
                   ·replace c45 := Bool.eq_false_iff.mpr c45
                    subst c45
                    have H1 : (none) = some r := by rw [if_neg (show ¬ (false = true) by decide)] at H; exact H
                    clear H
                    have H := H1
                    clear H1
                    exact absurd H (by simp)
                  ·rw [if_neg c43] at H
                   exact absurd H (by simp)
                 ·replace c41 := Bool.eq_false_iff.mpr c41
                  subst c41
                  have H1 : (none) = some r := by rw [if_neg (show ¬ (false = true) by decide)] at H; exact H
                  clear H
                  have H := H1
                  clear H1
                  exact absurd H (by simp)
                ·rw [if_neg c39] at H
                 exact absurd H (by simp)
               ·rw [if_neg c38] at H
                exact absurd H (by simp)
              ·rw [if_neg c37] at H
               exact absurd H (by simp)
             ·rw [if_neg c36] at H
              exact absurd H (by simp)
            ·rw [if_neg c35] at H
             exact absurd H (by simp)
           ·rw [if_neg c34] at H
            exact absurd H (by simp)
          ·rw [if_neg c33] at H
           exact absurd H (by simp)
         ·rw [if_neg c32] at H
          exact absurd H (by simp)
        ·rw [if_neg c31] at H
         exact absurd H (by simp)
       ·rw [if_neg c30] at H
        exact absurd H (by simp)
 ·replace c5 := Bool.eq_false_iff.mpr c5
  subst c5
  have H1 : (none) = some r := by rw [if_neg (show ¬ (false = true) by decide)] at H; exact H
  clear H
  have H := H1
  clear H1
  exact absurd H (by simp)

end Go.Proofs.Ytkhiohlfdkkhdaa.P
