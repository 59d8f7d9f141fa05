-- Written by the session's own program wip/tools/mp.py (over the kit's print) out of the translation. Not trusted: Lean checks it.
import Derived.Test.YtkhiohlfdkkhdaaRPP0
import Derived.Test.YtkhiohlfdkkhdaaRPP2
import Derived.Test.YtkhiohlfdkkhdaaRPP4
import Derived.Test.YtkhiohlfdkkhdaaRPP5
namespace Go.Proofs.Ytkhiohlfdkkhdaa.P
open Go.RowKit Go.Proofs.YtkhiohlfdkkhdaaW.PrintWords Go.Proofs.YtkhiohlfdkkhdaaW.PrintLast Go.Proofs.YtkhiohlfdkkhdaaW.PrintMore
attribute [local go_sem] max2_int min2_int max_two min_two max_three min_three max_four min_four   -- for this text's walks alone
set_option linter.unusedVariables false
set_option linter.unusedSimpArgs false

/-! ### random_Below: function 16 -/
def random_Below.j0 : Nat → Bool → Bool → List Int → Int → Int → Option (Bool × List Int × Int × Int × Int × Int)
 | 0, _, _, _, _, _ => none
 | k + 1, x29, x299000, x299001, x306000, x306001 => if x29 = true then ((random_at.f 4 (-2)).bind fun bt308 => (some (false, ([] : List Int), 0, 0, bt308.1, bt308.2))) else ((random_source_below.f k x306000 x306001 x299000 x299001).bind fun bt310 => (some (bt310.1, bt310.2.1, bt310.2.2.1, bt310.2.2.2, 0, 0)))
def random_Below.f (k : Nat) (a0_0 : Int) (a0_1 : Int) (a1_0 : Bool) (l1_1 : List Int) : Option (Bool × List Int × Int × Int × Int × Int) := if a0_1 % 2 = 0 then ((random_open_no.f a0_0 a0_1).bind fun _ => (some (false, ([] : List Int), 0, 0, 6, (-1)))) else ((random_open_ok.f a0_0 a0_1).bind fun bt303 => ((integer_Valid.f a1_0 l1_1).bind fun t307 => (if t307 = true then (if a1_0 = true then (random_Below.j0 k true a1_0 l1_1 bt303.1 bt303.2) else (random_Below.j0 k ((l1_1.length : Int) == 0) a1_0 l1_1 bt303.1 bt303.2)) else ((random_at.f 6 (-2)).bind fun bt317 => (some (false, ([] : List Int), 0, 0, bt317.1, bt317.2))))))
theorem random_Below.mono_l : ∀ k, (∀ y0 y1 y2 y3 y4, LeO (random_Below.j0 k y0 y1 y2 y3 y4) (random_Below.j0 (k + 1) y0 y1 y2 y3 y4))
 | 0 => fun _ _ _ _ _ r h => by simp [random_Below.j0] at h
 | k + 1 => by
  have ih0 := random_Below.mono_l k
  ·intro y0 y1 y2 y3 y4
   unfold random_Below.j0
   repeat' first
   | (with_reducible exact ih0 _ _ _ _ _)
   | (with_reducible exact random_source_below.mono _ _ _ _ _)
   | (with_reducible exact LeO.refl _)
   | (with_reducible exact LeO.none _)
   | (with_reducible refine LeO.ite ?_ ?_)
   | (with_reducible refine LeO.bind ?_ (fun _ => ?_))
   | exact ih0 _ _ _ _ _
   | exact random_source_below.mono _ _ _ _ _
   | exact LeO.none _
   | refine LeO.ite ?_ ?_
   | refine LeO.bind ?_ (fun _ => ?_)
theorem random_Below.mono : ∀ a0 a1 a2 a3 k, LeO (random_Below.f k a0 a1 a2 a3) (random_Below.f (k + 1) a0 a1 a2 a3) := by
 intro a0 a1 a2 a3 k
 have ih0 := random_Below.mono_l k
 unfold random_Below.f
 repeat' first
   | (with_reducible exact ih0 _ _ _ _ _)
   | (with_reducible exact random_source_below.mono _ _ _ _ _)
   | (with_reducible exact LeO.refl _)
   | (with_reducible exact LeO.none _)
   | (with_reducible refine LeO.ite ?_ ?_)
   | (with_reducible refine LeO.bind ?_ (fun _ => ?_))
   | exact ih0 _ _ _ _ _
   | exact random_source_below.mono _ _ _ _ _
   | exact LeO.none _
   | refine LeO.ite ?_ ?_
   | refine LeO.bind ?_ (fun _ => ?_)
def random_Below.T9 : Bool × List (List Nat × List Nat) := (true, [([], []), ([], []), ([1], [1]), ([2], [2]), ([3], [3]), ([], []), ([0, 0], [0]), ([4, 6, 0, 1, 2, 3, 4, 6], [4]), ([5, 7, 0, 1, 2, 3, 4, 5, 6, 7], [5])])
def random_Below.B9 : List Nat := [0, 0, 2, 6, 14, 0, 1, 95, 255]
theorem random_Below.tab9 : rtab .any (opsOf Try.f16 9) = random_Below.T9 := by kernel_rfl
theorem random_Below.bits9 : waitsOk random_Below.T9.2 random_Below.B9 = true := by kernel_rfl
set_option maxHeartbeats 60000000 in
set_option maxRecDepth 100000 in
theorem random_Below.calls (k : Nat) (a0_0 : Int) (a0_1 : Int) (a1_0 : Bool) (A1_1 : Option Addr) (c1_1 : Nat) (l1_1 : List Int) (r1 : Bool) (r2 : List Int) (r3 : Int) (r4 : Int) (r5 : Int) (r6 : Int) (w : World) (hr1_1 : Kd.C (Kd.int .u32) w A1_1 l1_1.length l1_1) (hc1_1 : l1_1.length ≤ c1_1) (h : random_Below.f k a0_0 a0_1 a1_0 l1_1 = some (r1, r2, r3, r4, r5, r6)) :
  Calls Try.prog 16 #[.agg #[.int .u64 a0_0, .int .u64 a0_1], .agg #[.bool a1_0, .slice A1_1 l1_1.length c1_1]] w fun e w' => ∃ v1_ : Value, e = .returned (.tuple #[.agg #[.bool r1, v1_], .agg #[.int .u64 r3, .int .u64 r4], .agg #[.int .i64 r5, .int .i64 r6]]) ∧ Kd.R (Kd.int .u32) 76 w' w.heap.size (fun _ => True) v1_ r2 ∧ Below w.heap.size w w' := by
 have hu27 := Try.underlying27
 have hu24 := Try.underlying24
 have hu29 := Try.underlying29
 have HR1_1 := zM hr1_1
 have HC1_1 := zM hc1_1
 clear hr1_1 hc1_1
 have HB := zM (Below.refl w.heap.size w)
 have H : (if a0_1 % 2 = 0 then ((random_open_no.f a0_0 a0_1).bind fun _ => (some (false, ([] : List Int), 0, 0, 6, (-1)))) else ((random_open_ok.f a0_0 a0_1).bind fun bt303 => ((integer_Valid.f a1_0 l1_1).bind fun t307 => (if t307 = true then (if a1_0 = true then (random_Below.j0 k true a1_0 l1_1 bt303.1 bt303.2) else (random_Below.j0 k ((l1_1.length : Int) == 0) a1_0 l1_1 bt303.1 bt303.2)) else ((random_at.f 6 (-2)).bind fun bt317 => (some (false, ([] : List Int), 0, 0, bt317.1, bt317.2))))))) = some (r1, r2, r3, r4, r5, r6) := h
 clear h
 by_cases c3 : a0_1 % 2 = 0
 ·rw [if_pos c3] at H
  have c3b0 : (a0_1 % 2 == 0) = true := beq_iff_eq.mpr c3
  have c3b1 : (a0_1 % 2 != 0) = false := bne_eq_false_iff_eq.mpr c3
  clear c3
  replace H := zB H
  obtain ⟨_, A40, H⟩ := H
  replace H : (some (false, ([] : List Int), 0, 0, 6, (-1))) = some (r1, r2, r3, r4, r5, r6) := H
  have A4 := zM A40
  clear A40
  simp only [Option.some.injEq, Prod.mk.injEq] at H
  obtain ⟨rfl, rfl, rfl, rfl, rfl, rfl⟩ := H
  go_enter Try.func16, Try.ntmps16
  try go_wp2_with (first | ((with_reducible refine gate_dst (N := 2) rfl ?_); (try (refine gate_guard (by rfl) ?_; dsimp only)); refine box_event ?hg (N := 2) ?hd (cs := #[.int .u64 a0_0, .int .u64 a0_1]) (t := 27) ?hr ?_; (case hd => rfl); (case hg => rfl); (case hr => first | (go_simp; done) | (go_simp; rfl)); intro gb297 hg w5 hbox hb; have BK297 := zM (hbox); have GW297 := zM ((by rw [hg]; exact (below_size (HB.out)) : w.heap.size ≤ gb297)); have GE297 := GW297; replace HB := zM (below_step (HB.out) hb); clear hb hbox hg) | ((with_reducible refine gate_dst (N := 3) rfl ?_); (try (refine gate_guard (by rfl) ?_; dsimp only)); refine box_event ?hg (N := 3) ?hd (cs := #[.bool a1_0, .slice A1_1 l1_1.length c1_1]) (t := 24) ?hr ?_; (case hd => rfl); (case hg => rfl); (case hr => first | (go_simp; done) | (go_simp; rfl)); intro gb298 hg w6 hbox hb; have BK298 := zM (hbox); have GW298 := zM ((by rw [hg]; exact (below_size (by repeat (first | (with_reducible first | exact HB.out | apply pzA | apply pzD | apply pz1 | apply pzs | assumption) | exact HB.out))) : w.heap.size ≤ gb298)); have GE298 := GW298; have NB297_298 := pzf BK297 hg; have NB298_297 := pzg BK297 hg; replace BK297 := pzb BK297 hb; replace HB := zM (below_step (by repeat (first | (with_reducible first | exact HB.out | apply pzA | apply pzD | apply pz1 | apply pzs | assumption) | exact HB.out)) hb); clear hb hbox hg) | ((with_reducible refine gate_dst (N := 4) rfl ?_); (try (refine gate_guard (by rfl) ?_; dsimp only)); refine box_event ?hg (N := 4) ?hd (cs := #[.bool false, .slice none 0 0]) (t := 24) ?hr ?_; (case hd => rfl); (case hg => rfl); (case hr => first | (go_simp; done) | (go_simp; rfl)); intro gb299 hg w7 hbox hb; have BK299 := zM (hbox); have GW299 := zM ((by rw [hg]; exact (below_size (by repeat (first | (with_reducible first | exact HB.out | apply pzA | apply pzD | apply pz1 | apply pzs | assumption) | exact HB.out))) : w.heap.size ≤ gb299)); have GE299 := GW299; have NB297_299 := pzf BK297 hg; have NB299_297 := pzg BK297 hg; have NB298_299 := pzf BK298 hg; have NB299_298 := pzg BK298 hg; replace BK297 := pzb BK297 hb; replace BK298 := pzb BK298 hb; replace HB := zM (below_step (by repeat (first | (with_reducible first | exact HB.out | apply pzA | apply pzD | apply pz1 | apply pzs | assumption) | exact HB.out)) hb); clear hb hbox hg) | ((with_reducible refine gate_dst (N := 5) rfl ?_); (try (refine gate_guard (by rfl) ?_; dsimp only)); refine box_event ?hg (N := 5) ?hd (cs := #[.int .u64 0, .int .u64 0]) (t := 27) ?hr ?_; (case hd => rfl); (case hg => rfl); (case hr => first | (go_simp; done) | (go_simp; rfl)); intro gb300 hg w8 hbox hb; have BK300 := zM (hbox); have GW300 := zM ((by rw [hg]; exact (below_size (by repeat (first | (with_reducible first | exact HB.out | apply pzA | apply pzD | apply pz1 | apply pzs | assumption) | exact HB.out))) : w.heap.size ≤ gb300)); have GE300 := GW300; have NB297_300 := pzf BK297 hg; have NB300_297 := pzg BK297 hg; have NB298_300 := pzf BK298 hg; have NB300_298 := pzg BK298 hg; have NB299_300 := pzf BK299 hg; have NB300_299 := pzg BK299 hg; replace BK297 := pzb BK297 hb; replace BK298 := pzb BK298 hb; replace BK299 := pzb BK299 hb; replace HB := zM (below_step (by repeat (first | (with_reducible first | exact HB.out | apply pzA | apply pzD | apply pz1 | apply pzs | assumption) | exact HB.out)) hb); clear hb hbox hg) | ((with_reducible refine gate_dst (N := 6) rfl ?_); (try (refine gate_guard (by rfl) ?_; dsimp only)); refine box_event ?hg (N := 6) ?hd (cs := #[.int .i64 0, .int .i64 0]) (t := 29) ?hr ?_; (case hd => rfl); (case hg => rfl); (case hr => first | (go_simp; done) | (go_simp; rfl)); intro gb301 hg w9 hbox hb; have BK301 := zM (hbox); have GW301 := zM ((by rw [hg]; exact (below_size (by repeat (first | (with_reducible first | exact HB.out | apply pzA | apply pzD | apply pz1 | apply pzs | assumption) | exact HB.out))) : w.heap.size ≤ gb301)); have GE301 := GW301; have NB297_301 := pzf BK297 hg; have NB301_297 := pzg BK297 hg; have NB298_301 := pzf BK298 hg; have NB301_298 := pzg BK298 hg; have NB299_301 := pzf BK299 hg; have NB301_299 := pzg BK299 hg; have NB300_301 := pzf BK300 hg; have NB301_300 := pzg BK300 hg; replace BK297 := pzb BK297 hb; replace BK298 := pzb BK298 hb; replace BK299 := pzb BK299 hb; replace BK300 := pzb BK300 hb; replace HB := zM (below_step (by repeat (first | (with_reducible first | exact HB.out | apply pzA | apply pzD | apply pz1 | apply pzs | assumption) | exact HB.out)) hb); clear hb hbox hg; have hnb10 := NB297_298.out; have hnc10 := NB298_297.out; have hnb11 := NB297_299.out; have hnc11 := NB299_297.out; have hnb12 := NB297_300.out; have hnc12 := NB300_297.out; have hnb13 := NB297_301.out; have hnc13 := NB301_297.out; have hcz14_0 := pzc (v := .int .u64 a0_0) BK297 0 rfl; have hcz14_1 := pzc (v := .int .u64 a0_1) BK297 1 rfl; have hfz14_0 := zF BK297.out 0; have hfz14_1 := zF BK297.out 1) | ((with_reducible refine gate_callee (f := 39) rfl ?_); refine goesL_ (some 12) rfl rfl Try.func39 (by kernel_rfl) rfl #[.agg #[.int .u64 a0_0, .int .u64 a0_1]] rfl (by (try simp only [zT, zC, zN]); first | done | rfl | (simp only [zR, zL]; rfl)) ?_; (with_reducible refine (random_open_no.calls a0_0 a0_1  _ A4.out).mono ?_); rintro e w15 ⟨rfl, hb⟩; refine ⟨_, rfl, ?_⟩; replace BK297 := pzb BK297 hb; replace BK298 := pzb BK298 hb; replace BK299 := pzb BK299 hb; replace BK300 := pzb BK300 hb; replace BK301 := pzb BK301 hb; replace HB := zM (below_step (by repeat (first | (with_reducible first | exact HB.out | apply pzA | apply pzD | apply pz1 | apply pzs | assumption) | exact HB.out)) hb); (try clear hb); (try clear hb2); (try clear hk); (try clear hi)) | ((with_reducible refine gate_dst (N := 8) rfl ?_); (try (refine gate_guard (by rfl) ?_; dsimp only)); refine box_event ?hg (N := 8) ?hd (cs := #[.int .i64 0, .int .i64 0]) (t := 29) ?hr ?_; (case hd => rfl); (case hg => rfl); (case hr => first | (go_simp; done) | (go_simp; rfl)); intro gb302 hg w16 hbox hb; have BK302 := zM (hbox); have GW302 := zM ((by rw [hg]; exact (below_size (by repeat (first | (with_reducible first | exact HB.out | apply pzA | apply pzD | apply pz1 | apply pzs | assumption) | exact HB.out))) : w.heap.size ≤ gb302)); have GE302 := GW302; have NB297_302 := pzf BK297 hg; have NB302_297 := pzg BK297 hg; have NB298_302 := pzf BK298 hg; have NB302_298 := pzg BK298 hg; have NB299_302 := pzf BK299 hg; have NB302_299 := pzg BK299 hg; have NB300_302 := pzf BK300 hg; have NB302_300 := pzg BK300 hg; have NB301_302 := pzf BK301 hg; have NB302_301 := pzg BK301 hg; replace BK297 := pzb BK297 hb; replace BK298 := pzb BK298 hb; replace BK299 := pzb BK299 hb; replace BK300 := pzb BK300 hb; replace BK301 := pzb BK301 hb; replace HB := zM (below_step (by repeat (first | (with_reducible first | exact HB.out | apply pzA | apply pzD | apply pz1 | apply pzs | assumption) | exact HB.out)) hb); clear hb hbox hg; have hnb17 := NB302_297.out; have hnc17 := NB297_302.out; have hnb18 := NB302_298.out; have hnc18 := NB298_302.out; have hnb19 := NB302_299.out; have hnc19 := NB299_302.out; have hnb20 := NB302_300.out; have hnc20 := NB300_302.out; have hnb21 := NB302_301.out; have hnc21 := NB301_302.out; have hcz22_0 := pzc (v := .int .i64 0) BK302 0 rfl; have hcz22_1 := pzc (v := .int .i64 0) BK302 1 rfl; have hfz22_0 := zF BK302.out 0; have hfz22_1 := zF BK302.out 1))
  have n0_ : Aside0 (((w16.setCell ⟨gb302, 0, none⟩ (.int .i64 6)).setCell ⟨gb302, 1, none⟩ (.int .i64 (-1))).heap[gb297]? = some (.cells #[.int .u64 a0_0, .int .u64 a0_1] 27 (0, 0))) := ⟨by (with_reducible repeat (first | apply pzN | apply pzd | apply pza)); refine blk_far ?_ NB297_302.out _; (with_reducible repeat (first | apply pzN | apply pzd | apply pza)); refine blk_far ?_ NB297_302.out _; (with_reducible repeat (first | apply pzN | apply pzd | apply pza)); exact BK297.out⟩
  have n1_ : Aside0 (((w16.setCell ⟨gb302, 0, none⟩ (.int .i64 6)).setCell ⟨gb302, 1, none⟩ (.int .i64 (-1))).heap[gb298]? = some (.cells #[.bool a1_0, .slice A1_1 l1_1.length c1_1] 24 (0, 0))) := ⟨by (with_reducible repeat (first | apply pzN | apply pzd | apply pza)); refine blk_far ?_ NB298_302.out _; (with_reducible repeat (first | apply pzN | apply pzd | apply pza)); refine blk_far ?_ NB298_302.out _; (with_reducible repeat (first | apply pzN | apply pzd | apply pza)); exact BK298.out⟩
  have n2_ : Aside0 (((w16.setCell ⟨gb302, 0, none⟩ (.int .i64 6)).setCell ⟨gb302, 1, none⟩ (.int .i64 (-1))).heap[gb299]? = some (.cells #[.bool false, .slice none 0 0] 24 (0, 0))) := ⟨by (with_reducible repeat (first | apply pzN | apply pzd | apply pza)); refine blk_far ?_ NB299_302.out _; (with_reducible repeat (first | apply pzN | apply pzd | apply pza)); refine blk_far ?_ NB299_302.out _; (with_reducible repeat (first | apply pzN | apply pzd | apply pza)); exact BK299.out⟩
  have n3_ : Aside0 (((w16.setCell ⟨gb302, 0, none⟩ (.int .i64 6)).setCell ⟨gb302, 1, none⟩ (.int .i64 (-1))).heap[gb300]? = some (.cells #[.int .u64 0, .int .u64 0] 27 (0, 0))) := ⟨by (with_reducible repeat (first | apply pzN | apply pzd | apply pza)); refine blk_far ?_ NB300_302.out _; (with_reducible repeat (first | apply pzN | apply pzd | apply pza)); refine blk_far ?_ NB300_302.out _; (with_reducible repeat (first | apply pzN | apply pzd | apply pza)); exact BK300.out⟩
  have n4_ : Aside0 (((w16.setCell ⟨gb302, 0, none⟩ (.int .i64 6)).setCell ⟨gb302, 1, none⟩ (.int .i64 (-1))).heap[gb301]? = some (.cells #[.int .i64 0, .int .i64 0] 29 (0, 0))) := ⟨by (with_reducible repeat (first | apply pzN | apply pzd | apply pza)); refine blk_far ?_ NB301_302.out _; (with_reducible repeat (first | apply pzN | apply pzd | apply pza)); refine blk_far ?_ NB301_302.out _; (with_reducible repeat (first | apply pzN | apply pzd | apply pza)); exact BK301.out⟩
  have n5_ : Aside0 (((w16.setCell ⟨gb302, 0, none⟩ (.int .i64 6)).setCell ⟨gb302, 1, none⟩ (.int .i64 (-1))).heap[gb302]? = some (.cells #[.int .i64 6, .int .i64 (-1)] 29 (0, 0))) := ⟨by (with_reducible repeat (first | apply pzN | apply pzd | apply pza)); refine blk_put (cs := #[.int .i64 6, .int .i64 0]) ?_ 1 _ rfl; (with_reducible repeat (first | apply pzN | apply pzd | apply pza)); refine blk_put (cs := #[.int .i64 0, .int .i64 0]) ?_ 0 _ rfl; (with_reducible repeat (first | apply pzN | apply pzd | apply pza)); exact BK302.out⟩
  have n6_ : Aside0 (Below w.heap.size w ((w16.setCell ⟨gb302, 0, none⟩ (.int .i64 6)).setCell ⟨gb302, 1, none⟩ (.int .i64 (-1)))) := ⟨by repeat (first | (with_reducible first | exact HB.out | apply pzA | apply pzD | apply pz1 | apply pzs | assumption) | exact HB.out)⟩
  (try clear BK297)
  (try clear BK298)
  (try clear BK299)
  (try clear BK300)
  (try clear BK301)
  (try clear BK302)
  (try clear HB)
  generalize ((w16.setCell ⟨gb302, 0, none⟩ (.int .i64 6)).setCell ⟨gb302, 1, none⟩ (.int .i64 (-1))) = w23 at n0_ n1_ n2_ n3_ n4_ n5_ n6_ ⊢
  have BK297 := n0_
  have BK298 := n1_
  have BK299 := n2_
  have BK300 := n3_
  have BK301 := n4_
  have BK302 := n5_
  have HB := n6_
  clear n0_ n1_ n2_ n3_ n4_ n5_ n6_
  replace BK299 := zM (blk_drew BK299.out)
  replace BK300 := zM (blk_drew BK300.out)
  replace BK301 := zM (blk_drew BK301.out)
  replace BK302 := zM (blk_drew BK302.out)
  replace HB := zM (below_drew1 HB.out)
  refine start_ (n := 6) (S := fun w' => w'.cell? ⟨gb302, 0, none⟩ = some (.int .i64 6) ∧ w'.cell? ⟨gb302, 1, none⟩ = some (.int .i64 (-1))) (ds := []) #[false, false, false, false, false, false] (by kernel_rfl) rfl rfl ⟨(blk_cell BK302.out 0).trans rfl, (blk_cell BK302.out 1).trans rfl⟩ (fun hHeld => ?_)
  generalize w23.drew = w24 at BK299 BK300 BK301 HB hHeld ⊢
  refine pure_ (i := 0) (N := some 19) (v := ?_) (a' := ?_) #[true, false, false, false, false, false] rfl rfl (by kernel_rfl) (fun _ _ _ h => h) (Or.inl ⟨by rfl, ?_⟩) ?_ ?_
  rotate_left
  ·intro w'
   go_simp
   with_reducible rfl
  rotate_left
  ·simp only [Act.put, zS, z0, z1, i64_w, i32_w]
   rfl
  refine pure_ (i := 1) (N := some 20) (v := ?_) (a' := ?_) #[true, true, false, false, false, false] rfl rfl (by kernel_rfl) (fun _ _ _ h => h) (Or.inl ⟨by rfl, ?_⟩) ?_ ?_
  rotate_left
  ·intro w'
   go_simp
   with_reducible rfl
  rotate_left
  ·simp only [Act.put, zS, z0, z1, i64_w, i32_w]
   rfl
  refine take_ (i := 2) (N := some 21) (v := ?_) (a' := ?_) #[true, true, true, false, false, false] rfl rfl (by kernel_rfl) (fun _ _ _ h => h) (Or.inl ⟨by rfl, ?_⟩) hHeld ?_ ?_
  rotate_left
  ·rintro w' ⟨s0, s1⟩
   go_simp
   with_reducible rfl
  rotate_left
  ·simp only [Act.put, zS, z0, z1, i64_w, i32_w]
   rfl
  refine one_ (i := 3) (N := none) #[true, true, true, true, false, false] rfl rfl (by kernel_rfl) (by decide) (fun K hK => ?_)
  have hs25 : w24.cell? ⟨gb299, 0, none⟩ = some (.bool false) := (blk_cell BK299.out 0).trans rfl
  have hfs25 := zF BK299.out 0
  have hns25_0 := NB297_299.out
  have hns25_1 := NB298_299.out
  have hns25_3 := NB300_299.out
  have hns25_4 := NB301_299.out
  have hns25_5 := NB302_299.out
  have hms25_0 := NB299_297.out
  have hms25_1 := NB299_298.out
  have hms25_3 := NB299_300.out
  have hms25_4 := NB299_301.out
  have hms25_5 := NB299_302.out
  have hs26 : w24.cell? ⟨gb299, 1, none⟩ = some (.slice none 0 0) := (blk_cell BK299.out 1).trans rfl
  have hfs26 := zF BK299.out 1
  have hns26_0 := NB297_299.out
  have hns26_1 := NB298_299.out
  have hns26_3 := NB300_299.out
  have hns26_4 := NB301_299.out
  have hns26_5 := NB302_299.out
  have hms26_0 := NB299_297.out
  have hms26_1 := NB299_298.out
  have hms26_3 := NB299_300.out
  have hms26_4 := NB299_301.out
  have hms26_5 := NB299_302.out
  refine skip_ (w1 := ?_) (by rfl) rfl ?_ ?_
  rotate_left
  ·go_simp
   rfl
  refine hK.out _ _ ⟨((cell_far (p := ⟨gb299, _, none⟩) NB302_299.out _).trans (((cell_far (p := ⟨gb299, _, none⟩) NB302_299.out _).trans (hHeld.1)))), ((cell_far (p := ⟨gb299, _, none⟩) NB302_299.out _).trans (((cell_far (p := ⟨gb299, _, none⟩) NB302_299.out _).trans (hHeld.2))))⟩ (fun hHeld => ?_)
  clear hK K
  refine one_ (i := 4) (N := none) #[true, true, true, true, true, false] rfl rfl (by kernel_rfl) (by decide) (fun K hK => ?_)
  have hs27 : w24.cell? ⟨gb300, 0, none⟩ = some (.int .u64 0) := (blk_cell BK300.out 0).trans rfl
  have hfs27 := zF BK300.out 0
  have hns27_0 := NB297_300.out
  have hns27_1 := NB298_300.out
  have hns27_2 := NB299_300.out
  have hns27_4 := NB301_300.out
  have hns27_5 := NB302_300.out
  have hms27_0 := NB300_297.out
  have hms27_1 := NB300_298.out
  have hms27_2 := NB300_299.out
  have hms27_4 := NB300_301.out
  have hms27_5 := NB300_302.out
  have hs28 : w24.cell? ⟨gb300, 1, none⟩ = some (.int .u64 0) := (blk_cell BK300.out 1).trans rfl
  have hfs28 := zF BK300.out 1
  have hns28_0 := NB297_300.out
  have hns28_1 := NB298_300.out
  have hns28_2 := NB299_300.out
  have hns28_4 := NB301_300.out
  have hns28_5 := NB302_300.out
  have hms28_0 := NB300_297.out
  have hms28_1 := NB300_298.out
  have hms28_2 := NB300_299.out
  have hms28_4 := NB300_301.out
  have hms28_5 := NB300_302.out
  refine skip_ (w1 := ?_) (by rfl) rfl ?_ ?_
  rotate_left
  ·go_simp
   rfl
  refine hK.out _ _ ⟨((cell_far (p := ⟨gb300, _, none⟩) NB302_300.out _).trans (((cell_far (p := ⟨gb300, _, none⟩) NB302_300.out _).trans (hHeld.1)))), ((cell_far (p := ⟨gb300, _, none⟩) NB302_300.out _).trans (((cell_far (p := ⟨gb300, _, none⟩) NB302_300.out _).trans (hHeld.2))))⟩ (fun hHeld => ?_)
  clear hK K
  refine one_ (i := 5) (N := none) #[true, true, true, true, true, true] rfl rfl (by kernel_rfl) (by decide) (fun K hK => ?_)
  have hs29 : w24.cell? ⟨gb301, 0, none⟩ = some (.int .i64 0) := (blk_cell BK301.out 0).trans rfl
  have hfs29 := zF BK301.out 0
  have hns29_0 := NB297_301.out
  have hns29_1 := NB298_301.out
  have hns29_2 := NB299_301.out
  have hns29_3 := NB300_301.out
  have hns29_5 := NB302_301.out
  have hms29_0 := NB301_297.out
  have hms29_1 := NB301_298.out
  have hms29_2 := NB301_299.out
  have hms29_3 := NB301_300.out
  have hms29_5 := NB301_302.out
  have hs30 : w24.cell? ⟨gb301, 1, none⟩ = some (.int .i64 0) := (blk_cell BK301.out 1).trans rfl
  have hfs30 := zF BK301.out 1
  have hns30_0 := NB297_301.out
  have hns30_1 := NB298_301.out
  have hns30_2 := NB299_301.out
  have hns30_3 := NB300_301.out
  have hns30_5 := NB302_301.out
  have hms30_0 := NB301_297.out
  have hms30_1 := NB301_298.out
  have hms30_2 := NB301_299.out
  have hms30_3 := NB301_300.out
  have hms30_5 := NB301_302.out
  refine skip_ (w1 := ?_) (by rfl) rfl ?_ ?_
  rotate_left
  ·go_simp
   rfl
  refine hK.out _ _ ⟨((cell_far (p := ⟨gb301, _, none⟩) NB302_301.out _).trans (((cell_far (p := ⟨gb301, _, none⟩) NB302_301.out _).trans (hHeld.1)))), ((cell_far (p := ⟨gb301, _, none⟩) NB302_301.out _).trans (((cell_far (p := ⟨gb301, _, none⟩) NB302_301.out _).trans (hHeld.2))))⟩ (fun hHeld => ?_)
  clear hK K
  refine done_ (by kernel_rfl) ?_
  try go_wp2
  refine bodyPost_ret (results_list (rs := [.cell 4 24, .cell 5 27, .cell 6 29]) rfl (by simp) (.cell gb299 24 #[.bool false, .slice none 0 0] (0, 0) _ rfl (by (with_reducible repeat (first | apply pzN | apply pzd | apply pza)); refine blk_far ?_ NB299_301.out _; (with_reducible repeat (first | apply pzN | apply pzd | apply pza)); refine blk_far ?_ NB299_301.out _; (with_reducible repeat (first | apply pzN | apply pzd | apply pza)); refine blk_far ?_ NB299_300.out _; (with_reducible repeat (first | apply pzN | apply pzd | apply pza)); refine blk_far ?_ NB299_300.out _; (with_reducible repeat (first | apply pzN | apply pzd | apply pza)); refine blk_put (cs := #[.bool false, .slice none 0 0]) ?_ 1 _ rfl; (with_reducible repeat (first | apply pzN | apply pzd | apply pza)); refine blk_put (cs := #[.bool false, .slice none 0 0]) ?_ 0 _ rfl; (with_reducible repeat (first | apply pzN | apply pzd | apply pza)); exact BK299.out) Try.underlying24 rfl (by kernel_rfl) (.cell gb300 27 #[.int .u64 0, .int .u64 0] (0, 0) _ rfl (by (with_reducible repeat (first | apply pzN | apply pzd | apply pza)); refine blk_far ?_ NB300_301.out _; (with_reducible repeat (first | apply pzN | apply pzd | apply pza)); refine blk_far ?_ NB300_301.out _; (with_reducible repeat (first | apply pzN | apply pzd | apply pza)); refine blk_put (cs := #[.int .u64 0, .int .u64 0]) ?_ 1 _ rfl; (with_reducible repeat (first | apply pzN | apply pzd | apply pza)); refine blk_put (cs := #[.int .u64 0, .int .u64 0]) ?_ 0 _ rfl; (with_reducible repeat (first | apply pzN | apply pzd | apply pza)); refine blk_far ?_ NB300_299.out _; (with_reducible repeat (first | apply pzN | apply pzd | apply pza)); refine blk_far ?_ NB300_299.out _; (with_reducible repeat (first | apply pzN | apply pzd | apply pza)); exact BK300.out) Try.underlying27 rfl (by kernel_rfl) (.cell gb301 29 #[.int .i64 6, .int .i64 (-1)] (0, 0) _ rfl (by (with_reducible repeat (first | apply pzN | apply pzd | apply pza)); refine blk_put (cs := #[.int .i64 6, .int .i64 0]) ?_ 1 _ rfl; (with_reducible repeat (first | apply pzN | apply pzd | apply pza)); refine blk_put (cs := #[.int .i64 0, .int .i64 0]) ?_ 0 _ rfl; (with_reducible repeat (first | apply pzN | apply pzd | apply pza)); refine blk_far ?_ NB301_300.out _; (with_reducible repeat (first | apply pzN | apply pzd | apply pza)); refine blk_far ?_ NB301_300.out _; (with_reducible repeat (first | apply pzN | apply pzd | apply pza)); refine blk_far ?_ NB301_299.out _; (with_reducible repeat (first | apply pzN | apply pzd | apply pza)); refine blk_far ?_ NB301_299.out _; (with_reducible repeat (first | apply pzN | apply pzd | apply pza)); exact BK301.out) Try.underlying29 rfl (by kernel_rfl) .nil)))) rfl ?_
  exact ⟨_, by first | rfl | (simp [errW_none, errW_some] <;> rfl) | (simp [*, errW_none, errW_some] <;> rfl), by first | exact Kd.R_nil _ _ _ _ _ | exact Kd.N_nil _ _ _ _ _ | exact Kd.V_nil _ _ _ _ _ | exact Kd.Q_nil _ _ _ _ _ | exact Kd.S_nil _ _ _ _ _, by repeat (first | (with_reducible first | exact HB.out | apply pzA | apply pzD | apply pz1 | apply pzs | assumption) | exact HB.out)⟩
 ·rw [if_neg c3] at H
  have c3b0 : (a0_1 % 2 == 0) = false := beq_eq_false_iff_ne.mpr c3
  have c3b1 : (a0_1 % 2 != 0) = true := bne_iff_ne.mpr c3
  replace H := zB H
  obtain ⟨⟨t303, t304⟩, A310, H⟩ := H
  replace H : ((integer_Valid.f a1_0 l1_1).bind fun t307 => (if t307 = true then (if a1_0 = true then (random_Below.j0 k true a1_0 l1_1 t303 t304) else (random_Below.j0 k ((l1_1.length : Int) == 0) a1_0 l1_1 t303 t304)) else ((random_at.f 6 (-2)).bind fun bt317 => (some (false, ([] : List Int), 0, 0, bt317.1, bt317.2))))) = some (r1, r2, r3, r4, r5, r6) := H
  have A31 := zM A310
  clear A310
  replace H := zB H
  obtain ⟨t307, A320, H⟩ := H
  replace H : (if t307 = true then (if a1_0 = true then (random_Below.j0 k true a1_0 l1_1 t303 t304) else (random_Below.j0 k ((l1_1.length : Int) == 0) a1_0 l1_1 t303 t304)) else ((random_at.f 6 (-2)).bind fun bt317 => (some (false, ([] : List Int), 0, 0, bt317.1, bt317.2)))) = some (r1, r2, r3, r4, r5, r6) := H
  have A32 := zM A320
  clear A320
  by_cases c33 : t307 = true
  ·subst c33
   have H1 : (if a1_0 = true then (random_Below.j0 k true a1_0 l1_1 t303 t304) else (random_Below.j0 k ((l1_1.length : Int) == 0) a1_0 l1_1 t303 t304)) = some (r1, r2, r3, r4, r5, r6) := by rw [if_pos rfl] at H; exact H
   clear H
   have H := H1
   clear H1
   have HC34 := zM H
   clear H
   go_enter Try.func16, Try.ntmps16
   go_upto_region 6 with (first | ((with_reducible refine gate_dst (N := 2) rfl ?_); (try (refine gate_guard (by rfl) ?_; dsimp only)); refine box_event ?hg (N := 2) ?hd (cs := #[.int .u64 a0_0, .int .u64 a0_1]) (t := 27) ?hr ?_; (case hd => rfl); (case hg => rfl); (case hr => first | (go_simp; done) | (go_simp; rfl)); intro gb297 hg w35 hbox hb; have n0_ := zM (below_step (HB.out) hb); have n1_ := zM (hbox); have n2_ := zM ((by rw [hg]; exact (below_size (HB.out)) : w.heap.size ≤ gb297)); have n3_ := zM ((by rw [hg]; exact (below_size (HB.out)) : w.heap.size ≤ gb297)); clear HB; have HB := n0_; have BK297 := n1_; have GW297 := n2_; have GE297 := n3_; clear n0_ n1_ n2_ n3_; clear hb hbox hg) | ((with_reducible refine gate_dst (N := 3) rfl ?_); (try (refine gate_guard (by rfl) ?_; dsimp only)); refine box_event ?hg (N := 3) ?hd (cs := #[.bool a1_0, .slice A1_1 l1_1.length c1_1]) (t := 24) ?hr ?_; (case hd => rfl); (case hg => rfl); (case hr => first | (go_simp; done) | (go_simp; rfl)); intro gb298 hg w36 hbox hb; have BK298 := zM (hbox); have GW298 := zM ((by rw [hg]; exact (below_size (by repeat (first | (with_reducible first | exact HB.out | apply pzA | apply pzD | apply pz1 | apply pzs | assumption) | exact HB.out))) : w.heap.size ≤ gb298)); have GE298 := GW298; have NB297_298 := pzf BK297 hg; have NB298_297 := pzg BK297 hg; replace BK297 := pzb BK297 hb; replace HB := zM (below_step (by repeat (first | (with_reducible first | exact HB.out | apply pzA | apply pzD | apply pz1 | apply pzs | assumption) | exact HB.out)) hb); clear hb hbox hg) | ((with_reducible refine gate_dst (N := 4) rfl ?_); (try (refine gate_guard (by rfl) ?_; dsimp only)); refine box_event ?hg (N := 4) ?hd (cs := #[.bool false, .slice none 0 0]) (t := 24) ?hr ?_; (case hd => rfl); (case hg => rfl); (case hr => first | (go_simp; done) | (go_simp; rfl)); intro gb299 hg w37 hbox hb; have BK299 := zM (hbox); have GW299 := zM ((by rw [hg]; exact (below_size (by repeat (first | (with_reducible first | exact HB.out | apply pzA | apply pzD | apply pz1 | apply pzs | assumption) | exact HB.out))) : w.heap.size ≤ gb299)); have GE299 := GW299; have NB297_299 := pzf BK297 hg; have NB299_297 := pzg BK297 hg; have NB298_299 := pzf BK298 hg; have NB299_298 := pzg BK298 hg; replace BK297 := pzb BK297 hb; replace BK298 := pzb BK298 hb; replace HB := zM (below_step (by repeat (first | (with_reducible first | exact HB.out | apply pzA | apply pzD | apply pz1 | apply pzs | assumption) | exact HB.out)) hb); clear hb hbox hg) | ((with_reducible refine gate_dst (N := 5) rfl ?_); (try (refine gate_guard (by rfl) ?_; dsimp only)); refine box_event ?hg (N := 5) ?hd (cs := #[.int .u64 0, .int .u64 0]) (t := 27) ?hr ?_; (case hd => rfl); (case hg => rfl); (case hr => first | (go_simp; done) | (go_simp; rfl)); intro gb300 hg w38 hbox hb; have BK300 := zM (hbox); have GW300 := zM ((by rw [hg]; exact (below_size (by repeat (first | (with_reducible first | exact HB.out | apply pzA | apply pzD | apply pz1 | apply pzs | assumption) | exact HB.out))) : w.heap.size ≤ gb300)); have GE300 := GW300; have NB297_300 := pzf BK297 hg; have NB300_297 := pzg BK297 hg; have NB298_300 := pzf BK298 hg; have NB300_298 := pzg BK298 hg; have NB299_300 := pzf BK299 hg; have NB300_299 := pzg BK299 hg; replace BK297 := pzb BK297 hb; replace BK298 := pzb BK298 hb; replace BK299 := pzb BK299 hb; replace HB := zM (below_step (by repeat (first | (with_reducible first | exact HB.out | apply pzA | apply pzD | apply pz1 | apply pzs | assumption) | exact HB.out)) hb); clear hb hbox hg) | ((with_reducible refine gate_dst (N := 6) rfl ?_); (try (refine gate_guard (by rfl) ?_; dsimp only)); refine box_event ?hg (N := 6) ?hd (cs := #[.int .i64 0, .int .i64 0]) (t := 29) ?hr ?_; (case hd => rfl); (case hg => rfl); (case hr => first | (go_simp; done) | (go_simp; rfl)); intro gb301 hg w39 hbox hb; have BK301 := zM (hbox); have GW301 := zM ((by rw [hg]; exact (below_size (by repeat (first | (with_reducible first | exact HB.out | apply pzA | apply pzD | apply pz1 | apply pzs | assumption) | exact HB.out))) : w.heap.size ≤ gb301)); have GE301 := GW301; have NB297_301 := pzf BK297 hg; have NB301_297 := pzg BK297 hg; have NB298_301 := pzf BK298 hg; have NB301_298 := pzg BK298 hg; have NB299_301 := pzf BK299 hg; have NB301_299 := pzg BK299 hg; have NB300_301 := pzf BK300 hg; have NB301_300 := pzg BK300 hg; replace BK297 := pzb BK297 hb; replace BK298 := pzb BK298 hb; replace BK299 := pzb BK299 hb; replace BK300 := pzb BK300 hb; replace HB := zM (below_step (by repeat (first | (with_reducible first | exact HB.out | apply pzA | apply pzD | apply pz1 | apply pzs | assumption) | exact HB.out)) hb); clear hb hbox hg; have hnb40 := NB297_298.out; have hnc40 := NB298_297.out; have hnb41 := NB297_299.out; have hnc41 := NB299_297.out; have hnb42 := NB297_300.out; have hnc42 := NB300_297.out; have hnb43 := NB297_301.out; have hnc43 := NB301_297.out; have hcz44_0 := pzc (v := .int .u64 a0_0) BK297 0 rfl; have hcz44_1 := pzc (v := .int .u64 a0_1) BK297 1 rfl; have hfz44_0 := zF BK297.out 0; have hfz44_1 := zF BK297.out 1) | ((with_reducible refine gate_callee (f := 39) rfl ?_); refine goesL_ (some 12) rfl rfl Try.func39 (by kernel_rfl) rfl #[.agg #[.int .u64 a0_0, .int .u64 a0_1]] rfl (by (try simp only [zT, zC, zN]); first | done | rfl | (simp only [zR, zL]; rfl)) ?_; (with_reducible refine (random_open_ok.calls a0_0 a0_1 t303 t304 w _ ?side1 A31.out).mono ?_); (case side1 => repeat (first | (with_reducible first | exact HB.out | apply pzA | apply pzD | apply pz1 | apply pzs | assumption) | exact HB.out)); rintro e w45 ⟨g305, rfl, hi, hb, hb2⟩; refine ⟨_, rfl, ?_⟩; have HI305 := zM (hi); have NB305_297 := zM (IsS81.ne_blk hi (blk_below (g := gb297) (o := .cells #[.int .u64 a0_0, .int .u64 a0_1] 27 (0, 0)) BK297.out hb2) (by decide)); have NB297_305 := zM (Ne.symm (IsS81.ne_blk hi (blk_below (g := gb297) (o := .cells #[.int .u64 a0_0, .int .u64 a0_1] 27 (0, 0)) BK297.out hb2) (by decide))); have NB305_298 := zM (IsS81.ne_blk hi (blk_below (g := gb298) (o := .cells #[.bool a1_0, .slice A1_1 l1_1.length c1_1] 24 (0, 0)) BK298.out hb2) (by decide)); have NB298_305 := zM (Ne.symm (IsS81.ne_blk hi (blk_below (g := gb298) (o := .cells #[.bool a1_0, .slice A1_1 l1_1.length c1_1] 24 (0, 0)) BK298.out hb2) (by decide))); have NB305_299 := zM (IsS81.ne_blk hi (blk_below (g := gb299) (o := .cells #[.bool false, .slice none 0 0] 24 (0, 0)) BK299.out hb2) (by decide)); have NB299_305 := zM (Ne.symm (IsS81.ne_blk hi (blk_below (g := gb299) (o := .cells #[.bool false, .slice none 0 0] 24 (0, 0)) BK299.out hb2) (by decide))); have NB305_300 := zM (IsS81.ne_blk hi (blk_below (g := gb300) (o := .cells #[.int .u64 0, .int .u64 0] 27 (0, 0)) BK300.out hb2) (by decide)); have NB300_305 := zM (Ne.symm (IsS81.ne_blk hi (blk_below (g := gb300) (o := .cells #[.int .u64 0, .int .u64 0] 27 (0, 0)) BK300.out hb2) (by decide))); have NB305_301 := zM (IsS81.ne_blk hi (blk_below (g := gb301) (o := .cells #[.int .i64 0, .int .i64 0] 29 (0, 0)) BK301.out hb2) (by decide)); have NB301_305 := zM (Ne.symm (IsS81.ne_blk hi (blk_below (g := gb301) (o := .cells #[.int .i64 0, .int .i64 0] 29 (0, 0)) BK301.out hb2) (by decide))); replace BK298 := zM (blk_below (g := gb298) (o := .cells #[.bool a1_0, .slice A1_1 l1_1.length c1_1] 24 (0, 0)) BK298.out hb2); replace BK299 := zM (blk_below (g := gb299) (o := .cells #[.bool false, .slice none 0 0] 24 (0, 0)) BK299.out hb2); replace BK300 := zM (blk_below (g := gb300) (o := .cells #[.int .u64 0, .int .u64 0] 27 (0, 0)) BK300.out hb2); replace BK301 := zM (blk_below (g := gb301) (o := .cells #[.int .i64 0, .int .i64 0] 29 (0, 0)) BK301.out hb2); replace HB := zM (hb); (try clear hb); (try clear hb2); (try clear hk); (try clear hi)) | ((with_reducible refine gate_dst (N := 8) rfl ?_); (try (refine gate_guard (by rfl) ?_; dsimp only)); refine box_event ?hg (N := 8) ?hd (cs := #[.int .i64 0, .int .i64 0]) (t := 29) ?hr ?_; (case hd => rfl); (case hg => rfl); (case hr => first | (go_simp; done) | (go_simp; rfl)); intro gb306 hg w46 hbox hb; have BK306 := zM (hbox); have GW306 := zM ((by rw [hg]; exact (below_size (by repeat (first | (with_reducible first | exact HB.out | apply below_alloc | apply pw_below_drewN | apply below_drew1 | refine below_set ?_ (IsS81.ge HI305.out) | refine below_setA ?_ (by assumption)) | exact HB.out))) : w.heap.size ≤ gb306)); have GE306 := GW306; have NB298_306 := pzf BK298 hg; have NB306_298 := pzg BK298 hg; have NB299_306 := pzf BK299 hg; have NB306_299 := pzg BK299 hg; have NB300_306 := pzf BK300 hg; have NB306_300 := pzg BK300 hg; have NB301_306 := pzf BK301 hg; have NB306_301 := pzg BK301 hg; have NB305_306 := zM ((by rw [hg]; exact Nat.ne_of_lt (IsS81.lt (show IsS81 w _ g305 t303 t304 from by repeat (first | (with_reducible first | exact HI305.out | apply IsS81.alloc | apply IsS81.drewN | apply IsS81.drew | apply IsS81.set_0 | apply IsS81.set_1 | refine IsS81.far ?_ NB305_297.out _ | refine IsS81.far ?_ NB305_298.out _ | refine IsS81.far ?_ NB305_299.out _ | refine IsS81.far ?_ NB305_300.out _ | refine IsS81.far ?_ NB305_301.out _) | exact HI305.out))) : g305 ≠ gb306)); replace BK298 := pzb BK298 hb; replace BK299 := pzb BK299 hb; replace BK300 := pzb BK300 hb; replace BK301 := pzb BK301 hb; replace HB := zM (below_step (by repeat (first | (with_reducible first | exact HB.out | apply below_alloc | apply pw_below_drewN | apply below_drew1 | refine below_set ?_ (IsS81.ge HI305.out) | refine below_setA ?_ (by assumption)) | exact HB.out)) hb); replace HI305 := zM (IsS81.below (by repeat (first | (with_reducible first | exact HI305.out | apply IsS81.alloc | apply IsS81.drewN | apply IsS81.drew | apply IsS81.set_0 | apply IsS81.set_1 | refine IsS81.far ?_ NB305_297.out _ | refine IsS81.far ?_ NB305_298.out _ | refine IsS81.far ?_ NB305_299.out _ | refine IsS81.far ?_ NB305_300.out _ | refine IsS81.far ?_ NB305_301.out _) | exact HI305.out)) hb); clear hb hbox hg; have hnb48 := NB306_298.out; have hnc48 := NB298_306.out; have hnb49 := NB306_299.out; have hnc49 := NB299_306.out; have hnb50 := NB306_300.out; have hnc50 := NB300_306.out; have hnb51 := NB306_301.out; have hnc51 := NB301_306.out; have hcz53_0 := pzc (v := .int .i64 0) BK306 0 rfl; have hcz53_1 := pzc (v := .int .i64 0) BK306 1 rfl; have hfz53_0 := zF BK306.out 0; have hfz53_1 := zF BK306.out 1; have hnb54 := NB298_299.out; have hnc54 := NB299_298.out; have hnb55 := NB298_300.out; have hnc55 := NB300_298.out; have hnb56 := NB298_301.out; have hnc56 := NB301_298.out; have hcz58_0 := pzc (v := .bool a1_0) BK298 0 rfl; have hcz58_1 := pzc (v := .slice A1_1 l1_1.length c1_1) BK298 1 rfl; have hfz58_0 := zF BK298.out 0; have hfz58_1 := zF BK298.out 1) | ((with_reducible refine gate_callee (f := 36) rfl ?_); refine goesL_ (some 24) rfl rfl Try.func36 (by kernel_rfl) rfl #[.agg #[.bool a1_0, .slice A1_1 l1_1.length c1_1]] rfl (by (try simp only [zT, zC, zN]); first | done | rfl | (simp only [zR, zL]; rfl)) ?_; (with_reducible refine (integer_Valid.calls a1_0 _ _ l1_1 true _ ?side1 ?side2 A32.out).mono ?_); (case side1 => exact Kd.C_below HR1_1.out (by repeat (first | (with_reducible first | exact HB.out | apply below_alloc | apply pw_below_drewN | apply below_drew1 | refine below_set ?_ (IsS81.ge HI305.out) | refine below_setA ?_ (by assumption)) | exact HB.out))); (case side2 => exact HC1_1.out); rintro e w59 ⟨rfl, hb⟩; refine ⟨_, rfl, ?_⟩; replace BK298 := zM (blk_below (g := gb298) (o := .cells #[.bool a1_0, .slice A1_1 l1_1.length c1_1] 24 (0, 0)) (by (with_reducible repeat (first | apply pzN | apply pzd | apply pza)); refine blk_far ?_ NB298_306.out _; (with_reducible repeat (first | apply pzN | apply pzd | apply pza)); refine blk_far ?_ NB298_306.out _; (with_reducible repeat (first | apply pzN | apply pzd | apply pza)); exact BK298.out) hb); replace BK299 := zM (blk_below (g := gb299) (o := .cells #[.bool false, .slice none 0 0] 24 (0, 0)) (by (with_reducible repeat (first | apply pzN | apply pzd | apply pza)); refine blk_far ?_ NB299_306.out _; (with_reducible repeat (first | apply pzN | apply pzd | apply pza)); refine blk_far ?_ NB299_306.out _; (with_reducible repeat (first | apply pzN | apply pzd | apply pza)); exact BK299.out) hb); replace BK300 := zM (blk_below (g := gb300) (o := .cells #[.int .u64 0, .int .u64 0] 27 (0, 0)) (by (with_reducible repeat (first | apply pzN | apply pzd | apply pza)); refine blk_far ?_ NB300_306.out _; (with_reducible repeat (first | apply pzN | apply pzd | apply pza)); refine blk_far ?_ NB300_306.out _; (with_reducible repeat (first | apply pzN | apply pzd | apply pza)); exact BK300.out) hb); replace BK301 := zM (blk_below (g := gb301) (o := .cells #[.int .i64 0, .int .i64 0] 29 (0, 0)) (by (with_reducible repeat (first | apply pzN | apply pzd | apply pza)); refine blk_far ?_ NB301_306.out _; (with_reducible repeat (first | apply pzN | apply pzd | apply pza)); refine blk_far ?_ NB301_306.out _; (with_reducible repeat (first | apply pzN | apply pzd | apply pza)); exact BK301.out) hb); replace HB := zM (below_step (by repeat (first | (with_reducible first | exact HB.out | apply below_alloc | apply pw_below_drewN | apply below_drew1 | refine below_set ?_ (IsS81.ge HI305.out) | refine below_setA ?_ (by assumption)) | exact HB.out)) hb); replace HI305 := zM (IsS81.below (show IsS81 w ((w46.setCell ⟨gb306, 0, none⟩ (.int .i64 0)).setCell ⟨gb306, 1, none⟩ (.int .i64 0)) g305 t303 t304 from by repeat (first | (with_reducible first | exact HI305.out | apply IsS81.alloc | apply IsS81.drewN | apply IsS81.drew | apply IsS81.set_0 | apply IsS81.set_1 | refine IsS81.far ?_ NB305_297.out _ | refine IsS81.far ?_ NB305_298.out _ | refine IsS81.far ?_ NB305_299.out _ | refine IsS81.far ?_ NB305_300.out _ | refine IsS81.far ?_ NB305_301.out _ | refine IsS81.far ?_ NB305_306.out _) | exact HI305.out)) hb); (try clear hb); (try clear hb2); (try clear hk); (try clear hi)))
   (try simp only [Act.put, zS, z0, z1])
   go_cut [29] (fun v29 wc => ∃ (kq : Nat) (x29_33 : Bool), v29 = .bool x29_33 ∧ Aside0 (random_Below.j0 kq x29_33 a1_0 l1_1 t303 t304 = some (r1, r2, r3, r4, r5, r6)) ∧ Aside0 (kq ≤ k) ∧ Aside0 (wc.heap[gb298]? = some (.cells #[.bool a1_0, (.slice A1_1 l1_1.length c1_1)] 24 (0, 0))) ∧ Aside0 (wc.heap[gb299]? = some (.cells #[.bool false, (.slice none 0 0)] 24 (0, 0))) ∧ Aside0 (wc.heap[gb300]? = some (.cells #[.int .u64 0, .int .u64 0] 27 (0, 0))) ∧ Aside0 (wc.heap[gb301]? = some (.cells #[.int .i64 0, .int .i64 0] 29 (0, 0))) ∧ Aside0 (IsS81 w wc g305 t303 t304) ∧ Aside0 (Below w.heap.size w wc))
   case first =>
    have H := HC34.out
    clear HC34
    by_cases c60 : a1_0 = true
    ·subst c60
     have H1 : (random_Below.j0 k true true l1_1 t303 t304) = some (r1, r2, r3, r4, r5, r6) := by rw [if_pos rfl] at H; exact H
     clear H
     have H := H1
     clear H1
     have H' := zM H
     clear H
     have hnb62 := NB298_299.out
     have hnc62 := NB299_298.out
     have hnb63 := NB298_300.out
     have hnc63 := NB300_298.out
     have hnb64 := NB298_301.out
     have hnc64 := NB301_298.out
     have hcz67_0 := pzc (v := .bool true) BK298 0 rfl
     have hcz67_1 := pzc (v := .slice A1_1 l1_1.length c1_1) BK298 1 rfl
     have hfz67_0 := zF BK298.out 0
     have hfz67_1 := zF BK298.out 1
     go_wp2
     go_meet
     case rel => exact ⟨_, (true), (by first | rfl | (simp; done) | (simp [*]; done)), H', ⟨by first | omega | exact Nat.le_refl _⟩, ⟨by (with_reducible repeat (first | apply pzN | apply pzd | apply pza)); exact BK298.out⟩, ⟨by (with_reducible repeat (first | apply pzN | apply pzd | apply pza)); exact BK299.out⟩, ⟨by (with_reducible repeat (first | apply pzN | apply pzd | apply pza)); exact BK300.out⟩, ⟨by (with_reducible repeat (first | apply pzN | apply pzd | apply pza)); exact BK301.out⟩, ⟨by repeat (first | (with_reducible first | exact HI305.out | apply IsS81.alloc | apply IsS81.drewN | apply IsS81.drew | apply IsS81.set_0 | apply IsS81.set_1 | refine IsS81.far ?_ NB305_297.out _ | refine IsS81.far ?_ NB305_298.out _ | refine IsS81.far ?_ NB305_299.out _ | refine IsS81.far ?_ NB305_300.out _ | refine IsS81.far ?_ NB305_301.out _ | refine IsS81.far ?_ NB305_306.out _) | exact HI305.out)⟩, ⟨by repeat (first | (with_reducible first | exact HB.out | apply below_alloc | apply pw_below_drewN | apply below_drew1 | refine below_set ?_ (IsS81.ge HI305.out) | refine below_setA ?_ (by assumption)) | exact HB.out)⟩⟩
    ·replace c60 := Bool.eq_false_iff.mpr c60
     subst c60
     have H1 : (random_Below.j0 k ((l1_1.length : Int) == 0) false l1_1 t303 t304) = some (r1, r2, r3, r4, r5, r6) := by rw [if_neg (show ¬ (false = true) by decide)] at H; exact H
     clear H
     have H := H1
     clear H1
     have H' := zM H
     clear H
     have hnb69 := NB298_299.out
     have hnc69 := NB299_298.out
     have hnb70 := NB298_300.out
     have hnc70 := NB300_298.out
     have hnb71 := NB298_301.out
     have hnc71 := NB301_298.out
     have hcz74_0 := pzc (v := .bool false) BK298 0 rfl
     have hcz74_1 := pzc (v := .slice A1_1 l1_1.length c1_1) BK298 1 rfl
     have hfz74_0 := zF BK298.out 0
     have hfz74_1 := zF BK298.out 1
     go_wp2
     go_meet
     case rel => exact ⟨_, (((l1_1.length : Int) == 0)), (by first | rfl | (simp; done) | (simp [*]; done)), H', ⟨by first | omega | exact Nat.le_refl _⟩, ⟨by (with_reducible repeat (first | apply pzN | apply pzd | apply pza)); exact BK298.out⟩, ⟨by (with_reducible repeat (first | apply pzN | apply pzd | apply pza)); exact BK299.out⟩, ⟨by (with_reducible repeat (first | apply pzN | apply pzd | apply pza)); exact BK300.out⟩, ⟨by (with_reducible repeat (first | apply pzN | apply pzd | apply pza)); exact BK301.out⟩, ⟨by repeat (first | (with_reducible first | exact HI305.out | apply IsS81.alloc | apply IsS81.drewN | apply IsS81.drew | apply IsS81.set_0 | apply IsS81.set_1 | refine IsS81.far ?_ NB305_297.out _ | refine IsS81.far ?_ NB305_298.out _ | refine IsS81.far ?_ NB305_299.out _ | refine IsS81.far ?_ NB305_300.out _ | refine IsS81.far ?_ NB305_301.out _ | refine IsS81.far ?_ NB305_306.out _) | exact HI305.out)⟩, ⟨by repeat (first | (with_reducible first | exact HB.out | apply below_alloc | apply pw_below_drewN | apply below_drew1 | refine below_set ?_ (IsS81.ge HI305.out) | refine below_setA ?_ (by assumption)) | exact HB.out)⟩⟩
   case rest =>
    clear HC34
    try clear c1
    try clear c2
    try clear p2
    try clear c3
    try clear c3b0
    try clear c3b1
    try clear c4
    try clear c5
    try clear c6
    try clear c7
    try clear c10
    try clear c11
    try clear c12
    try clear c13
    try clear c16
    try clear c17
    try clear c18
    try clear c19
    try clear c20
    try clear c21
    try clear c33
    try clear c36
    try clear c39
    try clear c40
    try clear c41
    try clear c42
    try clear c43
    try clear c47
    try clear c48
    try clear c49
    try clear c50
    try clear c51
    try clear c52
    try clear c54
    try clear c55
    try clear c56
    try clear c57
    try clear c60
    try clear c61
    try clear c62
    try clear c63
    try clear c64
    try clear c65
    try clear c66
    try clear c68
    try clear c69
    try clear c70
    try clear c71
    try clear c72
    try clear c73
    try clear hcz14_0
    try clear hcz14_1
    try clear hcz22_0
    try clear hcz22_1
    try clear hcz44_0
    try clear hcz44_1
    try clear hcz53_0
    try clear hcz53_1
    try clear hcz58_0
    try clear hcz58_1
    try clear hcz67_0
    try clear hcz67_1
    try clear hcz74_0
    try clear hcz74_1
    try clear hfz14_0
    try clear hfz14_1
    try clear hfz22_0
    try clear hfz22_1
    try clear hfz44_0
    try clear hfz44_1
    try clear hfz53_0
    try clear hfz53_1
    try clear hfz58_0
    try clear hfz58_1
    try clear hfz67_0
    try clear hfz67_1
    try clear hfz74_0
    try clear hfz74_1
    obtain ⟨kq, x29_33, rfl, HA, HJ33, BK298, BK299, BK300, BK301, HI305, HB⟩ := hcut
    cases kq with
    | zero => exact absurd HA.out (by simp [random_Below.j0])
    | succ kj33 =>
     have H := HA.out
     clear HA
     simp only [random_Below.j0] at H
     by_cases c75 : x29_33 = true
     ·subst c75
      have H1 : ((random_at.f 4 (-2)).bind fun bt308 => (some (false, ([] : List Int), 0, 0, bt308.1, bt308.2))) = some (r1, r2, r3, r4, r5, r6) := by rw [if_pos rfl] at H; exact H
      clear H
      have H := H1
      clear H1
      replace H := zB H
      obtain ⟨⟨t308, t309⟩, A760, H⟩ := H
      replace H : (some (false, ([] : List Int), 0, 0, t308, t309)) = some (r1, r2, r3, r4, r5, r6) := H
      have A76 := zM A760
      clear A760
      simp only [Option.some.injEq, Prod.mk.injEq] at H
      obtain ⟨rfl, rfl, rfl, rfl, rfl, rfl⟩ := H
      go_wp2_with (first | ((with_reducible refine gate_callee (f := 37) rfl ?_); refine goesL_ (some 40) rfl rfl Try.func37 (by kernel_rfl) rfl #[.int .i64 4, .int .i64 (-2)] rfl (by (try simp only [zT, zC, zN]); first | done | rfl | (simp only [zR, zL]; rfl)) ?_; (with_reducible refine (random_at.calls 4 (-2) t308 t309 _ A76.out).mono ?_); rintro e w77 ⟨rfl, hb⟩; refine ⟨_, rfl, ?_⟩; replace BK299 := pzb BK299 hb; replace BK300 := pzb BK300 hb; replace BK301 := pzb BK301 hb; replace HB := zM (below_step (by repeat (first | (with_reducible first | exact HB.out | apply below_alloc | apply pw_below_drewN | apply below_drew1 | refine below_set ?_ (IsS81.ge HI305.out) | refine below_setA ?_ (by assumption)) | exact HB.out)) hb); replace HI305 := zM (IsS81.below (by repeat (first | (with_reducible first | exact HI305.out | apply IsS81.alloc | apply IsS81.drewN | apply IsS81.drew | apply IsS81.set_0 | apply IsS81.set_1 | refine IsS81.far ?_ NB305_298.out _ | refine IsS81.far ?_ NB305_299.out _ | refine IsS81.far ?_ NB305_300.out _ | refine IsS81.far ?_ NB305_301.out _) | exact HI305.out)) hb); (try clear hb); (try clear hb2); (try clear hk); (try clear hi); have hnb79 := NB299_300.out; have hnc79 := NB300_299.out; have hnb80 := NB299_301.out; have hnc80 := NB301_299.out; have hcz82_0 := pzc (v := .bool false) BK299 0 rfl; have hcz82_1 := pzc (v := .slice none 0 0) BK299 1 rfl; have hfz82_0 := zF BK299.out 0; have hfz82_1 := zF BK299.out 1; have hnb84 := NB300_301.out; have hnc84 := NB301_300.out; have hcz86_0 := pzc (v := .int .u64 0) BK300 0 rfl; have hcz86_1 := pzc (v := .int .u64 0) BK300 1 rfl; have hfz86_0 := zF BK300.out 0; have hfz86_1 := zF BK300.out 1; have hcz89_0 := pzc (v := .int .i64 0) BK301 0 rfl; have hcz89_1 := pzc (v := .int .i64 0) BK301 1 rfl; have hfz89_0 := zF BK301.out 0; have hfz89_1 := zF BK301.out 1))
      refine bodyPost_ret (results_list (rs := [.cell 4 24, .cell 5 27, .cell 6 29]) rfl (by simp) (.cell gb299 24 #[.bool false, .slice none 0 0] (0, 0) _ rfl (by (with_reducible repeat (first | apply pzN | apply pzd | apply pza)); refine blk_far ?_ NB299_301.out _; (with_reducible repeat (first | apply pzN | apply pzd | apply pza)); refine blk_far ?_ NB299_301.out _; (with_reducible repeat (first | apply pzN | apply pzd | apply pza)); refine blk_far ?_ NB299_300.out _; (with_reducible repeat (first | apply pzN | apply pzd | apply pza)); refine blk_far ?_ NB299_300.out _; (with_reducible repeat (first | apply pzN | apply pzd | apply pza)); refine blk_put (cs := #[.bool false, .slice none 0 0]) ?_ 1 _ rfl; (with_reducible repeat (first | apply pzN | apply pzd | apply pza)); refine blk_put (cs := #[.bool false, .slice none 0 0]) ?_ 0 _ rfl; (with_reducible repeat (first | apply pzN | apply pzd | apply pza)); exact BK299.out) Try.underlying24 rfl (by kernel_rfl) (.cell gb300 27 #[.int .u64 0, .int .u64 0] (0, 0) _ rfl (by (with_reducible repeat (first | apply pzN | apply pzd | apply pza)); refine blk_far ?_ NB300_301.out _; (with_reducible repeat (first | apply pzN | apply pzd | apply pza)); refine blk_far ?_ NB300_301.out _; (with_reducible repeat (first | apply pzN | apply pzd | apply pza)); refine blk_put (cs := #[.int .u64 0, .int .u64 0]) ?_ 1 _ rfl; (with_reducible repeat (first | apply pzN | apply pzd | apply pza)); refine blk_put (cs := #[.int .u64 0, .int .u64 0]) ?_ 0 _ rfl; (with_reducible repeat (first | apply pzN | apply pzd | apply pza)); refine blk_far ?_ NB300_299.out _; (with_reducible repeat (first | apply pzN | apply pzd | apply pza)); refine blk_far ?_ NB300_299.out _; (with_reducible repeat (first | apply pzN | apply pzd | apply pza)); exact BK300.out) Try.underlying27 rfl (by kernel_rfl) (.cell gb301 29 #[.int .i64 t308, .int .i64 t309] (0, 0) _ rfl (by (with_reducible repeat (first | apply pzN | apply pzd | apply pza)); refine blk_put (cs := #[.int .i64 t308, .int .i64 0]) ?_ 1 _ rfl; (with_reducible repeat (first | apply pzN | apply pzd | apply pza)); refine blk_put (cs := #[.int .i64 0, .int .i64 0]) ?_ 0 _ rfl; (with_reducible repeat (first | apply pzN | apply pzd | apply pza)); refine blk_far ?_ NB301_300.out _; (with_reducible repeat (first | apply pzN | apply pzd | apply pza)); refine blk_far ?_ NB301_300.out _; (with_reducible repeat (first | apply pzN | apply pzd | apply pza)); refine blk_far ?_ NB301_299.out _; (with_reducible repeat (first | apply pzN | apply pzd | apply pza)); refine blk_far ?_ NB301_299.out _; (with_reducible repeat (first | apply pzN | apply pzd | apply pza)); exact BK301.out) Try.underlying29 rfl (by kernel_rfl) .nil)))) rfl ?_
      exact ⟨_, by first | rfl | (simp [errW_none, errW_some] <;> rfl) | (simp [*, errW_none, errW_some] <;> rfl), by first | exact Kd.R_nil _ _ _ _ _ | exact Kd.N_nil _ _ _ _ _ | exact Kd.V_nil _ _ _ _ _ | exact Kd.Q_nil _ _ _ _ _ | exact Kd.S_nil _ _ _ _ _, by repeat (first | (with_reducible first | exact HB.out | apply below_alloc | apply pw_below_drewN | apply below_drew1 | refine below_set ?_ (IsS81.ge HI305.out) | refine below_setA ?_ (by assumption)) | exact HB.out)⟩
     ·replace c75 := Bool.eq_false_iff.mpr c75
      subst c75
      have H1 : ((random_source_below.f kj33 t303 t304 a1_0 l1_1).bind fun bt310 => (some (bt310.1, bt310.2.1, bt310.2.2.1, bt310.2.2.2, 0, 0))) = some (r1, r2, r3, r4, r5, r6) := by rw [if_neg (show ¬ (false = true) by decide)] at H; exact H
      clear H
      have H := H1
      clear H1
      replace H := zB H
      obtain ⟨⟨t310, t311, t314, t315⟩, A900, H⟩ := H
      replace H : (some (t310, t311, t314, t315, 0, 0)) = some (r1, r2, r3, r4, r5, r6) := H
      have A90 := zM A900
      clear A900
      simp only [Option.some.injEq, Prod.mk.injEq] at H
      obtain ⟨rfl, rfl, rfl, rfl, rfl, rfl⟩ := H
      have hnb91 := NB298_299.out
      have hnc91 := NB299_298.out
      have hnb92 := NB298_300.out
      have hnc92 := NB300_298.out
      have hnb93 := NB298_301.out
      have hnc93 := NB301_298.out
      have hcz95_0 := pzc (v := .bool a1_0) BK298 0 rfl
      have hcz95_1 := pzc (v := .slice A1_1 l1_1.length c1_1) BK298 1 rfl
      have hfz95_0 := zF BK298.out 0
      have hfz95_1 := zF BK298.out 1
      try go_wp2_with (first | ((with_reducible refine gate_callee (f := 43) rfl ?_); refine goesL_ (some 43) rfl rfl Try.func43 (by kernel_rfl) rfl #[.pointer (some ⟨g305, 0, none⟩), .agg #[.bool a1_0, .slice A1_1 l1_1.length c1_1]] rfl (by (try simp only [zT, zC, zN]); first | done | rfl | (simp only [zR, zL]; rfl)) ?_; (with_reducible refine (random_source_below.calls kj33 g305 t303 t304 a1_0 _ _ l1_1 t310 t311 t314 t315 w _ ?side1 ?side2 ?side3 ?side4 ?side5 A90.out).mono ?_); (case side1 => repeat (first | (with_reducible first | exact HI305.out | apply IsS81.alloc | apply IsS81.drewN | apply IsS81.drew | apply IsS81.set_0 | apply IsS81.set_1 | refine IsS81.far ?_ NB305_298.out _ | refine IsS81.far ?_ NB305_299.out _ | refine IsS81.far ?_ NB305_300.out _ | refine IsS81.far ?_ NB305_301.out _) | exact HI305.out)); (case side2 => repeat (first | (with_reducible first | exact HB.out | apply below_alloc | apply pw_below_drewN | apply below_drew1 | refine below_set ?_ (IsS81.ge HI305.out) | refine below_setA ?_ (by assumption)) | exact HB.out)); (case side3 => repeat (first | exact (Kd.C_below HR1_1.out HB.out) | (with_reducible refine Kd.C_alloc ?_ _) | (with_reducible refine Kd.C_drewN ?_ _) | (with_reducible refine Kd.C_drew ?_))); (case side4 => exact HC1_1.out); (case side5 => exact Kd.far_C 0 HR1_1.out (IsS81.ge HI305.out)); rintro e w96 ⟨v312, rfl, ho0, hi, hb, hk⟩; refine ⟨_, rfl, ?_⟩; have HO313 := zM (Kd.R_lower ho0 (below_size (by repeat (first | (with_reducible first | exact HB.out | apply below_alloc | apply pw_below_drewN | apply below_drew1 | refine below_set ?_ (IsS81.ge HI305.out) | refine below_setA ?_ (by assumption)) | exact HB.out)))); replace BK298 := zM (KeepBut.blk hk (g' := gb298) (o := .cells #[.bool a1_0, .slice A1_1 l1_1.length c1_1] 24 (0, 0)) BK298.out NB298_305.out (by simp)); replace BK299 := zM (KeepBut.blk hk (g' := gb299) (o := .cells #[.bool false, .slice none 0 0] 24 (0, 0)) BK299.out NB299_305.out (by simp)); replace BK300 := zM (KeepBut.blk hk (g' := gb300) (o := .cells #[.int .u64 0, .int .u64 0] 27 (0, 0)) BK300.out NB300_305.out (by simp)); replace BK301 := zM (KeepBut.blk hk (g' := gb301) (o := .cells #[.int .i64 0, .int .i64 0] 29 (0, 0)) BK301.out NB301_305.out (by simp)); replace HB := zM (hb); replace HI305 := zM (hi); (try clear hb); (try clear hb2); (try clear hk); (try clear hi); (try clear ho0)) | ((with_reducible refine gate_dst (N := 9) rfl ?_); (try (refine gate_guard (by rfl) ?_; dsimp only)); refine box_event ?hg (N := 9) ?hd (cs := #[.bool false, .slice none 0 0]) (t := 24) ?hr ?_; (case hd => rfl); (case hg => rfl); (case hr => first | (go_simp; done) | (go_simp; rfl)); intro gb316 hg w97 hbox hb; have BK316 := zM (hbox); have GW316 := zM ((by rw [hg]; exact (below_size (by repeat (first | (with_reducible first | exact HB.out | apply below_alloc | apply pw_below_drewN | apply below_drew1 | refine below_set ?_ (IsS81.ge HI305.out) | refine below_setA ?_ (by assumption)) | exact HB.out))) : w.heap.size ≤ gb316)); have GE316 := GW316; have NB298_316 := pzf BK298 hg; have NB316_298 := pzg BK298 hg; have NB299_316 := pzf BK299 hg; have NB316_299 := pzg BK299 hg; have NB300_316 := pzf BK300 hg; have NB316_300 := pzg BK300 hg; have NB301_316 := pzf BK301 hg; have NB316_301 := pzg BK301 hg; have NB305_316 := zM ((by rw [hg]; exact Nat.ne_of_lt (IsS81.lt (show IsS81 w _ g305 t314 t315 from by repeat (first | (with_reducible first | exact HI305.out | apply IsS81.alloc | apply IsS81.drewN | apply IsS81.drew | apply IsS81.set_0 | apply IsS81.set_1 | refine IsS81.far ?_ NB305_298.out _ | refine IsS81.far ?_ NB305_299.out _ | refine IsS81.far ?_ NB305_300.out _ | refine IsS81.far ?_ NB305_301.out _) | exact HI305.out))) : g305 ≠ gb316)); replace HO313 := zM (Kd.R_below HO313.out hb); replace BK298 := pzb BK298 hb; replace BK299 := pzb BK299 hb; replace BK300 := pzb BK300 hb; replace BK301 := pzb BK301 hb; replace HB := zM (below_step (by repeat (first | (with_reducible first | exact HB.out | apply below_alloc | apply pw_below_drewN | apply below_drew1 | refine below_set ?_ (IsS81.ge HI305.out) | refine below_setA ?_ (by assumption)) | exact HB.out)) hb); replace HI305 := zM (IsS81.below (by repeat (first | (with_reducible first | exact HI305.out | apply IsS81.alloc | apply IsS81.drewN | apply IsS81.drew | apply IsS81.set_0 | apply IsS81.set_1 | refine IsS81.far ?_ NB305_298.out _ | refine IsS81.far ?_ NB305_299.out _ | refine IsS81.far ?_ NB305_300.out _ | refine IsS81.far ?_ NB305_301.out _) | exact HI305.out)) hb); clear hb hbox hg; have hnb98 := NB316_298.out; have hnc98 := NB298_316.out; have hnb99 := NB316_299.out; have hnc99 := NB299_316.out; have hnb100 := NB316_300.out; have hnc100 := NB300_316.out; have hnb101 := NB316_301.out; have hnc101 := NB301_316.out; have hcz103_0 := pzc (v := .bool false) BK316 0 rfl; have hcz103_1 := pzc (v := .slice none 0 0) BK316 1 rfl; have hfz103_0 := zF BK316.out 0; have hfz103_1 := zF BK316.out 1; obtain ⟨Ao104, co104, eo104⟩ := Kd.R_slice HO313.out; subst eo104))
      have n0_ : Aside0 (Kd.R (Kd.int .u32) 76 ((w97.setCell ⟨gb316, 0, none⟩ (.bool t310)).setCell ⟨gb316, 1, none⟩ (.slice Ao104 t311.length co104)) w.heap.size (fun _ => True) (.slice Ao104 t311.length co104) t311) := ⟨by (with_reducible repeat (first | apply Kd.R_alloc | apply Kd.R_drewN | apply Kd.R_drew)); exact Kd.R_mono (Kd.R_far (p := ⟨gb316, 1, none⟩) (Kd.R_far (p := ⟨gb316, 0, none⟩) (Kd.R_types HO313.out BK316.out (by decide)) (fun _ hk => hk.2) (.bool t310)) (fun _ hk => hk.2) (.slice Ao104 t311.length co104)) (fun _ hk => trivial)⟩
      have n1_ : Aside0 (((w97.setCell ⟨gb316, 0, none⟩ (.bool t310)).setCell ⟨gb316, 1, none⟩ (.slice Ao104 t311.length co104)).heap[gb298]? = some (.cells #[.bool a1_0, .slice A1_1 l1_1.length c1_1] 24 (0, 0))) := ⟨by (with_reducible repeat (first | apply pzN | apply pzd | apply pza)); refine blk_far ?_ NB298_316.out _; (with_reducible repeat (first | apply pzN | apply pzd | apply pza)); refine blk_far ?_ NB298_316.out _; (with_reducible repeat (first | apply pzN | apply pzd | apply pza)); exact BK298.out⟩
      have n2_ : Aside0 (((w97.setCell ⟨gb316, 0, none⟩ (.bool t310)).setCell ⟨gb316, 1, none⟩ (.slice Ao104 t311.length co104)).heap[gb299]? = some (.cells #[.bool false, .slice none 0 0] 24 (0, 0))) := ⟨by (with_reducible repeat (first | apply pzN | apply pzd | apply pza)); refine blk_far ?_ NB299_316.out _; (with_reducible repeat (first | apply pzN | apply pzd | apply pza)); refine blk_far ?_ NB299_316.out _; (with_reducible repeat (first | apply pzN | apply pzd | apply pza)); exact BK299.out⟩
      have n3_ : Aside0 (((w97.setCell ⟨gb316, 0, none⟩ (.bool t310)).setCell ⟨gb316, 1, none⟩ (.slice Ao104 t311.length co104)).heap[gb300]? = some (.cells #[.int .u64 0, .int .u64 0] 27 (0, 0))) := ⟨by (with_reducible repeat (first | apply pzN | apply pzd | apply pza)); refine blk_far ?_ NB300_316.out _; (with_reducible repeat (first | apply pzN | apply pzd | apply pza)); refine blk_far ?_ NB300_316.out _; (with_reducible repeat (first | apply pzN | apply pzd | apply pza)); exact BK300.out⟩
      have n4_ : Aside0 (((w97.setCell ⟨gb316, 0, none⟩ (.bool t310)).setCell ⟨gb316, 1, none⟩ (.slice Ao104 t311.length co104)).heap[gb301]? = some (.cells #[.int .i64 0, .int .i64 0] 29 (0, 0))) := ⟨by (with_reducible repeat (first | apply pzN | apply pzd | apply pza)); refine blk_far ?_ NB301_316.out _; (with_reducible repeat (first | apply pzN | apply pzd | apply pza)); refine blk_far ?_ NB301_316.out _; (with_reducible repeat (first | apply pzN | apply pzd | apply pza)); exact BK301.out⟩
      have n5_ : Aside0 (((w97.setCell ⟨gb316, 0, none⟩ (.bool t310)).setCell ⟨gb316, 1, none⟩ (.slice Ao104 t311.length co104)).heap[gb316]? = some (.cells #[.bool t310, .slice Ao104 t311.length co104] 24 (0, 0))) := ⟨by (with_reducible repeat (first | apply pzN | apply pzd | apply pza)); refine blk_put (cs := #[.bool t310, .slice none 0 0]) ?_ 1 _ rfl; (with_reducible repeat (first | apply pzN | apply pzd | apply pza)); refine blk_put (cs := #[.bool false, .slice none 0 0]) ?_ 0 _ rfl; (with_reducible repeat (first | apply pzN | apply pzd | apply pza)); exact BK316.out⟩
      have n6_ : Aside0 (IsS81 w ((w97.setCell ⟨gb316, 0, none⟩ (.bool t310)).setCell ⟨gb316, 1, none⟩ (.slice Ao104 t311.length co104)) g305 t314 t315) := ⟨by repeat (first | (with_reducible first | exact HI305.out | apply IsS81.alloc | apply IsS81.drewN | apply IsS81.drew | apply IsS81.set_0 | apply IsS81.set_1 | refine IsS81.far ?_ NB305_298.out _ | refine IsS81.far ?_ NB305_299.out _ | refine IsS81.far ?_ NB305_300.out _ | refine IsS81.far ?_ NB305_301.out _ | refine IsS81.far ?_ NB305_316.out _) | exact HI305.out)⟩
      have n7_ : Aside0 (Below w.heap.size w ((w97.setCell ⟨gb316, 0, none⟩ (.bool t310)).setCell ⟨gb316, 1, none⟩ (.slice Ao104 t311.length co104))) := ⟨by repeat (first | (with_reducible first | exact HB.out | apply below_alloc | apply pw_below_drewN | apply below_drew1 | refine below_set ?_ (IsS81.ge HI305.out) | refine below_setA ?_ (by assumption)) | exact HB.out)⟩
      (try clear HO313)
      (try clear BK298)
      (try clear BK299)
      (try clear BK300)
      (try clear BK301)
      (try clear BK316)
      (try clear HI305)
      (try clear HB)
      generalize ((w97.setCell ⟨gb316, 0, none⟩ (.bool t310)).setCell ⟨gb316, 1, none⟩ (.slice Ao104 t311.length co104)) = w105 at n0_ n1_ n2_ n3_ n4_ n5_ n6_ n7_ ⊢
      have HO313 := n0_
      have BK298 := n1_
      have BK299 := n2_
      have BK300 := n3_
      have BK301 := n4_
      have BK316 := n5_
      have HI305 := n6_
      have HB := n7_
      clear n0_ n1_ n2_ n3_ n4_ n5_ n6_ n7_
      replace HO313 := zM (Kd.R_drew HO313.out)
      replace BK299 := zM (blk_drew BK299.out)
      replace BK300 := zM (blk_drew BK300.out)
      replace BK301 := zM (blk_drew BK301.out)
      replace BK316 := zM (blk_drew BK316.out)
      replace HI305 := zM (IsS81.drew HI305.out)
      replace HB := zM (below_drew1 HB.out)
      refine start_ (n := 9) (S := fun w' => w'.cell? ⟨gb316, 0, none⟩ = some (.bool t310) ∧ w'.cell? ⟨gb316, 1, none⟩ = some (.slice Ao104 t311.length co104) ∧ w'.cell? ⟨g305, 0, none⟩ = some (.int .u64 t314) ∧ w'.cell? ⟨g305, 1, none⟩ = some (.int .u64 t315)) (ds := []) #[false, false, false, false, false, false, false, false, false] (by kernel_rfl) rfl rfl ⟨(blk_cell BK316.out 0).trans rfl, (blk_cell BK316.out 1).trans rfl, (blk_cell (zM HI305.out.1).out 0).trans rfl, (blk_cell (zM HI305.out.1).out 1).trans rfl⟩ (fun hHeld => ?_); refine with_tabW random_Below.tab9 random_Below.bits9 (fun HT_ HW_ => ?_)
      generalize w105.drew = w106 at HO313 BK299 BK300 BK301 HI305 HB hHeld ⊢
      refine pure_ (i := 1) (N := some 45) (v := ?_) (a' := ?_) #[false, true, false, false, false, false, false, false, false] rfl rfl (any_of HT_.out (by kernel_rfl)) (fun _ _ _ h => h) (Or.inl ⟨by rfl, ?_⟩) ?_ ?_
      rotate_left
      ·intro w'
       go_simp
       with_reducible rfl
      rotate_left
      ·simp only [Act.put, zS, z0, z1, i64_w, i32_w]
       rfl
      refine pure_ (i := 2) (N := some 46) (v := ?_) (a' := ?_) #[false, true, true, false, false, false, false, false, false] rfl rfl (any_of HT_.out (by kernel_rfl)) (fun _ _ _ h => h) (Or.inl ⟨by rfl, ?_⟩) ?_ ?_
      rotate_left
      ·intro w'
       go_simp
       with_reducible rfl
      rotate_left
      ·simp only [Act.put, zS, z0, z1, i64_w, i32_w]
       rfl
      refine pure_ (i := 3) (N := some 47) (v := ?_) (a' := ?_) #[false, true, true, true, false, false, false, false, false] rfl rfl (any_of HT_.out (by kernel_rfl)) (fun _ _ _ h => h) (Or.inl ⟨by rfl, ?_⟩) ?_ ?_
      rotate_left
      ·intro w'
       go_simp
       with_reducible rfl
      rotate_left
      ·simp only [Act.put, zS, z0, z1, i64_w, i32_w]
       rfl
      refine pure_ (i := 5) (N := some 49) (v := ?_) (a' := ?_) #[false, true, true, true, false, true, false, false, false] rfl rfl (any_of HT_.out (by kernel_rfl)) (fun _ _ _ h => h) (Or.inl ⟨by rfl, ?_⟩) ?_ ?_
      rotate_left
      ·intro w'
       go_simp
       with_reducible rfl
      rotate_left
      ·simp only [Act.put, zS, z0, z1, i64_w, i32_w]
       rfl
      refine take_ (i := 0) (N := some 44) (v := ?_) (a' := ?_) #[true, true, true, true, false, true, false, false, false] rfl rfl (take_ofW HT_.out HW_.out (by kernel_rfl)) (fun _ _ _ h => h) (Or.inl ⟨by rfl, ?_⟩) hHeld ?_ ?_
      rotate_left
      ·rintro w' ⟨s0, s1, s2, s3⟩
       go_simp
       with_reducible rfl
      rotate_left
      ·simp only [Act.put, zS, z0, z1, i64_w, i32_w]
       rfl
      refine take_ (i := 4) (N := some 48) (v := ?_) (a' := ?_) #[true, true, true, true, true, true, false, false, false] rfl rfl (take_ofW HT_.out HW_.out (by kernel_rfl)) (fun _ _ _ h => h) (Or.inl ⟨by rfl, ?_⟩) hHeld ?_ ?_
      rotate_left
      ·rintro w' ⟨s0, s1, s2, s3⟩
       go_simp
       with_reducible rfl
      rotate_left
      ·simp only [Act.put, zS, z0, z1, i64_w, i32_w]
       rfl
      refine one_ (i := 6) (N := none) #[true, true, true, true, true, true, true, false, false] rfl rfl (one_of HT_.out (by kernel_rfl)) (by decide) (fun K hK => ?_)
      have hs107 : w106.cell? ⟨gb299, 0, none⟩ = some (.bool false) := (blk_cell BK299.out 0).trans rfl
      have hfs107 := zF BK299.out 0
      have hns107_0 := NB298_299.out
      have hns107_2 := NB300_299.out
      have hns107_3 := NB301_299.out
      have hns107_4 := NB316_299.out
      have hms107_0 := NB299_298.out
      have hms107_2 := NB299_300.out
      have hms107_3 := NB299_301.out
      have hms107_4 := NB299_316.out
      have hs108 : w106.cell? ⟨gb299, 1, none⟩ = some (.slice none 0 0) := (blk_cell BK299.out 1).trans rfl
      have hfs108 := zF BK299.out 1
      have hns108_0 := NB298_299.out
      have hns108_2 := NB300_299.out
      have hns108_3 := NB301_299.out
      have hns108_4 := NB316_299.out
      have hms108_0 := NB299_298.out
      have hms108_2 := NB299_300.out
      have hms108_3 := NB299_301.out
      have hms108_4 := NB299_316.out
      refine skip_ (w1 := ?_) (by rfl) rfl ?_ ?_
      rotate_left
      ·go_simp
       rfl
      refine hK.out _ _ ⟨((cell_far (p := ⟨gb299, _, none⟩) NB316_299.out _).trans (((cell_far (p := ⟨gb299, _, none⟩) NB316_299.out _).trans (hHeld.1)))), ((cell_far (p := ⟨gb299, _, none⟩) NB316_299.out _).trans (((cell_far (p := ⟨gb299, _, none⟩) NB316_299.out _).trans (hHeld.2.1)))), ((cell_far (p := ⟨gb299, _, none⟩) NB305_299.out _).trans (((cell_far (p := ⟨gb299, _, none⟩) NB305_299.out _).trans (hHeld.2.2.1)))), ((cell_far (p := ⟨gb299, _, none⟩) NB305_299.out _).trans (((cell_far (p := ⟨gb299, _, none⟩) NB305_299.out _).trans (hHeld.2.2.2))))⟩ (fun hHeld => ?_)
      clear hK K
      refine one_ (i := 7) (N := none) #[true, true, true, true, true, true, true, true, false] rfl rfl (one_of HT_.out (by kernel_rfl)) (by decide) (fun K hK => ?_)
      have hs109 : w106.cell? ⟨gb300, 0, none⟩ = some (.int .u64 0) := (blk_cell BK300.out 0).trans rfl
      have hfs109 := zF BK300.out 0
      have hns109_0 := NB298_300.out
      have hns109_1 := NB299_300.out
      have hns109_3 := NB301_300.out
      have hns109_4 := NB316_300.out
      have hms109_0 := NB300_298.out
      have hms109_1 := NB300_299.out
      have hms109_3 := NB300_301.out
      have hms109_4 := NB300_316.out
      have hs110 : w106.cell? ⟨gb300, 1, none⟩ = some (.int .u64 0) := (blk_cell BK300.out 1).trans rfl
      have hfs110 := zF BK300.out 1
      have hns110_0 := NB298_300.out
      have hns110_1 := NB299_300.out
      have hns110_3 := NB301_300.out
      have hns110_4 := NB316_300.out
      have hms110_0 := NB300_298.out
      have hms110_1 := NB300_299.out
      have hms110_3 := NB300_301.out
      have hms110_4 := NB300_316.out
      refine skip_ (w1 := ?_) (by rfl) rfl ?_ ?_
      rotate_left
      ·go_simp
       rfl
      refine hK.out _ _ ⟨((cell_far (p := ⟨gb300, _, none⟩) NB316_300.out _).trans (((cell_far (p := ⟨gb300, _, none⟩) NB316_300.out _).trans (hHeld.1)))), ((cell_far (p := ⟨gb300, _, none⟩) NB316_300.out _).trans (((cell_far (p := ⟨gb300, _, none⟩) NB316_300.out _).trans (hHeld.2.1)))), ((cell_far (p := ⟨gb300, _, none⟩) NB305_300.out _).trans (((cell_far (p := ⟨gb300, _, none⟩) NB305_300.out _).trans (hHeld.2.2.1)))), ((cell_far (p := ⟨gb300, _, none⟩) NB305_300.out _).trans (((cell_far (p := ⟨gb300, _, none⟩) NB305_300.out _).trans (hHeld.2.2.2))))⟩ (fun hHeld => ?_)
      clear hK K
      refine one_ (i := 8) (N := none) #[true, true, true, true, true, true, true, true, true] rfl rfl (one_of HT_.out (by kernel_rfl)) (by decide) (fun K hK => ?_)
      have hs111 : w106.cell? ⟨gb301, 0, none⟩ = some (.int .i64 0) := (blk_cell BK301.out 0).trans rfl
      have hfs111 := zF BK301.out 0
      have hns111_0 := NB298_301.out
      have hns111_1 := NB299_301.out
      have hns111_2 := NB300_301.out
      have hns111_4 := NB316_301.out
      have hms111_0 := NB301_298.out
      have hms111_1 := NB301_299.out
      have hms111_2 := NB301_300.out
      have hms111_4 := NB301_316.out
      have hs112 : w106.cell? ⟨gb301, 1, none⟩ = some (.int .i64 0) := (blk_cell BK301.out 1).trans rfl
      have hfs112 := zF BK301.out 1
      have hns112_0 := NB298_301.out
      have hns112_1 := NB299_301.out
      have hns112_2 := NB300_301.out
      have hns112_4 := NB316_301.out
      have hms112_0 := NB301_298.out
      have hms112_1 := NB301_299.out
      have hms112_2 := NB301_300.out
      have hms112_4 := NB301_316.out
      refine skip_ (w1 := ?_) (by rfl) rfl ?_ ?_
      rotate_left
      ·go_simp
       rfl
      refine hK.out _ _ ⟨((cell_far (p := ⟨gb301, _, none⟩) NB316_301.out _).trans (((cell_far (p := ⟨gb301, _, none⟩) NB316_301.out _).trans (hHeld.1)))), ((cell_far (p := ⟨gb301, _, none⟩) NB316_301.out _).trans (((cell_far (p := ⟨gb301, _, none⟩) NB316_301.out _).trans (hHeld.2.1)))), ((cell_far (p := ⟨gb301, _, none⟩) NB305_301.out _).trans (((cell_far (p := ⟨gb301, _, none⟩) NB305_301.out _).trans (hHeld.2.2.1)))), ((cell_far (p := ⟨gb301, _, none⟩) NB305_301.out _).trans (((cell_far (p := ⟨gb301, _, none⟩) NB305_301.out _).trans (hHeld.2.2.2))))⟩ (fun hHeld => ?_)
      clear hK K
      refine done_ (done_of HT_.out (by kernel_rfl)) ?_
      try go_wp2
      refine bodyPost_ret (results_list (rs := [.cell 4 24, .cell 5 27, .cell 6 29]) rfl (by simp) (.cell gb299 24 #[.bool t310, .slice Ao104 t311.length co104] (0, 0) _ rfl (by (with_reducible repeat (first | apply pzN | apply pzd | apply pza)); refine blk_far ?_ NB299_301.out _; (with_reducible repeat (first | apply pzN | apply pzd | apply pza)); refine blk_far ?_ NB299_301.out _; (with_reducible repeat (first | apply pzN | apply pzd | apply pza)); refine blk_far ?_ NB299_300.out _; (with_reducible repeat (first | apply pzN | apply pzd | apply pza)); refine blk_far ?_ NB299_300.out _; (with_reducible repeat (first | apply pzN | apply pzd | apply pza)); refine blk_put (cs := #[.bool t310, .slice none 0 0]) ?_ 1 _ rfl; (with_reducible repeat (first | apply pzN | apply pzd | apply pza)); refine blk_put (cs := #[.bool false, .slice none 0 0]) ?_ 0 _ rfl; (with_reducible repeat (first | apply pzN | apply pzd | apply pza)); exact BK299.out) Try.underlying24 rfl (by kernel_rfl) (.cell gb300 27 #[.int .u64 t314, .int .u64 t315] (0, 0) _ rfl (by (with_reducible repeat (first | apply pzN | apply pzd | apply pza)); refine blk_far ?_ NB300_301.out _; (with_reducible repeat (first | apply pzN | apply pzd | apply pza)); refine blk_far ?_ NB300_301.out _; (with_reducible repeat (first | apply pzN | apply pzd | apply pza)); refine blk_put (cs := #[.int .u64 t314, .int .u64 0]) ?_ 1 _ rfl; (with_reducible repeat (first | apply pzN | apply pzd | apply pza)); refine blk_put (cs := #[.int .u64 0, .int .u64 0]) ?_ 0 _ rfl; (with_reducible repeat (first | apply pzN | apply pzd | apply pza)); refine blk_far ?_ NB300_299.out _; (with_reducible repeat (first | apply pzN | apply pzd | apply pza)); refine blk_far ?_ NB300_299.out _; (with_reducible repeat (first | apply pzN | apply pzd | apply pza)); exact BK300.out) Try.underlying27 rfl (by kernel_rfl) (.cell gb301 29 #[.int .i64 0, .int .i64 0] (0, 0) _ rfl (by (with_reducible repeat (first | apply pzN | apply pzd | apply pza)); refine blk_put (cs := #[.int .i64 0, .int .i64 0]) ?_ 1 _ rfl; (with_reducible repeat (first | apply pzN | apply pzd | apply pza)); refine blk_put (cs := #[.int .i64 0, .int .i64 0]) ?_ 0 _ rfl; (with_reducible repeat (first | apply pzN | apply pzd | apply pza)); refine blk_far ?_ NB301_300.out _; (with_reducible repeat (first | apply pzN | apply pzd | apply pza)); refine blk_far ?_ NB301_300.out _; (with_reducible repeat (first | apply pzN | apply pzd | apply pza)); refine blk_far ?_ NB301_299.out _; (with_reducible repeat (first | apply pzN | apply pzd | apply pza)); refine blk_far ?_ NB301_299.out _; (with_reducible repeat (first | apply pzN | apply pzd | apply pza)); exact BK301.out) Try.underlying29 rfl (by kernel_rfl) .nil)))) rfl ?_
      exact ⟨_, by first | rfl | (simp [errW_none, errW_some] <;> rfl) | (simp [*, errW_none, errW_some] <;> rfl), by (with_reducible repeat (first | apply Kd.R_alloc | apply Kd.R_drewN | apply Kd.R_drew)); exact Kd.R_mono (Kd.R_far (p := ⟨gb301, 1, none⟩) (Kd.R_far (p := ⟨gb301, 0, none⟩) (Kd.R_far (p := ⟨gb300, 1, none⟩) (Kd.R_far (p := ⟨gb300, 0, none⟩) (Kd.R_far (p := ⟨gb299, 1, none⟩) (Kd.R_far (p := ⟨gb299, 0, none⟩) (Kd.R_types (Kd.R_types (Kd.R_types HO313.out BK299.out (by decide)) BK300.out (by decide)) BK301.out (by decide)) (fun _ hk => hk.1.1.2) (.bool t310)) (fun _ hk => hk.1.1.2) (.slice Ao104 t311.length co104)) (fun _ hk => hk.1.2) (.int .u64 t314)) (fun _ hk => hk.1.2) (.int .u64 t315)) (fun _ hk => hk.2) (.int .i64 0)) (fun _ hk => hk.2) (.int .i64 0)) (fun _ hk => trivial), by repeat (first | (with_reducible first | exact HB.out | apply below_alloc | apply pw_below_drewN | apply below_drew1 | refine below_set ?_ (IsS81.ge HI305.out) | refine below_setA ?_ (by assumption)) | exact HB.out)⟩
  ·replace c33 := Bool.eq_false_iff.mpr c33
   subst c33
   have H1 : ((random_at.f 6 (-2)).bind fun bt317 => (some (false, ([] : List Int), 0, 0, bt317.1, bt317.2))) = some (r1, r2, r3, r4, r5, r6) := by rw [if_neg (show ¬ (false = true) by decide)] at H; exact H
   clear H
   have H := H1
   clear H1
   replace H := zB H
   obtain ⟨⟨t317, t318⟩, A1130, H⟩ := H
   replace H : (some (false, ([] : List Int), 0, 0, t317, t318)) = some (r1, r2, r3, r4, r5, r6) := H
   have A113 := zM A1130
   clear A1130
   simp only [Option.some.injEq, Prod.mk.injEq] at H
   obtain ⟨rfl, rfl, rfl, rfl, rfl, rfl⟩ := H
   go_enter Try.func16, Try.ntmps16
   go_wp2_with (first | ((with_reducible refine gate_dst (N := 2) rfl ?_); (try (refine gate_guard (by rfl) ?_; dsimp only)); refine box_event ?hg (N := 2) ?hd (cs := #[.int .u64 a0_0, .int .u64 a0_1]) (t := 27) ?hr ?_; (case hd => rfl); (case hg => rfl); (case hr => first | (go_simp; done) | (go_simp; rfl)); intro gb297 hg w114 hbox hb; have n0_ := zM (below_step (HB.out) hb); have n1_ := zM (hbox); have n2_ := zM ((by rw [hg]; exact (below_size (HB.out)) : w.heap.size ≤ gb297)); have n3_ := zM ((by rw [hg]; exact (below_size (HB.out)) : w.heap.size ≤ gb297)); clear HB; have HB := n0_; have BK297 := n1_; have GW297 := n2_; have GE297 := n3_; clear n0_ n1_ n2_ n3_; clear hb hbox hg) | ((with_reducible refine gate_dst (N := 3) rfl ?_); (try (refine gate_guard (by rfl) ?_; dsimp only)); refine box_event ?hg (N := 3) ?hd (cs := #[.bool a1_0, .slice A1_1 l1_1.length c1_1]) (t := 24) ?hr ?_; (case hd => rfl); (case hg => rfl); (case hr => first | (go_simp; done) | (go_simp; rfl)); intro gb298 hg w115 hbox hb; have BK298 := zM (hbox); have GW298 := zM ((by rw [hg]; exact (below_size (by repeat (first | (with_reducible first | exact HB.out | apply pzA | apply pzD | apply pz1 | apply pzs | assumption) | exact HB.out))) : w.heap.size ≤ gb298)); have GE298 := GW298; have NB297_298 := pzf BK297 hg; have NB298_297 := pzg BK297 hg; replace BK297 := pzb BK297 hb; replace HB := zM (below_step (by repeat (first | (with_reducible first | exact HB.out | apply pzA | apply pzD | apply pz1 | apply pzs | assumption) | exact HB.out)) hb); clear hb hbox hg) | ((with_reducible refine gate_dst (N := 4) rfl ?_); (try (refine gate_guard (by rfl) ?_; dsimp only)); refine box_event ?hg (N := 4) ?hd (cs := #[.bool false, .slice none 0 0]) (t := 24) ?hr ?_; (case hd => rfl); (case hg => rfl); (case hr => first | (go_simp; done) | (go_simp; rfl)); intro gb299 hg w116 hbox hb; have BK299 := zM (hbox); have GW299 := zM ((by rw [hg]; exact (below_size (by repeat (first | (with_reducible first | exact HB.out | apply pzA | apply pzD | apply pz1 | apply pzs | assumption) | exact HB.out))) : w.heap.size ≤ gb299)); have GE299 := GW299; have NB297_299 := pzf BK297 hg; have NB299_297 := pzg BK297 hg; have NB298_299 := pzf BK298 hg; have NB299_298 := pzg BK298 hg; replace BK297 := pzb BK297 hb; replace BK298 := pzb BK298 hb; replace HB := zM (below_step (by repeat (first | (with_reducible first | exact HB.out | apply pzA | apply pzD | apply pz1 | apply pzs | assumption) | exact HB.out)) hb); clear hb hbox hg) | ((with_reducible refine gate_dst (N := 5) rfl ?_); (try (refine gate_guard (by rfl) ?_; dsimp only)); refine box_event ?hg (N := 5) ?hd (cs := #[.int .u64 0, .int .u64 0]) (t := 27) ?hr ?_; (case hd => rfl); (case hg => rfl); (case hr => first | (go_simp; done) | (go_simp; rfl)); intro gb300 hg w117 hbox hb; have BK300 := zM (hbox); have GW300 := zM ((by rw [hg]; exact (below_size (by repeat (first | (with_reducible first | exact HB.out | apply pzA | apply pzD | apply pz1 | apply pzs | assumption) | exact HB.out))) : w.heap.size ≤ gb300)); have GE300 := GW300; have NB297_300 := pzf BK297 hg; have NB300_297 := pzg BK297 hg; have NB298_300 := pzf BK298 hg; have NB300_298 := pzg BK298 hg; have NB299_300 := pzf BK299 hg; have NB300_299 := pzg BK299 hg; replace BK297 := pzb BK297 hb; replace BK298 := pzb BK298 hb; replace BK299 := pzb BK299 hb; replace HB := zM (below_step (by repeat (first | (with_reducible first | exact HB.out | apply pzA | apply pzD | apply pz1 | apply pzs | assumption) | exact HB.out)) hb); clear hb hbox hg) | ((with_reducible refine gate_dst (N := 6) rfl ?_); (try (refine gate_guard (by rfl) ?_; dsimp only)); refine box_event ?hg (N := 6) ?hd (cs := #[.int .i64 0, .int .i64 0]) (t := 29) ?hr ?_; (case hd => rfl); (case hg => rfl); (case hr => first | (go_simp; done) | (go_simp; rfl)); intro gb301 hg w118 hbox hb; have BK301 := zM (hbox); have GW301 := zM ((by rw [hg]; exact (below_size (by repeat (first | (with_reducible first | exact HB.out | apply pzA | apply pzD | apply pz1 | apply pzs | assumption) | exact HB.out))) : w.heap.size ≤ gb301)); have GE301 := GW301; have NB297_301 := pzf BK297 hg; have NB301_297 := pzg BK297 hg; have NB298_301 := pzf BK298 hg; have NB301_298 := pzg BK298 hg; have NB299_301 := pzf BK299 hg; have NB301_299 := pzg BK299 hg; have NB300_301 := pzf BK300 hg; have NB301_300 := pzg BK300 hg; replace BK297 := pzb BK297 hb; replace BK298 := pzb BK298 hb; replace BK299 := pzb BK299 hb; replace BK300 := pzb BK300 hb; replace HB := zM (below_step (by repeat (first | (with_reducible first | exact HB.out | apply pzA | apply pzD | apply pz1 | apply pzs | assumption) | exact HB.out)) hb); clear hb hbox hg; have hnb119 := NB297_298.out; have hnc119 := NB298_297.out; have hnb120 := NB297_299.out; have hnc120 := NB299_297.out; have hnb121 := NB297_300.out; have hnc121 := NB300_297.out; have hnb122 := NB297_301.out; have hnc122 := NB301_297.out; have hcz123_0 := pzc (v := .int .u64 a0_0) BK297 0 rfl; have hcz123_1 := pzc (v := .int .u64 a0_1) BK297 1 rfl; have hfz123_0 := zF BK297.out 0; have hfz123_1 := zF BK297.out 1) | ((with_reducible refine gate_callee (f := 39) rfl ?_); refine goesL_ (some 12) rfl rfl Try.func39 (by kernel_rfl) rfl #[.agg #[.int .u64 a0_0, .int .u64 a0_1]] rfl (by (try simp only [zT, zC, zN]); first | done | rfl | (simp only [zR, zL]; rfl)) ?_; (with_reducible refine (random_open_ok.calls a0_0 a0_1 t303 t304 w _ ?side1 A31.out).mono ?_); (case side1 => repeat (first | (with_reducible first | exact HB.out | apply pzA | apply pzD | apply pz1 | apply pzs | assumption) | exact HB.out)); rintro e w124 ⟨g305, rfl, hi, hb, hb2⟩; refine ⟨_, rfl, ?_⟩; have HI305 := zM (hi); have NB305_297 := zM (IsS81.ne_blk hi (blk_below (g := gb297) (o := .cells #[.int .u64 a0_0, .int .u64 a0_1] 27 (0, 0)) BK297.out hb2) (by decide)); have NB297_305 := zM (Ne.symm (IsS81.ne_blk hi (blk_below (g := gb297) (o := .cells #[.int .u64 a0_0, .int .u64 a0_1] 27 (0, 0)) BK297.out hb2) (by decide))); have NB305_298 := zM (IsS81.ne_blk hi (blk_below (g := gb298) (o := .cells #[.bool a1_0, .slice A1_1 l1_1.length c1_1] 24 (0, 0)) BK298.out hb2) (by decide)); have NB298_305 := zM (Ne.symm (IsS81.ne_blk hi (blk_below (g := gb298) (o := .cells #[.bool a1_0, .slice A1_1 l1_1.length c1_1] 24 (0, 0)) BK298.out hb2) (by decide))); have NB305_299 := zM (IsS81.ne_blk hi (blk_below (g := gb299) (o := .cells #[.bool false, .slice none 0 0] 24 (0, 0)) BK299.out hb2) (by decide)); have NB299_305 := zM (Ne.symm (IsS81.ne_blk hi (blk_below (g := gb299) (o := .cells #[.bool false, .slice none 0 0] 24 (0, 0)) BK299.out hb2) (by decide))); have NB305_300 := zM (IsS81.ne_blk hi (blk_below (g := gb300) (o := .cells #[.int .u64 0, .int .u64 0] 27 (0, 0)) BK300.out hb2) (by decide)); have NB300_305 := zM (Ne.symm (IsS81.ne_blk hi (blk_below (g := gb300) (o := .cells #[.int .u64 0, .int .u64 0] 27 (0, 0)) BK300.out hb2) (by decide))); have NB305_301 := zM (IsS81.ne_blk hi (blk_below (g := gb301) (o := .cells #[.int .i64 0, .int .i64 0] 29 (0, 0)) BK301.out hb2) (by decide)); have NB301_305 := zM (Ne.symm (IsS81.ne_blk hi (blk_below (g := gb301) (o := .cells #[.int .i64 0, .int .i64 0] 29 (0, 0)) BK301.out hb2) (by decide))); replace BK298 := zM (blk_below (g := gb298) (o := .cells #[.bool a1_0, .slice A1_1 l1_1.length c1_1] 24 (0, 0)) BK298.out hb2); replace BK299 := zM (blk_below (g := gb299) (o := .cells #[.bool false, .slice none 0 0] 24 (0, 0)) BK299.out hb2); replace BK300 := zM (blk_below (g := gb300) (o := .cells #[.int .u64 0, .int .u64 0] 27 (0, 0)) BK300.out hb2); replace BK301 := zM (blk_below (g := gb301) (o := .cells #[.int .i64 0, .int .i64 0] 29 (0, 0)) BK301.out hb2); replace HB := zM (hb); (try clear hb); (try clear hb2); (try clear hk); (try clear hi)) | ((with_reducible refine gate_dst (N := 8) rfl ?_); (try (refine gate_guard (by rfl) ?_; dsimp only)); refine box_event ?hg (N := 8) ?hd (cs := #[.int .i64 0, .int .i64 0]) (t := 29) ?hr ?_; (case hd => rfl); (case hg => rfl); (case hr => first | (go_simp; done) | (go_simp; rfl)); intro gb306 hg w125 hbox hb; have BK306 := zM (hbox); have GW306 := zM ((by rw [hg]; exact (below_size (by repeat (first | (with_reducible first | exact HB.out | apply below_alloc | apply pw_below_drewN | apply below_drew1 | refine below_set ?_ (IsS81.ge HI305.out) | refine below_setA ?_ (by assumption)) | exact HB.out))) : w.heap.size ≤ gb306)); have GE306 := GW306; have NB298_306 := pzf BK298 hg; have NB306_298 := pzg BK298 hg; have NB299_306 := pzf BK299 hg; have NB306_299 := pzg BK299 hg; have NB300_306 := pzf BK300 hg; have NB306_300 := pzg BK300 hg; have NB301_306 := pzf BK301 hg; have NB306_301 := pzg BK301 hg; have NB305_306 := zM ((by rw [hg]; exact Nat.ne_of_lt (IsS81.lt (show IsS81 w _ g305 t303 t304 from by repeat (first | (with_reducible first | exact HI305.out | apply IsS81.alloc | apply IsS81.drewN | apply IsS81.drew | apply IsS81.set_0 | apply IsS81.set_1 | refine IsS81.far ?_ NB305_297.out _ | refine IsS81.far ?_ NB305_298.out _ | refine IsS81.far ?_ NB305_299.out _ | refine IsS81.far ?_ NB305_300.out _ | refine IsS81.far ?_ NB305_301.out _) | exact HI305.out))) : g305 ≠ gb306)); replace BK298 := pzb BK298 hb; replace BK299 := pzb BK299 hb; replace BK300 := pzb BK300 hb; replace BK301 := pzb BK301 hb; replace HB := zM (below_step (by repeat (first | (with_reducible first | exact HB.out | apply below_alloc | apply pw_below_drewN | apply below_drew1 | refine below_set ?_ (IsS81.ge HI305.out) | refine below_setA ?_ (by assumption)) | exact HB.out)) hb); replace HI305 := zM (IsS81.below (by repeat (first | (with_reducible first | exact HI305.out | apply IsS81.alloc | apply IsS81.drewN | apply IsS81.drew | apply IsS81.set_0 | apply IsS81.set_1 | refine IsS81.far ?_ NB305_297.out _ | refine IsS81.far ?_ NB305_298.out _ | refine IsS81.far ?_ NB305_299.out _ | refine IsS81.far ?_ NB305_300.out _ | refine IsS81.far ?_ NB305_301.out _) | exact HI305.out)) hb); clear hb hbox hg; have hnb127 := NB306_298.out; have hnc127 := NB298_306.out; have hnb128 := NB306_299.out; have hnc128 := NB299_306.out; have hnb129 := NB306_300.out; have hnc129 := NB300_306.out; have hnb130 := NB306_301.out; have hnc130 := NB301_306.out; have hcz132_0 := pzc (v := .int .i64 0) BK306 0 rfl; have hcz132_1 := pzc (v := .int .i64 0) BK306 1 rfl; have hfz132_0 := zF BK306.out 0; have hfz132_1 := zF BK306.out 1; have hnb133 := NB298_299.out; have hnc133 := NB299_298.out; have hnb134 := NB298_300.out; have hnc134 := NB300_298.out; have hnb135 := NB298_301.out; have hnc135 := NB301_298.out; have hcz137_0 := pzc (v := .bool a1_0) BK298 0 rfl; have hcz137_1 := pzc (v := .slice A1_1 l1_1.length c1_1) BK298 1 rfl; have hfz137_0 := zF BK298.out 0; have hfz137_1 := zF BK298.out 1) | ((with_reducible refine gate_callee (f := 36) rfl ?_); refine goesL_ (some 24) rfl rfl Try.func36 (by kernel_rfl) rfl #[.agg #[.bool a1_0, .slice A1_1 l1_1.length c1_1]] rfl (by (try simp only [zT, zC, zN]); first | done | rfl | (simp only [zR, zL]; rfl)) ?_; (with_reducible refine (integer_Valid.calls a1_0 _ _ l1_1 false _ ?side1 ?side2 A32.out).mono ?_); (case side1 => exact Kd.C_below HR1_1.out (by repeat (first | (with_reducible first | exact HB.out | apply below_alloc | apply pw_below_drewN | apply below_drew1 | refine below_set ?_ (IsS81.ge HI305.out) | refine below_setA ?_ (by assumption)) | exact HB.out))); (case side2 => exact HC1_1.out); rintro e w138 ⟨rfl, hb⟩; refine ⟨_, rfl, ?_⟩; replace BK299 := zM (blk_below (g := gb299) (o := .cells #[.bool false, .slice none 0 0] 24 (0, 0)) (by (with_reducible repeat (first | apply pzN | apply pzd | apply pza)); refine blk_far ?_ NB299_306.out _; (with_reducible repeat (first | apply pzN | apply pzd | apply pza)); refine blk_far ?_ NB299_306.out _; (with_reducible repeat (first | apply pzN | apply pzd | apply pza)); exact BK299.out) hb); replace BK300 := zM (blk_below (g := gb300) (o := .cells #[.int .u64 0, .int .u64 0] 27 (0, 0)) (by (with_reducible repeat (first | apply pzN | apply pzd | apply pza)); refine blk_far ?_ NB300_306.out _; (with_reducible repeat (first | apply pzN | apply pzd | apply pza)); refine blk_far ?_ NB300_306.out _; (with_reducible repeat (first | apply pzN | apply pzd | apply pza)); exact BK300.out) hb); replace BK301 := zM (blk_below (g := gb301) (o := .cells #[.int .i64 0, .int .i64 0] 29 (0, 0)) (by (with_reducible repeat (first | apply pzN | apply pzd | apply pza)); refine blk_far ?_ NB301_306.out _; (with_reducible repeat (first | apply pzN | apply pzd | apply pza)); refine blk_far ?_ NB301_306.out _; (with_reducible repeat (first | apply pzN | apply pzd | apply pza)); exact BK301.out) hb); replace HB := zM (below_step (by repeat (first | (with_reducible first | exact HB.out | apply below_alloc | apply pw_below_drewN | apply below_drew1 | refine below_set ?_ (IsS81.ge HI305.out) | refine below_setA ?_ (by assumption)) | exact HB.out)) hb); replace HI305 := zM (IsS81.below (show IsS81 w ((w125.setCell ⟨gb306, 0, none⟩ (.int .i64 0)).setCell ⟨gb306, 1, none⟩ (.int .i64 0)) g305 t303 t304 from by repeat (first | (with_reducible first | exact HI305.out | apply IsS81.alloc | apply IsS81.drewN | apply IsS81.drew | apply IsS81.set_0 | apply IsS81.set_1 | refine IsS81.far ?_ NB305_297.out _ | refine IsS81.far ?_ NB305_298.out _ | refine IsS81.far ?_ NB305_299.out _ | refine IsS81.far ?_ NB305_300.out _ | refine IsS81.far ?_ NB305_301.out _ | refine IsS81.far ?_ NB305_306.out _) | exact HI305.out)) hb); (try clear hb); (try clear hb2); (try clear hk); (try clear hi)) | ((with_reducible refine gate_callee (f := 37) rfl ?_); refine goesL_ (some 28) rfl rfl Try.func37 (by kernel_rfl) rfl #[.int .i64 6, .int .i64 (-2)] rfl (by (try simp only [zT, zC, zN]); first | done | rfl | (simp only [zR, zL]; rfl)) ?_; (with_reducible refine (random_at.calls 6 (-2) t317 t318 _ A113.out).mono ?_); rintro e w139 ⟨rfl, hb⟩; refine ⟨_, rfl, ?_⟩; replace BK299 := pzb BK299 hb; replace BK300 := pzb BK300 hb; replace BK301 := pzb BK301 hb; replace HB := zM (below_step (by repeat (first | (with_reducible first | exact HB.out | apply below_alloc | apply pw_below_drewN | apply below_drew1 | refine below_set ?_ (IsS81.ge HI305.out) | refine below_setA ?_ (by assumption)) | exact HB.out)) hb); replace HI305 := zM (IsS81.below (by repeat (first | (with_reducible first | exact HI305.out | apply IsS81.alloc | apply IsS81.drewN | apply IsS81.drew | apply IsS81.set_0 | apply IsS81.set_1 | refine IsS81.far ?_ NB305_297.out _ | refine IsS81.far ?_ NB305_298.out _ | refine IsS81.far ?_ NB305_299.out _ | refine IsS81.far ?_ NB305_300.out _ | refine IsS81.far ?_ NB305_301.out _ | refine IsS81.far ?_ NB305_306.out _) | exact HI305.out)) hb); (try clear hb); (try clear hb2); (try clear hk); (try clear hi); have hnb140 := NB299_300.out; have hnc140 := NB300_299.out; have hnb141 := NB299_301.out; have hnc141 := NB301_299.out; have hcz143_0 := pzc (v := .bool false) BK299 0 rfl; have hcz143_1 := pzc (v := .slice none 0 0) BK299 1 rfl; have hfz143_0 := zF BK299.out 0; have hfz143_1 := zF BK299.out 1; have hnb144 := NB300_301.out; have hnc144 := NB301_300.out; have hcz146_0 := pzc (v := .int .u64 0) BK300 0 rfl; have hcz146_1 := pzc (v := .int .u64 0) BK300 1 rfl; have hfz146_0 := zF BK300.out 0; have hfz146_1 := zF BK300.out 1; have hcz148_0 := pzc (v := .int .i64 0) BK301 0 rfl; have hcz148_1 := pzc (v := .int .i64 0) BK301 1 rfl; have hfz148_0 := zF BK301.out 0; have hfz148_1 := zF BK301.out 1))
   refine bodyPost_ret (results_list (rs := [.cell 4 24, .cell 5 27, .cell 6 29]) rfl (by simp) (.cell gb299 24 #[.bool false, .slice none 0 0] (0, 0) _ rfl (by (with_reducible repeat (first | apply pzN | apply pzd | apply pza)); refine blk_far ?_ NB299_301.out _; (with_reducible repeat (first | apply pzN | apply pzd | apply pza)); refine blk_far ?_ NB299_301.out _; (with_reducible repeat (first | apply pzN | apply pzd | apply pza)); refine blk_far ?_ NB299_300.out _; (with_reducible repeat (first | apply pzN | apply pzd | apply pza)); refine blk_far ?_ NB299_300.out _; (with_reducible repeat (first | apply pzN | apply pzd | apply pza)); refine blk_put (cs := #[.bool false, .slice none 0 0]) ?_ 1 _ rfl; (with_reducible repeat (first | apply pzN | apply pzd | apply pza)); refine blk_put (cs := #[.bool false, .slice none 0 0]) ?_ 0 _ rfl; (with_reducible repeat (first | apply pzN | apply pzd | apply pza)); exact BK299.out) Try.underlying24 rfl (by kernel_rfl) (.cell gb300 27 #[.int .u64 0, .int .u64 0] (0, 0) _ rfl (by (with_reducible repeat (first | apply pzN | apply pzd | apply pza)); refine blk_far ?_ NB300_301.out _; (with_reducible repeat (first | apply pzN | apply pzd | apply pza)); refine blk_far ?_ NB300_301.out _; (with_reducible repeat (first | apply pzN | apply pzd | apply pza)); refine blk_put (cs := #[.int .u64 0, .int .u64 0]) ?_ 1 _ rfl; (with_reducible repeat (first | apply pzN | apply pzd | apply pza)); refine blk_put (cs := #[.int .u64 0, .int .u64 0]) ?_ 0 _ rfl; (with_reducible repeat (first | apply pzN | apply pzd | apply pza)); refine blk_far ?_ NB300_299.out _; (with_reducible repeat (first | apply pzN | apply pzd | apply pza)); refine blk_far ?_ NB300_299.out _; (with_reducible repeat (first | apply pzN | apply pzd | apply pza)); exact BK300.out) Try.underlying27 rfl (by kernel_rfl) (.cell gb301 29 #[.int .i64 t317, .int .i64 t318] (0, 0) _ rfl (by (with_reducible repeat (first | apply pzN | apply pzd | apply pza)); refine blk_put (cs := #[.int .i64 t317, .int .i64 0]) ?_ 1 _ rfl; (with_reducible repeat (first | apply pzN | apply pzd | apply pza)); refine blk_put (cs := #[.int .i64 0, .int .i64 0]) ?_ 0 _ rfl; (with_reducible repeat (first | apply pzN | apply pzd | apply pza)); refine blk_far ?_ NB301_300.out _; (with_reducible repeat (first | apply pzN | apply pzd | apply pza)); refine blk_far ?_ NB301_300.out _; (with_reducible repeat (first | apply pzN | apply pzd | apply pza)); refine blk_far ?_ NB301_299.out _; (with_reducible repeat (first | apply pzN | apply pzd | apply pza)); refine blk_far ?_ NB301_299.out _; (with_reducible repeat (first | apply pzN | apply pzd | apply pza)); exact BK301.out) Try.underlying29 rfl (by kernel_rfl) .nil)))) rfl ?_
   exact ⟨_, by first | rfl | (simp [errW_none, errW_some] <;> rfl) | (simp [*, errW_none, errW_some] <;> rfl), by first | exact Kd.R_nil _ _ _ _ _ | exact Kd.N_nil _ _ _ _ _ | exact Kd.V_nil _ _ _ _ _ | exact Kd.Q_nil _ _ _ _ _ | exact Kd.S_nil _ _ _ _ _, by repeat (first | (with_reducible first | exact HB.out | apply below_alloc | apply pw_below_drewN | apply below_drew1 | refine below_set ?_ (IsS81.ge HI305.out) | refine below_setA ?_ (by assumption)) | exact HB.out)⟩

/-! ### brindlewoodref3_NoInt: function 18 -/
def brindlewoodref3_NoInt.f (a0_0 : Bool) (l0_1 : List Int) : Option (Bool) := if a0_0 = true then (some false) else (some ((l0_1.length : Int) == 0))
set_option maxHeartbeats 60000000 in
set_option maxRecDepth 100000 in
theorem brindlewoodref3_NoInt.calls (a0_0 : Bool) (A0_1 : Option Addr) (c0_1 : Nat) (l0_1 : List Int) (r : Bool) (w : World) (hr0_1 : Kd.C (Kd.int .u32) w A0_1 l0_1.length l0_1) (hc0_1 : l0_1.length ≤ c0_1) (h : brindlewoodref3_NoInt.f a0_0 l0_1 = some r) :
  Calls Try.prog 18 #[.agg #[.bool a0_0, .slice A0_1 l0_1.length c0_1]] w fun e w' => e = .returned (.bool r) ∧ Below w.heap.size w w' := by
 have hu24 := Try.underlying24
 have HR0_1 := zM hr0_1
 have HC0_1 := zM hc0_1
 clear hr0_1 hc0_1
 have HB := zM (Below.refl w.heap.size w)
 have H : (if a0_0 = true then (some false) else (some ((l0_1.length : Int) == 0))) = some r := h
 clear h
 by_cases c2 : a0_0 = true
 ·subst c2
  have H1 : (some false) = some r := by rw [if_pos rfl] at H; exact H
  clear H
  have H := H1
  clear H1
  obtain rfl := Option.some.inj H
  go_enter Try.func18, Try.ntmps18
  go_wp2_with (first | ((with_reducible refine gate_dst (N := 1) rfl ?_); (try (refine gate_guard (by rfl) ?_; dsimp only)); refine box_event ?hg (N := 1) ?hd (cs := #[.bool true, .slice A0_1 l0_1.length c0_1]) (t := 24) ?hr ?_; (case hd => rfl); (case hg => rfl); (case hr => first | (go_simp; done) | (go_simp; rfl)); intro gb319 hg w3 hbox hb; have BK319 := zM (hbox); have GW319 := zM ((by rw [hg]; exact (below_size (HB.out)) : w.heap.size ≤ gb319)); have GE319 := GW319; replace HB := zM (below_step (HB.out) hb); clear hb hbox hg; have hcz4_0 := pzc (v := .bool true) BK319 0 rfl; have hcz4_1 := pzc (v := .slice A0_1 l0_1.length c0_1) BK319 1 rfl; have hfz4_0 := zF BK319.out 0; have hfz4_1 := zF BK319.out 1))
  go_ret
  exact ⟨by first | rfl | (simp [errW_none, errW_some] <;> rfl) | (simp [*, errW_none, errW_some] <;> rfl), by repeat (first | (with_reducible first | exact HB.out | apply pzA | apply pzD | apply pz1 | apply pzs | assumption) | exact HB.out)⟩
 ·replace c2 := Bool.eq_false_iff.mpr c2
  subst c2
  have H1 : (some ((l0_1.length : Int) == 0)) = some r := by rw [if_neg (show ¬ (false = true) by decide)] at H; exact H
  clear H
  have H := H1
  clear H1
  obtain rfl := Option.some.inj H
  go_enter Try.func18, Try.ntmps18
  go_wp2_with (first | ((with_reducible refine gate_dst (N := 1) rfl ?_); (try (refine gate_guard (by rfl) ?_; dsimp only)); refine box_event ?hg (N := 1) ?hd (cs := #[.bool false, .slice A0_1 l0_1.length c0_1]) (t := 24) ?hr ?_; (case hd => rfl); (case hg => rfl); (case hr => first | (go_simp; done) | (go_simp; rfl)); intro gb319 hg w5 hbox hb; have BK319 := zM (hbox); have GW319 := zM ((by rw [hg]; exact (below_size (HB.out)) : w.heap.size ≤ gb319)); have GE319 := GW319; replace HB := zM (below_step (HB.out) hb); clear hb hbox hg; have hcz6_0 := pzc (v := .bool false) BK319 0 rfl; have hcz6_1 := pzc (v := .slice A0_1 l0_1.length c0_1) BK319 1 rfl; have hfz6_0 := zF BK319.out 0; have hfz6_1 := zF BK319.out 1))
  go_ret
  exact ⟨by first | rfl | (simp [errW_none, errW_some] <;> rfl) | (simp [*, errW_none, errW_some] <;> rfl), by repeat (first | (with_reducible first | exact HB.out | apply pzA | apply pzD | apply pz1 | apply pzs | assumption) | exact HB.out)⟩

/-! ### brindlewoodlaw4_whole: function 41 -/
def brindlewoodlaw4_whole.f (k : Nat) (a0 : Int) : Option (Int × Bool × List Int × Bool × List Int × ByteArray × Int) := (integer_Of.f k a0).bind fun bt321 => (some (2, bt321.1, bt321.2, false, ([] : List Int), (⟨#[]⟩ : ByteArray), 0))
theorem brindlewoodlaw4_whole.mono : ∀ a0 k, LeO (brindlewoodlaw4_whole.f k a0) (brindlewoodlaw4_whole.f (k + 1) a0) := by
 intro a0 k
 unfold brindlewoodlaw4_whole.f
 repeat' first
   | (with_reducible exact integer_Of.mono _ _)
   | (with_reducible exact LeO.refl _)
   | (with_reducible exact LeO.none _)
   | (with_reducible refine LeO.ite ?_ ?_)
   | (with_reducible refine LeO.bind ?_ (fun _ => ?_))
   | exact integer_Of.mono _ _
   | exact LeO.none _
   | refine LeO.ite ?_ ?_
   | refine LeO.bind ?_ (fun _ => ?_)
set_option maxHeartbeats 60000000 in
set_option maxRecDepth 100000 in
theorem brindlewoodlaw4_whole.calls (k : Nat) (a0 : Int) (r1 : Int) (r2 : Bool) (r3 : List Int) (r4 : Bool) (r5 : List Int) (r6 : ByteArray) (r7 : Int) (w : World) (h : brindlewoodlaw4_whole.f k a0 = some (r1, r2, r3, r4, r5, r6, r7)) :
  Calls Try.prog 41 #[.int .i64 a0] w fun e w' => ∃ v2_ v4_ : Value, e = .returned (.agg #[.int .i64 r1, .bool r2, v2_, .bool r4, v4_, .string r6, .int .i64 r7]) ∧ Kd.R (Kd.int .u32) 76 w' w.heap.size (fun k_ => some k_ ≠ (v4_ : Value).ownBlock) v2_ r3 ∧ Kd.R (Kd.int .u32) 76 w' w.heap.size (fun k_ => some k_ ≠ (v2_ : Value).ownBlock) v4_ r5 ∧ Below w.heap.size w w' := by
 have hu84 := Try.underlying84
 have HB := zM (Below.refl w.heap.size w)
 have H : ((integer_Of.f k a0).bind fun bt321 => (some (2, bt321.1, bt321.2, false, ([] : List Int), (⟨#[]⟩ : ByteArray), 0))) = some (r1, r2, r3, r4, r5, r6, r7) := h
 clear h
 replace H := zB H
 obtain ⟨⟨t321, t322⟩, A20, H⟩ := H
 replace H : (some (2, t321, t322, false, ([] : List Int), (⟨#[]⟩ : ByteArray), 0)) = some (r1, r2, r3, r4, r5, r6, r7) := H
 have A2 := zM A20
 clear A20
 simp only [Option.some.injEq, Prod.mk.injEq] at H
 obtain ⟨rfl, rfl, rfl, rfl, rfl, rfl, rfl⟩ := H
 go_enter Try.func41, Try.ntmps41
 go_wp2_with (first | ((with_reducible refine gate_dst (N := 2) rfl ?_); refine box_event ?hg (N := 2) ?hd (cs := #[.int .i64 0, .bool false, .slice none 0 0, .bool false, .slice none 0 0, .string (⟨#[]⟩ : ByteArray), .int .i64 0]) (t := 84) ?hr ?_; (case hd => rfl); (case hg => rfl); (case hr => first | (go_simp; done) | (go_simp; rfl)); intro gb320 hg w3 hbox hb; have BK320 := zM (hbox); have GW320 := zM ((by rw [hg]; exact (below_size (HB.out)) : w.heap.size ≤ gb320)); have GE320 := GW320; replace HB := zM (below_step (HB.out) hb); clear hb hbox hg) | ((with_reducible refine gate_callee (f := 47) rfl ?_); refine goesL_ (some 4) rfl rfl Try.func47 (by kernel_rfl) rfl #[.int .i64 a0] rfl (by (try simp only [zT, zC, zN]); first | done | rfl | (simp only [zR, zL]; rfl)) ?_; (with_reducible refine (integer_Of.calls k a0 t321 t322 _ A2.out).mono ?_); rintro e w4 ⟨v323, rfl, ho0, hb⟩; refine ⟨_, rfl, ?_⟩; have HO324 := zM (Kd.R_lower ho0 (below_size (by repeat (first | (with_reducible first | exact HB.out | apply pzA | apply pzD | apply pz1 | apply pzs | assumption) | exact HB.out)))); replace BK320 := zM (blk_below (g := gb320) (o := .cells #[.int .i64 0, .bool false, .slice none 0 0, .bool false, .slice none 0 0, .string (⟨#[]⟩ : ByteArray), .int .i64 0] 84 (0, 0)) BK320.out hb); replace HB := zM (below_step (by repeat (first | (with_reducible first | exact HB.out | apply pzA | apply pzD | apply pz1 | apply pzs | assumption) | exact HB.out)) hb); (try clear hb); (try clear hb2); (try clear hk); (try clear hi); (try clear ho0); obtain ⟨Ao5, co5, eo5⟩ := Kd.R_slice HO324.out; subst eo5; have hcz6_0 := pzc (v := .int .i64 0) BK320 0 rfl; have hcz6_1 := pzc (v := .bool false) BK320 1 rfl; have hcz6_2 := pzc (v := .slice none 0 0) BK320 2 rfl; have hcz6_3 := pzc (v := .bool false) BK320 3 rfl; have hcz6_4 := pzc (v := .slice none 0 0) BK320 4 rfl; have hcz6_5 := pzc (v := .string (⟨#[]⟩ : ByteArray)) BK320 5 rfl; have hcz6_6 := pzc (v := .int .i64 0) BK320 6 rfl; have hfz6_0 := zF BK320.out 0; have hfz6_1 := zF BK320.out 1; have hfz6_2 := zF BK320.out 2; have hfz6_3 := zF BK320.out 3; have hfz6_4 := zF BK320.out 4; have hfz6_5 := zF BK320.out 5; have hfz6_6 := zF BK320.out 6))
 refine bodyPost_ret (results_cell_row rfl _ _ gb320 84 #[.int .i64 2, .bool t321, .slice Ao5 t322.length co5, .bool false, .slice none 0 0, .string (⟨#[]⟩ : ByteArray), .int .i64 0] (0, 0) _ rfl (by (with_reducible repeat (first | apply pzN | apply pzd | apply pza)); refine blk_put (cs := #[.int .i64 2, .bool t321, .slice Ao5 t322.length co5, .bool false, .slice none 0 0, .string (⟨#[]⟩ : ByteArray), .int .i64 0]) ?_ 6 _ rfl; (with_reducible repeat (first | apply pzN | apply pzd | apply pza)); refine blk_put (cs := #[.int .i64 2, .bool t321, .slice Ao5 t322.length co5, .bool false, .slice none 0 0, .string (⟨#[]⟩ : ByteArray), .int .i64 0]) ?_ 5 _ rfl; (with_reducible repeat (first | apply pzN | apply pzd | apply pza)); refine blk_put (cs := #[.int .i64 2, .bool t321, .slice Ao5 t322.length co5, .bool false, .slice none 0 0, .string (⟨#[]⟩ : ByteArray), .int .i64 0]) ?_ 4 _ rfl; (with_reducible repeat (first | apply pzN | apply pzd | apply pza)); refine blk_put (cs := #[.int .i64 2, .bool t321, .slice Ao5 t322.length co5, .bool false, .slice none 0 0, .string (⟨#[]⟩ : ByteArray), .int .i64 0]) ?_ 3 _ rfl; (with_reducible repeat (first | apply pzN | apply pzd | apply pza)); refine blk_put (cs := #[.int .i64 2, .bool t321, .slice none 0 0, .bool false, .slice none 0 0, .string (⟨#[]⟩ : ByteArray), .int .i64 0]) ?_ 2 _ rfl; (with_reducible repeat (first | apply pzN | apply pzd | apply pza)); refine blk_put (cs := #[.int .i64 2, .bool false, .slice none 0 0, .bool false, .slice none 0 0, .string (⟨#[]⟩ : ByteArray), .int .i64 0]) ?_ 1 _ rfl; (with_reducible repeat (first | apply pzN | apply pzd | apply pza)); refine blk_put (cs := #[.int .i64 0, .bool false, .slice none 0 0, .bool false, .slice none 0 0, .string (⟨#[]⟩ : ByteArray), .int .i64 0]) ?_ 0 _ rfl; (with_reducible repeat (first | apply pzN | apply pzd | apply pza)); exact BK320.out) Try.underlying84 rfl (by kernel_rfl)) rfl ?_
 exact ⟨_, _, by first | rfl | (simp [errW_none, errW_some] <;> rfl) | (simp [*, errW_none, errW_some] <;> rfl), by (with_reducible repeat (first | apply Kd.R_alloc | apply Kd.R_drewN | apply Kd.R_drew)); exact Kd.R_mono (Kd.R_far (p := ⟨gb320, 6, none⟩) (Kd.R_far (p := ⟨gb320, 5, none⟩) (Kd.R_far (p := ⟨gb320, 4, none⟩) (Kd.R_far (p := ⟨gb320, 3, none⟩) (Kd.R_far (p := ⟨gb320, 2, none⟩) (Kd.R_far (p := ⟨gb320, 1, none⟩) (Kd.R_far (p := ⟨gb320, 0, none⟩) (Kd.R_types HO324.out BK320.out (by decide)) (fun _ hk => hk.2) (.int .i64 2)) (fun _ hk => hk.2) (.bool t321)) (fun _ hk => hk.2) (.slice Ao5 t322.length co5)) (fun _ hk => hk.2) (.bool false)) (fun _ hk => hk.2) (.slice none 0 0)) (fun _ hk => hk.2) (.string (⟨#[]⟩ : ByteArray))) (fun _ hk => hk.2) (.int .i64 0)) (fun _ hk => (by simp [Value.ownBlock])), by first | exact Kd.R_nil _ _ _ _ _ | exact Kd.N_nil _ _ _ _ _ | exact Kd.V_nil _ _ _ _ _ | exact Kd.Q_nil _ _ _ _ _ | exact Kd.S_nil _ _ _ _ _, by repeat (first | (with_reducible first | exact HB.out | apply pzA | apply pzD | apply pz1 | apply pzs | assumption) | exact HB.out)⟩

end Go.Proofs.Ytkhiohlfdkkhdaa.P
