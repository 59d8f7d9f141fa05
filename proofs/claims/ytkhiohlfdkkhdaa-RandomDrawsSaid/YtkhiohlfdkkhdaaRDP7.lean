-- Written by the session's own program wip/tools/mp.py (over the kit's print) out of the translation. Not trusted: Lean checks it.
import Derived.Test.YtkhiohlfdkkhdaaRDP0
import Derived.Test.YtkhiohlfdkkhdaaRDP3
import Derived.Test.YtkhiohlfdkkhdaaRDP5
import Derived.Test.YtkhiohlfdkkhdaaRDP6
namespace Go.Proofs.Ytkhiohlfdkkhdaa.P
open Go.RowKit Go.Proofs.YtkhiohlfdkkhdaaW.PrintWords Go.Proofs.YtkhiohlfdkkhdaaW.PrintLast Go.Proofs.YtkhiohlfdkkhdaaW.PrintMore
attribute [local go_sem] max2_int min2_int max_two min_two max_three min_three max_four min_four   -- for this text's walks alone
set_option linter.unusedVariables false
set_option linter.unusedSimpArgs false

/-! ### random_Below: function 16 -/
def random_Below.j0 : Nat → Bool → Bool → List Int → Int → Int → Option (Bool × List Int × Int × Int × Int × Int)
 | 0, _, _, _, _, _ => none
 | k + 1, x29, x307000, x307001, x314000, x314001 => if x29 = true then ((random_at.f 4 (-2)).bind fun bt316 => (some (false, ([] : List Int), 0, 0, bt316.1, bt316.2))) else ((random_source_below.f k x314000 x314001 x307000 x307001).bind fun bt318 => (some (bt318.1, bt318.2.1, bt318.2.2.1, bt318.2.2.2, 0, 0)))
def random_Below.f (k : Nat) (a0_0 : Int) (a0_1 : Int) (a1_0 : Bool) (l1_1 : List Int) : Option (Bool × List Int × Int × Int × Int × Int) := if a0_1 % 2 = 0 then ((random_open_no.f a0_0 a0_1).bind fun _ => (some (false, ([] : List Int), 0, 0, 6, (-1)))) else ((random_open_ok.f a0_0 a0_1).bind fun bt311 => ((integer_Valid.f a1_0 l1_1).bind fun t315 => (if t315 = true then (if a1_0 = true then (random_Below.j0 k true a1_0 l1_1 bt311.1 bt311.2) else (random_Below.j0 k ((l1_1.length : Int) == 0) a1_0 l1_1 bt311.1 bt311.2)) else ((random_at.f 6 (-2)).bind fun bt325 => (some (false, ([] : List Int), 0, 0, bt325.1, bt325.2))))))
theorem random_Below.mono_l : ∀ k, (∀ y0 y1 y2 y3 y4, LeO (random_Below.j0 k y0 y1 y2 y3 y4) (random_Below.j0 (k + 1) y0 y1 y2 y3 y4))
 | 0 => fun _ _ _ _ _ r h => by simp [random_Below.j0] at h
 | k + 1 => by
  have ih0 := random_Below.mono_l k
  ·intro y0 y1 y2 y3 y4
   unfold random_Below.j0
   repeat' first
   | (with_reducible exact ih0 _ _ _ _ _)
   | (with_reducible exact random_source_below.mono _ _ _ _ _)
   | (with_reducible exact LeO.refl _)
   | (with_reducible exact LeO.none _)
   | (with_reducible refine LeO.ite ?_ ?_)
   | (with_reducible refine LeO.bind ?_ (fun _ => ?_))
   | exact ih0 _ _ _ _ _
   | exact random_source_below.mono _ _ _ _ _
   | exact LeO.none _
   | refine LeO.ite ?_ ?_
   | refine LeO.bind ?_ (fun _ => ?_)
theorem random_Below.mono : ∀ a0 a1 a2 a3 k, LeO (random_Below.f k a0 a1 a2 a3) (random_Below.f (k + 1) a0 a1 a2 a3) := by
 intro a0 a1 a2 a3 k
 have ih0 := random_Below.mono_l k
 unfold random_Below.f
 repeat' first
   | (with_reducible exact ih0 _ _ _ _ _)
   | (with_reducible exact random_source_below.mono _ _ _ _ _)
   | (with_reducible exact LeO.refl _)
   | (with_reducible exact LeO.none _)
   | (with_reducible refine LeO.ite ?_ ?_)
   | (with_reducible refine LeO.bind ?_ (fun _ => ?_))
   | exact ih0 _ _ _ _ _
   | exact random_source_below.mono _ _ _ _ _
   | exact LeO.none _
   | refine LeO.ite ?_ ?_
   | refine LeO.bind ?_ (fun _ => ?_)
def random_Below.T9 : Bool × List (List Nat × List Nat) := (true, [([], []), ([], []), ([1], [1]), ([2], [2]), ([3], [3]), ([], []), ([0, 0], [0]), ([4, 6, 0, 1, 2, 3, 4, 6], [4]), ([5, 7, 0, 1, 2, 3, 4, 5, 6, 7], [5])])
def random_Below.B9 : List Nat := [0, 0, 2, 6, 14, 0, 1, 95, 255]
theorem random_Below.tab9 : rtab .any (opsOf Try.f16 9) = random_Below.T9 := by kernel_rfl
theorem random_Below.bits9 : waitsOk random_Below.T9.2 random_Below.B9 = true := by kernel_rfl
set_option maxHeartbeats 60000000 in
set_option maxRecDepth 100000 in
theorem random_Below.calls (k : Nat) (a0_0 : Int) (a0_1 : Int) (a1_0 : Bool) (A1_1 : Option Addr) (c1_1 : Nat) (l1_1 : List Int) (r1 : Bool) (r2 : List Int) (r3 : Int) (r4 : Int) (r5 : Int) (r6 : Int) (w : World) (hr1_1 : Kd.C (Kd.int .u32) w A1_1 l1_1.length l1_1) (hc1_1 : l1_1.length ≤ c1_1) (h : random_Below.f k a0_0 a0_1 a1_0 l1_1 = some (r1, r2, r3, r4, r5, r6)) :
  Calls Try.prog 16 #[.agg #[.int .u64 a0_0, .int .u64 a0_1], .agg #[.bool a1_0, .slice A1_1 l1_1.length c1_1]] w fun e w' => ∃ v1_ : Value, e = .returned (.tuple #[.agg #[.bool r1, v1_], .agg #[.int .u64 r3, .int .u64 r4], .agg #[.int .i64 r5, .int .i64 r6]]) ∧ Kd.R (Kd.int .u32) 76 w' w.heap.size (fun _ => True) v1_ r2 ∧ Below w.heap.size w w' := by
 have hu27 := Try.underlying27
 have hu24 := Try.underlying24
 have hu29 := Try.underlying29
 have HR1_1 := zM hr1_1
 have HC1_1 := zM hc1_1
 clear hr1_1 hc1_1
 have HB := zM (Below.refl w.heap.size w)
 have H : (if a0_1 % 2 = 0 then ((random_open_no.f a0_0 a0_1).bind fun _ => (some (false, ([] : List Int), 0, 0, 6, (-1)))) else ((random_open_ok.f a0_0 a0_1).bind fun bt311 => ((integer_Valid.f a1_0 l1_1).bind fun t315 => (if t315 = true then (if a1_0 = true then (random_Below.j0 k true a1_0 l1_1 bt311.1 bt311.2) else (random_Below.j0 k ((l1_1.length : Int) == 0) a1_0 l1_1 bt311.1 bt311.2)) else ((random_at.f 6 (-2)).bind fun bt325 => (some (false, ([] : List Int), 0, 0, bt325.1, bt325.2))))))) = some (r1, r2, r3, r4, r5, r6) := h
 clear h
 by_cases c3 : a0_1 % 2 = 0
 ·rw [if_pos c3] at H
  have c3b0 : (a0_1 % 2 == 0) = true := beq_iff_eq.mpr c3
  have c3b1 : (a0_1 % 2 != 0) = false := bne_eq_false_iff_eq.mpr c3
  clear c3
  replace H := zB H
  obtain ⟨_, A40, H⟩ := H
  replace H : (some (false, ([] : List Int), 0, 0, 6, (-1))) = some (r1, r2, r3, r4, r5, r6) := H
  have A4 := zM A40
  clear A40
  simp only [Option.some.injEq, Prod.mk.injEq] at H
  obtain ⟨rfl, rfl, rfl, rfl, rfl, rfl⟩ := H
  go_enter Try.func16, Try.ntmps16
  try go_wp2_with (first | ((with_reducible refine gate_dst (N := 2) rfl ?_); (try (refine gate_guard (by rfl) ?_; dsimp only)); refine box_event ?hg (N := 2) ?hd (cs := #[.int .u64 a0_0, .int .u64 a0_1]) (t := 27) ?hr ?_; (case hd => rfl); (case hg => rfl); (case hr => first | (go_simp; done) | (go_simp; rfl)); intro gb305 hg w5 hbox hb; have BK305 := zM (hbox); have GW305 := zM ((by rw [hg]; exact (below_size (HB.out)) : w.heap.size ≤ gb305)); have GE305 := GW305; replace HB := zM (below_step (HB.out) hb); clear hb hbox hg) | ((with_reducible refine gate_dst (N := 3) rfl ?_); (try (refine gate_guard (by rfl) ?_; dsimp only)); refine box_event ?hg (N := 3) ?hd (cs := #[.bool a1_0, .slice A1_1 l1_1.length c1_1]) (t := 24) ?hr ?_; (case hd => rfl); (case hg => rfl); (case hr => first | (go_simp; done) | (go_simp; rfl)); intro gb306 hg w6 hbox hb; have BK306 := zM (hbox); have GW306 := zM ((by rw [hg]; exact (below_size (by repeat (first | (with_reducible first | exact HB.out | apply pzA | apply pzD | apply pz1 | apply pzs | assumption) | exact HB.out))) : w.heap.size ≤ gb306)); have GE306 := GW306; have NB305_306 := pzf BK305 hg; have NB306_305 := pzg BK305 hg; replace BK305 := pzb BK305 hb; replace HB := zM (below_step (by repeat (first | (with_reducible first | exact HB.out | apply pzA | apply pzD | apply pz1 | apply pzs | assumption) | exact HB.out)) hb); clear hb hbox hg) | ((with_reducible refine gate_dst (N := 4) rfl ?_); (try (refine gate_guard (by rfl) ?_; dsimp only)); refine box_event ?hg (N := 4) ?hd (cs := #[.bool false, .slice none 0 0]) (t := 24) ?hr ?_; (case hd => rfl); (case hg => rfl); (case hr => first | (go_simp; done) | (go_simp; rfl)); intro gb307 hg w7 hbox hb; have BK307 := zM (hbox); have GW307 := zM ((by rw [hg]; exact (below_size (by repeat (first | (with_reducible first | exact HB.out | apply pzA | apply pzD | apply pz1 | apply pzs | assumption) | exact HB.out))) : w.heap.size ≤ gb307)); have GE307 := GW307; have NB305_307 := pzf BK305 hg; have NB307_305 := pzg BK305 hg; have NB306_307 := pzf BK306 hg; have NB307_306 := pzg BK306 hg; replace BK305 := pzb BK305 hb; replace BK306 := pzb BK306 hb; replace HB := zM (below_step (by repeat (first | (with_reducible first | exact HB.out | apply pzA | apply pzD | apply pz1 | apply pzs | assumption) | exact HB.out)) hb); clear hb hbox hg) | ((with_reducible refine gate_dst (N := 5) rfl ?_); (try (refine gate_guard (by rfl) ?_; dsimp only)); refine box_event ?hg (N := 5) ?hd (cs := #[.int .u64 0, .int .u64 0]) (t := 27) ?hr ?_; (case hd => rfl); (case hg => rfl); (case hr => first | (go_simp; done) | (go_simp; rfl)); intro gb308 hg w8 hbox hb; have BK308 := zM (hbox); have GW308 := zM ((by rw [hg]; exact (below_size (by repeat (first | (with_reducible first | exact HB.out | apply pzA | apply pzD | apply pz1 | apply pzs | assumption) | exact HB.out))) : w.heap.size ≤ gb308)); have GE308 := GW308; have NB305_308 := pzf BK305 hg; have NB308_305 := pzg BK305 hg; have NB306_308 := pzf BK306 hg; have NB308_306 := pzg BK306 hg; have NB307_308 := pzf BK307 hg; have NB308_307 := pzg BK307 hg; replace BK305 := pzb BK305 hb; replace BK306 := pzb BK306 hb; replace BK307 := pzb BK307 hb; replace HB := zM (below_step (by repeat (first | (with_reducible first | exact HB.out | apply pzA | apply pzD | apply pz1 | apply pzs | assumption) | exact HB.out)) hb); clear hb hbox hg) | ((with_reducible refine gate_dst (N := 6) rfl ?_); (try (refine gate_guard (by rfl) ?_; dsimp only)); refine box_event ?hg (N := 6) ?hd (cs := #[.int .i64 0, .int .i64 0]) (t := 29) ?hr ?_; (case hd => rfl); (case hg => rfl); (case hr => first | (go_simp; done) | (go_simp; rfl)); intro gb309 hg w9 hbox hb; have BK309 := zM (hbox); have GW309 := zM ((by rw [hg]; exact (below_size (by repeat (first | (with_reducible first | exact HB.out | apply pzA | apply pzD | apply pz1 | apply pzs | assumption) | exact HB.out))) : w.heap.size ≤ gb309)); have GE309 := GW309; have NB305_309 := pzf BK305 hg; have NB309_305 := pzg BK305 hg; have NB306_309 := pzf BK306 hg; have NB309_306 := pzg BK306 hg; have NB307_309 := pzf BK307 hg; have NB309_307 := pzg BK307 hg; have NB308_309 := pzf BK308 hg; have NB309_308 := pzg BK308 hg; replace BK305 := pzb BK305 hb; replace BK306 := pzb BK306 hb; replace BK307 := pzb BK307 hb; replace BK308 := pzb BK308 hb; replace HB := zM (below_step (by repeat (first | (with_reducible first | exact HB.out | apply pzA | apply pzD | apply pz1 | apply pzs | assumption) | exact HB.out)) hb); clear hb hbox hg; have hnb10 := NB305_306.out; have hnc10 := NB306_305.out; have hnb11 := NB305_307.out; have hnc11 := NB307_305.out; have hnb12 := NB305_308.out; have hnc12 := NB308_305.out; have hnb13 := NB305_309.out; have hnc13 := NB309_305.out; have hcz14_0 := pzc (v := .int .u64 a0_0) BK305 0 rfl; have hcz14_1 := pzc (v := .int .u64 a0_1) BK305 1 rfl; have hfz14_0 := zF BK305.out 0; have hfz14_1 := zF BK305.out 1) | ((with_reducible refine gate_callee (f := 39) rfl ?_); refine goesL_ (some 12) rfl rfl Try.func39 (by kernel_rfl) rfl #[.agg #[.int .u64 a0_0, .int .u64 a0_1]] rfl (by (try simp only [zT, zC, zN]); first | done | rfl | (simp only [zR, zL]; rfl)) ?_; (with_reducible refine (random_open_no.calls a0_0 a0_1  _ A4.out).mono ?_); rintro e w15 ⟨rfl, hb⟩; refine ⟨_, rfl, ?_⟩; replace BK305 := pzb BK305 hb; replace BK306 := pzb BK306 hb; replace BK307 := pzb BK307 hb; replace BK308 := pzb BK308 hb; replace BK309 := pzb BK309 hb; replace HB := zM (below_step (by repeat (first | (with_reducible first | exact HB.out | apply pzA | apply pzD | apply pz1 | apply pzs | assumption) | exact HB.out)) hb); (try clear hb); (try clear hb2); (try clear hk); (try clear hi)) | ((with_reducible refine gate_dst (N := 8) rfl ?_); (try (refine gate_guard (by rfl) ?_; dsimp only)); refine box_event ?hg (N := 8) ?hd (cs := #[.int .i64 0, .int .i64 0]) (t := 29) ?hr ?_; (case hd => rfl); (case hg => rfl); (case hr => first | (go_simp; done) | (go_simp; rfl)); intro gb310 hg w16 hbox hb; have BK310 := zM (hbox); have GW310 := zM ((by rw [hg]; exact (below_size (by repeat (first | (with_reducible first | exact HB.out | apply pzA | apply pzD | apply pz1 | apply pzs | assumption) | exact HB.out))) : w.heap.size ≤ gb310)); have GE310 := GW310; have NB305_310 := pzf BK305 hg; have NB310_305 := pzg BK305 hg; have NB306_310 := pzf BK306 hg; have NB310_306 := pzg BK306 hg; have NB307_310 := pzf BK307 hg; have NB310_307 := pzg BK307 hg; have NB308_310 := pzf BK308 hg; have NB310_308 := pzg BK308 hg; have NB309_310 := pzf BK309 hg; have NB310_309 := pzg BK309 hg; replace BK305 := pzb BK305 hb; replace BK306 := pzb BK306 hb; replace BK307 := pzb BK307 hb; replace BK308 := pzb BK308 hb; replace BK309 := pzb BK309 hb; replace HB := zM (below_step (by repeat (first | (with_reducible first | exact HB.out | apply pzA | apply pzD | apply pz1 | apply pzs | assumption) | exact HB.out)) hb); clear hb hbox hg; have hnb17 := NB310_305.out; have hnc17 := NB305_310.out; have hnb18 := NB310_306.out; have hnc18 := NB306_310.out; have hnb19 := NB310_307.out; have hnc19 := NB307_310.out; have hnb20 := NB310_308.out; have hnc20 := NB308_310.out; have hnb21 := NB310_309.out; have hnc21 := NB309_310.out; have hcz22_0 := pzc (v := .int .i64 0) BK310 0 rfl; have hcz22_1 := pzc (v := .int .i64 0) BK310 1 rfl; have hfz22_0 := zF BK310.out 0; have hfz22_1 := zF BK310.out 1))
  have n0_ : Aside0 (((w16.setCell ⟨gb310, 0, none⟩ (.int .i64 6)).setCell ⟨gb310, 1, none⟩ (.int .i64 (-1))).heap[gb305]? = some (.cells #[.int .u64 a0_0, .int .u64 a0_1] 27 (0, 0))) := ⟨by (with_reducible repeat (first | apply pzN | apply pzd | apply pza)); refine blk_far ?_ NB305_310.out _; (with_reducible repeat (first | apply pzN | apply pzd | apply pza)); refine blk_far ?_ NB305_310.out _; (with_reducible repeat (first | apply pzN | apply pzd | apply pza)); exact BK305.out⟩
  have n1_ : Aside0 (((w16.setCell ⟨gb310, 0, none⟩ (.int .i64 6)).setCell ⟨gb310, 1, none⟩ (.int .i64 (-1))).heap[gb306]? = some (.cells #[.bool a1_0, .slice A1_1 l1_1.length c1_1] 24 (0, 0))) := ⟨by (with_reducible repeat (first | apply pzN | apply pzd | apply pza)); refine blk_far ?_ NB306_310.out _; (with_reducible repeat (first | apply pzN | apply pzd | apply pza)); refine blk_far ?_ NB306_310.out _; (with_reducible repeat (first | apply pzN | apply pzd | apply pza)); exact BK306.out⟩
  have n2_ : Aside0 (((w16.setCell ⟨gb310, 0, none⟩ (.int .i64 6)).setCell ⟨gb310, 1, none⟩ (.int .i64 (-1))).heap[gb307]? = some (.cells #[.bool false, .slice none 0 0] 24 (0, 0))) := ⟨by (with_reducible repeat (first | apply pzN | apply pzd | apply pza)); refine blk_far ?_ NB307_310.out _; (with_reducible repeat (first | apply pzN | apply pzd | apply pza)); refine blk_far ?_ NB307_310.out _; (with_reducible repeat (first | apply pzN | apply pzd | apply pza)); exact BK307.out⟩
  have n3_ : Aside0 (((w16.setCell ⟨gb310, 0, none⟩ (.int .i64 6)).setCell ⟨gb310, 1, none⟩ (.int .i64 (-1))).heap[gb308]? = some (.cells #[.int .u64 0, .int .u64 0] 27 (0, 0))) := ⟨by (with_reducible repeat (first | apply pzN | apply pzd | apply pza)); refine blk_far ?_ NB308_310.out _; (with_reducible repeat (first | apply pzN | apply pzd | apply pza)); refine blk_far ?_ NB308_310.out _; (with_reducible repeat (first | apply pzN | apply pzd | apply pza)); exact BK308.out⟩
  have n4_ : Aside0 (((w16.setCell ⟨gb310, 0, none⟩ (.int .i64 6)).setCell ⟨gb310, 1, none⟩ (.int .i64 (-1))).heap[gb309]? = some (.cells #[.int .i64 0, .int .i64 0] 29 (0, 0))) := ⟨by (with_reducible repeat (first | apply pzN | apply pzd | apply pza)); refine blk_far ?_ NB309_310.out _; (with_reducible repeat (first | apply pzN | apply pzd | apply pza)); refine blk_far ?_ NB309_310.out _; (with_reducible repeat (first | apply pzN | apply pzd | apply pza)); exact BK309.out⟩
  have n5_ : Aside0 (((w16.setCell ⟨gb310, 0, none⟩ (.int .i64 6)).setCell ⟨gb310, 1, none⟩ (.int .i64 (-1))).heap[gb310]? = some (.cells #[.int .i64 6, .int .i64 (-1)] 29 (0, 0))) := ⟨by (with_reducible repeat (first | apply pzN | apply pzd | apply pza)); refine blk_put (cs := #[.int .i64 6, .int .i64 0]) ?_ 1 _ rfl; (with_reducible repeat (first | apply pzN | apply pzd | apply pza)); refine blk_put (cs := #[.int .i64 0, .int .i64 0]) ?_ 0 _ rfl; (with_reducible repeat (first | apply pzN | apply pzd | apply pza)); exact BK310.out⟩
  have n6_ : Aside0 (Below w.heap.size w ((w16.setCell ⟨gb310, 0, none⟩ (.int .i64 6)).setCell ⟨gb310, 1, none⟩ (.int .i64 (-1)))) := ⟨by repeat (first | (with_reducible first | exact HB.out | apply pzA | apply pzD | apply pz1 | apply pzs | assumption) | exact HB.out)⟩
  (try clear BK305)
  (try clear BK306)
  (try clear BK307)
  (try clear BK308)
  (try clear BK309)
  (try clear BK310)
  (try clear HB)
  generalize ((w16.setCell ⟨gb310, 0, none⟩ (.int .i64 6)).setCell ⟨gb310, 1, none⟩ (.int .i64 (-1))) = w23 at n0_ n1_ n2_ n3_ n4_ n5_ n6_ ⊢
  have BK305 := n0_
  have BK306 := n1_
  have BK307 := n2_
  have BK308 := n3_
  have BK309 := n4_
  have BK310 := n5_
  have HB := n6_
  clear n0_ n1_ n2_ n3_ n4_ n5_ n6_
  replace BK307 := zM (blk_drew BK307.out)
  replace BK308 := zM (blk_drew BK308.out)
  replace BK309 := zM (blk_drew BK309.out)
  replace BK310 := zM (blk_drew BK310.out)
  replace HB := zM (below_drew1 HB.out)
  refine start_ (n := 6) (S := fun w' => w'.cell? ⟨gb310, 0, none⟩ = some (.int .i64 6) ∧ w'.cell? ⟨gb310, 1, none⟩ = some (.int .i64 (-1))) (ds := []) #[false, false, false, false, false, false] (by kernel_rfl) rfl rfl ⟨(blk_cell BK310.out 0).trans rfl, (blk_cell BK310.out 1).trans rfl⟩ (fun hHeld => ?_)
  generalize w23.drew = w24 at BK307 BK308 BK309 HB hHeld ⊢
  refine pure_ (i := 0) (N := some 19) (v := ?_) (a' := ?_) #[true, false, false, false, false, false] rfl rfl (by kernel_rfl) (fun _ _ _ h => h) (Or.inl ⟨by rfl, ?_⟩) ?_ ?_
  rotate_left
  ·intro w'
   go_simp
   with_reducible rfl
  rotate_left
  ·simp only [Act.put, zS, z0, z1, i64_w, i32_w]
   rfl
  refine pure_ (i := 1) (N := some 20) (v := ?_) (a' := ?_) #[true, true, false, false, false, false] rfl rfl (by kernel_rfl) (fun _ _ _ h => h) (Or.inl ⟨by rfl, ?_⟩) ?_ ?_
  rotate_left
  ·intro w'
   go_simp
   with_reducible rfl
  rotate_left
  ·simp only [Act.put, zS, z0, z1, i64_w, i32_w]
   rfl
  refine take_ (i := 2) (N := some 21) (v := ?_) (a' := ?_) #[true, true, true, false, false, false] rfl rfl (by kernel_rfl) (fun _ _ _ h => h) (Or.inl ⟨by rfl, ?_⟩) hHeld ?_ ?_
  rotate_left
  ·rintro w' ⟨s0, s1⟩
   go_simp
   with_reducible rfl
  rotate_left
  ·simp only [Act.put, zS, z0, z1, i64_w, i32_w]
   rfl
  refine one_ (i := 3) (N := none) #[true, true, true, true, false, false] rfl rfl (by kernel_rfl) (by decide) (fun K hK => ?_)
  have hs25 : w24.cell? ⟨gb307, 0, none⟩ = some (.bool false) := (blk_cell BK307.out 0).trans rfl
  have hfs25 := zF BK307.out 0
  have hns25_0 := NB305_307.out
  have hns25_1 := NB306_307.out
  have hns25_3 := NB308_307.out
  have hns25_4 := NB309_307.out
  have hns25_5 := NB310_307.out
  have hms25_0 := NB307_305.out
  have hms25_1 := NB307_306.out
  have hms25_3 := NB307_308.out
  have hms25_4 := NB307_309.out
  have hms25_5 := NB307_310.out
  have hs26 : w24.cell? ⟨gb307, 1, none⟩ = some (.slice none 0 0) := (blk_cell BK307.out 1).trans rfl
  have hfs26 := zF BK307.out 1
  have hns26_0 := NB305_307.out
  have hns26_1 := NB306_307.out
  have hns26_3 := NB308_307.out
  have hns26_4 := NB309_307.out
  have hns26_5 := NB310_307.out
  have hms26_0 := NB307_305.out
  have hms26_1 := NB307_306.out
  have hms26_3 := NB307_308.out
  have hms26_4 := NB307_309.out
  have hms26_5 := NB307_310.out
  refine skip_ (w1 := ?_) (by rfl) rfl ?_ ?_
  rotate_left
  ·go_simp
   rfl
  refine hK.out _ _ ⟨((cell_far (p := ⟨gb307, _, none⟩) NB310_307.out _).trans (((cell_far (p := ⟨gb307, _, none⟩) NB310_307.out _).trans (hHeld.1)))), ((cell_far (p := ⟨gb307, _, none⟩) NB310_307.out _).trans (((cell_far (p := ⟨gb307, _, none⟩) NB310_307.out _).trans (hHeld.2))))⟩ (fun hHeld => ?_)
  clear hK K
  refine one_ (i := 4) (N := none) #[true, true, true, true, true, false] rfl rfl (by kernel_rfl) (by decide) (fun K hK => ?_)
  have hs27 : w24.cell? ⟨gb308, 0, none⟩ = some (.int .u64 0) := (blk_cell BK308.out 0).trans rfl
  have hfs27 := zF BK308.out 0
  have hns27_0 := NB305_308.out
  have hns27_1 := NB306_308.out
  have hns27_2 := NB307_308.out
  have hns27_4 := NB309_308.out
  have hns27_5 := NB310_308.out
  have hms27_0 := NB308_305.out
  have hms27_1 := NB308_306.out
  have hms27_2 := NB308_307.out
  have hms27_4 := NB308_309.out
  have hms27_5 := NB308_310.out
  have hs28 : w24.cell? ⟨gb308, 1, none⟩ = some (.int .u64 0) := (blk_cell BK308.out 1).trans rfl
  have hfs28 := zF BK308.out 1
  have hns28_0 := NB305_308.out
  have hns28_1 := NB306_308.out
  have hns28_2 := NB307_308.out
  have hns28_4 := NB309_308.out
  have hns28_5 := NB310_308.out
  have hms28_0 := NB308_305.out
  have hms28_1 := NB308_306.out
  have hms28_2 := NB308_307.out
  have hms28_4 := NB308_309.out
  have hms28_5 := NB308_310.out
  refine skip_ (w1 := ?_) (by rfl) rfl ?_ ?_
  rotate_left
  ·go_simp
   rfl
  refine hK.out _ _ ⟨((cell_far (p := ⟨gb308, _, none⟩) NB310_308.out _).trans (((cell_far (p := ⟨gb308, _, none⟩) NB310_308.out _).trans (hHeld.1)))), ((cell_far (p := ⟨gb308, _, none⟩) NB310_308.out _).trans (((cell_far (p := ⟨gb308, _, none⟩) NB310_308.out _).trans (hHeld.2))))⟩ (fun hHeld => ?_)
  clear hK K
  refine one_ (i := 5) (N := none) #[true, true, true, true, true, true] rfl rfl (by kernel_rfl) (by decide) (fun K hK => ?_)
  have hs29 : w24.cell? ⟨gb309, 0, none⟩ = some (.int .i64 0) := (blk_cell BK309.out 0).trans rfl
  have hfs29 := zF BK309.out 0
  have hns29_0 := NB305_309.out
  have hns29_1 := NB306_309.out
  have hns29_2 := NB307_309.out
  have hns29_3 := NB308_309.out
  have hns29_5 := NB310_309.out
  have hms29_0 := NB309_305.out
  have hms29_1 := NB309_306.out
  have hms29_2 := NB309_307.out
  have hms29_3 := NB309_308.out
  have hms29_5 := NB309_310.out
  have hs30 : w24.cell? ⟨gb309, 1, none⟩ = some (.int .i64 0) := (blk_cell BK309.out 1).trans rfl
  have hfs30 := zF BK309.out 1
  have hns30_0 := NB305_309.out
  have hns30_1 := NB306_309.out
  have hns30_2 := NB307_309.out
  have hns30_3 := NB308_309.out
  have hns30_5 := NB310_309.out
  have hms30_0 := NB309_305.out
  have hms30_1 := NB309_306.out
  have hms30_2 := NB309_307.out
  have hms30_3 := NB309_308.out
  have hms30_5 := NB309_310.out
  refine skip_ (w1 := ?_) (by rfl) rfl ?_ ?_
  rotate_left
  ·go_simp
   rfl
  refine hK.out _ _ ⟨((cell_far (p := ⟨gb309, _, none⟩) NB310_309.out _).trans (((cell_far (p := ⟨gb309, _, none⟩) NB310_309.out _).trans (hHeld.1)))), ((cell_far (p := ⟨gb309, _, none⟩) NB310_309.out _).trans (((cell_far (p := ⟨gb309, _, none⟩) NB310_309.out _).trans (hHeld.2))))⟩ (fun hHeld => ?_)
  clear hK K
  refine done_ (by kernel_rfl) ?_
  try go_wp2
  refine bodyPost_ret (results_list (rs := [.cell 4 24, .cell 5 27, .cell 6 29]) rfl (by simp) (.cell gb307 24 #[.bool false, .slice none 0 0] (0, 0) _ rfl (by (with_reducible repeat (first | apply pzN | apply pzd | apply pza)); refine blk_far ?_ NB307_309.out _; (with_reducible repeat (first | apply pzN | apply pzd | apply pza)); refine blk_far ?_ NB307_309.out _; (with_reducible repeat (first | apply pzN | apply pzd | apply pza)); refine blk_far ?_ NB307_308.out _; (with_reducible repeat (first | apply pzN | apply pzd | apply pza)); refine blk_far ?_ NB307_308.out _; (with_reducible repeat (first | apply pzN | apply pzd | apply pza)); refine blk_put (cs := #[.bool false, .slice none 0 0]) ?_ 1 _ rfl; (with_reducible repeat (first | apply pzN | apply pzd | apply pza)); refine blk_put (cs := #[.bool false, .slice none 0 0]) ?_ 0 _ rfl; (with_reducible repeat (first | apply pzN | apply pzd | apply pza)); exact BK307.out) Try.underlying24 rfl (by kernel_rfl) (.cell gb308 27 #[.int .u64 0, .int .u64 0] (0, 0) _ rfl (by (with_reducible repeat (first | apply pzN | apply pzd | apply pza)); refine blk_far ?_ NB308_309.out _; (with_reducible repeat (first | apply pzN | apply pzd | apply pza)); refine blk_far ?_ NB308_309.out _; (with_reducible repeat (first | apply pzN | apply pzd | apply pza)); refine blk_put (cs := #[.int .u64 0, .int .u64 0]) ?_ 1 _ rfl; (with_reducible repeat (first | apply pzN | apply pzd | apply pza)); refine blk_put (cs := #[.int .u64 0, .int .u64 0]) ?_ 0 _ rfl; (with_reducible repeat (first | apply pzN | apply pzd | apply pza)); refine blk_far ?_ NB308_307.out _; (with_reducible repeat (first | apply pzN | apply pzd | apply pza)); refine blk_far ?_ NB308_307.out _; (with_reducible repeat (first | apply pzN | apply pzd | apply pza)); exact BK308.out) Try.underlying27 rfl (by kernel_rfl) (.cell gb309 29 #[.int .i64 6, .int .i64 (-1)] (0, 0) _ rfl (by (with_reducible repeat (first | apply pzN | apply pzd | apply pza)); refine blk_put (cs := #[.int .i64 6, .int .i64 0]) ?_ 1 _ rfl; (with_reducible repeat (first | apply pzN | apply pzd | apply pza)); refine blk_put (cs := #[.int .i64 0, .int .i64 0]) ?_ 0 _ rfl; (with_reducible repeat (first | apply pzN | apply pzd | apply pza)); refine blk_far ?_ NB309_308.out _; (with_reducible repeat (first | apply pzN | apply pzd | apply pza)); refine blk_far ?_ NB309_308.out _; (with_reducible repeat (first | apply pzN | apply pzd | apply pza)); refine blk_far ?_ NB309_307.out _; (with_reducible repeat (first | apply pzN | apply pzd | apply pza)); refine blk_far ?_ NB309_307.out _; (with_reducible repeat (first | apply pzN | apply pzd | apply pza)); exact BK309.out) Try.underlying29 rfl (by kernel_rfl) .nil)))) rfl ?_
  exact ⟨_, by first | rfl | (simp [errW_none, errW_some] <;> rfl) | (simp [*, errW_none, errW_some] <;> rfl), by first | exact Kd.R_nil _ _ _ _ _ | exact Kd.N_nil _ _ _ _ _ | exact Kd.V_nil _ _ _ _ _ | exact Kd.Q_nil _ _ _ _ _ | exact Kd.S_nil _ _ _ _ _, by repeat (first | (with_reducible first | exact HB.out | apply pzA | apply pzD | apply pz1 | apply pzs | assumption) | exact HB.out)⟩
 ·rw [if_neg c3] at H
  have c3b0 : (a0_1 % 2 == 0) = false := beq_eq_false_iff_ne.mpr c3
  have c3b1 : (a0_1 % 2 != 0) = true := bne_iff_ne.mpr c3
  replace H := zB H
  obtain ⟨⟨t311, t312⟩, A310, H⟩ := H
  replace H : ((integer_Valid.f a1_0 l1_1).bind fun t315 => (if t315 = true then (if a1_0 = true then (random_Below.j0 k true a1_0 l1_1 t311 t312) else (random_Below.j0 k ((l1_1.length : Int) == 0) a1_0 l1_1 t311 t312)) else ((random_at.f 6 (-2)).bind fun bt325 => (some (false, ([] : List Int), 0, 0, bt325.1, bt325.2))))) = some (r1, r2, r3, r4, r5, r6) := H
  have A31 := zM A310
  clear A310
  replace H := zB H
  obtain ⟨t315, A320, H⟩ := H
  replace H : (if t315 = true then (if a1_0 = true then (random_Below.j0 k true a1_0 l1_1 t311 t312) else (random_Below.j0 k ((l1_1.length : Int) == 0) a1_0 l1_1 t311 t312)) else ((random_at.f 6 (-2)).bind fun bt325 => (some (false, ([] : List Int), 0, 0, bt325.1, bt325.2)))) = some (r1, r2, r3, r4, r5, r6) := H
  have A32 := zM A320
  clear A320
  by_cases c33 : t315 = true
  ·subst c33
   have H1 : (if a1_0 = true then (random_Below.j0 k true a1_0 l1_1 t311 t312) else (random_Below.j0 k ((l1_1.length : Int) == 0) a1_0 l1_1 t311 t312)) = some (r1, r2, r3, r4, r5, r6) := by rw [if_pos rfl] at H; exact H
   clear H
   have H := H1
   clear H1
   have HC34 := zM H
   clear H
   go_enter Try.func16, Try.ntmps16
   go_upto_region 6 with (first | ((with_reducible refine gate_dst (N := 2) rfl ?_); (try (refine gate_guard (by rfl) ?_; dsimp only)); refine box_event ?hg (N := 2) ?hd (cs := #[.int .u64 a0_0, .int .u64 a0_1]) (t := 27) ?hr ?_; (case hd => rfl); (case hg => rfl); (case hr => first | (go_simp; done) | (go_simp; rfl)); intro gb305 hg w35 hbox hb; have n0_ := zM (below_step (HB.out) hb); have n1_ := zM (hbox); have n2_ := zM ((by rw [hg]; exact (below_size (HB.out)) : w.heap.size ≤ gb305)); have n3_ := zM ((by rw [hg]; exact (below_size (HB.out)) : w.heap.size ≤ gb305)); clear HB; have HB := n0_; have BK305 := n1_; have GW305 := n2_; have GE305 := n3_; clear n0_ n1_ n2_ n3_; clear hb hbox hg) | ((with_reducible refine gate_dst (N := 3) rfl ?_); (try (refine gate_guard (by rfl) ?_; dsimp only)); refine box_event ?hg (N := 3) ?hd (cs := #[.bool a1_0, .slice A1_1 l1_1.length c1_1]) (t := 24) ?hr ?_; (case hd => rfl); (case hg => rfl); (case hr => first | (go_simp; done) | (go_simp; rfl)); intro gb306 hg w36 hbox hb; have BK306 := zM (hbox); have GW306 := zM ((by rw [hg]; exact (below_size (by repeat (first | (with_reducible first | exact HB.out | apply pzA | apply pzD | apply pz1 | apply pzs | assumption) | exact HB.out))) : w.heap.size ≤ gb306)); have GE306 := GW306; have NB305_306 := pzf BK305 hg; have NB306_305 := pzg BK305 hg; replace BK305 := pzb BK305 hb; replace HB := zM (below_step (by repeat (first | (with_reducible first | exact HB.out | apply pzA | apply pzD | apply pz1 | apply pzs | assumption) | exact HB.out)) hb); clear hb hbox hg) | ((with_reducible refine gate_dst (N := 4) rfl ?_); (try (refine gate_guard (by rfl) ?_; dsimp only)); refine box_event ?hg (N := 4) ?hd (cs := #[.bool false, .slice none 0 0]) (t := 24) ?hr ?_; (case hd => rfl); (case hg => rfl); (case hr => first | (go_simp; done) | (go_simp; rfl)); intro gb307 hg w37 hbox hb; have BK307 := zM (hbox); have GW307 := zM ((by rw [hg]; exact (below_size (by repeat (first | (with_reducible first | exact HB.out | apply pzA | apply pzD | apply pz1 | apply pzs | assumption) | exact HB.out))) : w.heap.size ≤ gb307)); have GE307 := GW307; have NB305_307 := pzf BK305 hg; have NB307_305 := pzg BK305 hg; have NB306_307 := pzf BK306 hg; have NB307_306 := pzg BK306 hg; replace BK305 := pzb BK305 hb; replace BK306 := pzb BK306 hb; replace HB := zM (below_step (by repeat (first | (with_reducible first | exact HB.out | apply pzA | apply pzD | apply pz1 | apply pzs | assumption) | exact HB.out)) hb); clear hb hbox hg) | ((with_reducible refine gate_dst (N := 5) rfl ?_); (try (refine gate_guard (by rfl) ?_; dsimp only)); refine box_event ?hg (N := 5) ?hd (cs := #[.int .u64 0, .int .u64 0]) (t := 27) ?hr ?_; (case hd => rfl); (case hg => rfl); (case hr => first | (go_simp; done) | (go_simp; rfl)); intro gb308 hg w38 hbox hb; have BK308 := zM (hbox); have GW308 := zM ((by rw [hg]; exact (below_size (by repeat (first | (with_reducible first | exact HB.out | apply pzA | apply pzD | apply pz1 | apply pzs | assumption) | exact HB.out))) : w.heap.size ≤ gb308)); have GE308 := GW308; have NB305_308 := pzf BK305 hg; have NB308_305 := pzg BK305 hg; have NB306_308 := pzf BK306 hg; have NB308_306 := pzg BK306 hg; have NB307_308 := pzf BK307 hg; have NB308_307 := pzg BK307 hg; replace BK305 := pzb BK305 hb; replace BK306 := pzb BK306 hb; replace BK307 := pzb BK307 hb; replace HB := zM (below_step (by repeat (first | (with_reducible first | exact HB.out | apply pzA | apply pzD | apply pz1 | apply pzs | assumption) | exact HB.out)) hb); clear hb hbox hg) | ((with_reducible refine gate_dst (N := 6) rfl ?_); (try (refine gate_guard (by rfl) ?_; dsimp only)); refine box_event ?hg (N := 6) ?hd (cs := #[.int .i64 0, .int .i64 0]) (t := 29) ?hr ?_; (case hd => rfl); (case hg => rfl); (case hr => first | (go_simp; done) | (go_simp; rfl)); intro gb309 hg w39 hbox hb; have BK309 := zM (hbox); have GW309 := zM ((by rw [hg]; exact (below_size (by repeat (first | (with_reducible first | exact HB.out | apply pzA | apply pzD | apply pz1 | apply pzs | assumption) | exact HB.out))) : w.heap.size ≤ gb309)); have GE309 := GW309; have NB305_309 := pzf BK305 hg; have NB309_305 := pzg BK305 hg; have NB306_309 := pzf BK306 hg; have NB309_306 := pzg BK306 hg; have NB307_309 := pzf BK307 hg; have NB309_307 := pzg BK307 hg; have NB308_309 := pzf BK308 hg; have NB309_308 := pzg BK308 hg; replace BK305 := pzb BK305 hb; replace BK306 := pzb BK306 hb; replace BK307 := pzb BK307 hb; replace BK308 := pzb BK308 hb; replace HB := zM (below_step (by repeat (first | (with_reducible first | exact HB.out | apply pzA | apply pzD | apply pz1 | apply pzs | assumption) | exact HB.out)) hb); clear hb hbox hg; have hnb40 := NB305_306.out; have hnc40 := NB306_305.out; have hnb41 := NB305_307.out; have hnc41 := NB307_305.out; have hnb42 := NB305_308.out; have hnc42 := NB308_305.out; have hnb43 := NB305_309.out; have hnc43 := NB309_305.out; have hcz44_0 := pzc (v := .int .u64 a0_0) BK305 0 rfl; have hcz44_1 := pzc (v := .int .u64 a0_1) BK305 1 rfl; have hfz44_0 := zF BK305.out 0; have hfz44_1 := zF BK305.out 1) | ((with_reducible refine gate_callee (f := 39) rfl ?_); refine goesL_ (some 12) rfl rfl Try.func39 (by kernel_rfl) rfl #[.agg #[.int .u64 a0_0, .int .u64 a0_1]] rfl (by (try simp only [zT, zC, zN]); first | done | rfl | (simp only [zR, zL]; rfl)) ?_; (with_reducible refine (random_open_ok.calls a0_0 a0_1 t311 t312 w _ ?side1 A31.out).mono ?_); (case side1 => repeat (first | (with_reducible first | exact HB.out | apply pzA | apply pzD | apply pz1 | apply pzs | assumption) | exact HB.out)); rintro e w45 ⟨g313, rfl, hi, hb, hb2⟩; refine ⟨_, rfl, ?_⟩; have HI313 := zM (hi); have NB313_305 := zM (IsS81.ne_blk hi (blk_below (g := gb305) (o := .cells #[.int .u64 a0_0, .int .u64 a0_1] 27 (0, 0)) BK305.out hb2) (by decide)); have NB305_313 := zM (Ne.symm (IsS81.ne_blk hi (blk_below (g := gb305) (o := .cells #[.int .u64 a0_0, .int .u64 a0_1] 27 (0, 0)) BK305.out hb2) (by decide))); have NB313_306 := zM (IsS81.ne_blk hi (blk_below (g := gb306) (o := .cells #[.bool a1_0, .slice A1_1 l1_1.length c1_1] 24 (0, 0)) BK306.out hb2) (by decide)); have NB306_313 := zM (Ne.symm (IsS81.ne_blk hi (blk_below (g := gb306) (o := .cells #[.bool a1_0, .slice A1_1 l1_1.length c1_1] 24 (0, 0)) BK306.out hb2) (by decide))); have NB313_307 := zM (IsS81.ne_blk hi (blk_below (g := gb307) (o := .cells #[.bool false, .slice none 0 0] 24 (0, 0)) BK307.out hb2) (by decide)); have NB307_313 := zM (Ne.symm (IsS81.ne_blk hi (blk_below (g := gb307) (o := .cells #[.bool false, .slice none 0 0] 24 (0, 0)) BK307.out hb2) (by decide))); have NB313_308 := zM (IsS81.ne_blk hi (blk_below (g := gb308) (o := .cells #[.int .u64 0, .int .u64 0] 27 (0, 0)) BK308.out hb2) (by decide)); have NB308_313 := zM (Ne.symm (IsS81.ne_blk hi (blk_below (g := gb308) (o := .cells #[.int .u64 0, .int .u64 0] 27 (0, 0)) BK308.out hb2) (by decide))); have NB313_309 := zM (IsS81.ne_blk hi (blk_below (g := gb309) (o := .cells #[.int .i64 0, .int .i64 0] 29 (0, 0)) BK309.out hb2) (by decide)); have NB309_313 := zM (Ne.symm (IsS81.ne_blk hi (blk_below (g := gb309) (o := .cells #[.int .i64 0, .int .i64 0] 29 (0, 0)) BK309.out hb2) (by decide))); replace BK306 := zM (blk_below (g := gb306) (o := .cells #[.bool a1_0, .slice A1_1 l1_1.length c1_1] 24 (0, 0)) BK306.out hb2); replace BK307 := zM (blk_below (g := gb307) (o := .cells #[.bool false, .slice none 0 0] 24 (0, 0)) BK307.out hb2); replace BK308 := zM (blk_below (g := gb308) (o := .cells #[.int .u64 0, .int .u64 0] 27 (0, 0)) BK308.out hb2); replace BK309 := zM (blk_below (g := gb309) (o := .cells #[.int .i64 0, .int .i64 0] 29 (0, 0)) BK309.out hb2); replace HB := zM (hb); (try clear hb); (try clear hb2); (try clear hk); (try clear hi)) | ((with_reducible refine gate_dst (N := 8) rfl ?_); (try (refine gate_guard (by rfl) ?_; dsimp only)); refine box_event ?hg (N := 8) ?hd (cs := #[.int .i64 0, .int .i64 0]) (t := 29) ?hr ?_; (case hd => rfl); (case hg => rfl); (case hr => first | (go_simp; done) | (go_simp; rfl)); intro gb314 hg w46 hbox hb; have BK314 := zM (hbox); have GW314 := zM ((by rw [hg]; exact (below_size (by repeat (first | (with_reducible first | exact HB.out | apply below_alloc | apply pw_below_drewN | apply below_drew1 | refine below_set ?_ (IsS81.ge HI313.out) | refine below_setA ?_ (by assumption)) | exact HB.out))) : w.heap.size ≤ gb314)); have GE314 := GW314; have NB306_314 := pzf BK306 hg; have NB314_306 := pzg BK306 hg; have NB307_314 := pzf BK307 hg; have NB314_307 := pzg BK307 hg; have NB308_314 := pzf BK308 hg; have NB314_308 := pzg BK308 hg; have NB309_314 := pzf BK309 hg; have NB314_309 := pzg BK309 hg; have NB313_314 := zM ((by rw [hg]; exact Nat.ne_of_lt (IsS81.lt (show IsS81 w _ g313 t311 t312 from by repeat (first | (with_reducible first | exact HI313.out | apply IsS81.alloc | apply IsS81.drewN | apply IsS81.drew | apply IsS81.set_0 | apply IsS81.set_1 | refine IsS81.far ?_ NB313_305.out _ | refine IsS81.far ?_ NB313_306.out _ | refine IsS81.far ?_ NB313_307.out _ | refine IsS81.far ?_ NB313_308.out _ | refine IsS81.far ?_ NB313_309.out _) | exact HI313.out))) : g313 ≠ gb314)); replace BK306 := pzb BK306 hb; replace BK307 := pzb BK307 hb; replace BK308 := pzb BK308 hb; replace BK309 := pzb BK309 hb; replace HB := zM (below_step (by repeat (first | (with_reducible first | exact HB.out | apply below_alloc | apply pw_below_drewN | apply below_drew1 | refine below_set ?_ (IsS81.ge HI313.out) | refine below_setA ?_ (by assumption)) | exact HB.out)) hb); replace HI313 := zM (IsS81.below (by repeat (first | (with_reducible first | exact HI313.out | apply IsS81.alloc | apply IsS81.drewN | apply IsS81.drew | apply IsS81.set_0 | apply IsS81.set_1 | refine IsS81.far ?_ NB313_305.out _ | refine IsS81.far ?_ NB313_306.out _ | refine IsS81.far ?_ NB313_307.out _ | refine IsS81.far ?_ NB313_308.out _ | refine IsS81.far ?_ NB313_309.out _) | exact HI313.out)) hb); clear hb hbox hg; have hnb48 := NB314_306.out; have hnc48 := NB306_314.out; have hnb49 := NB314_307.out; have hnc49 := NB307_314.out; have hnb50 := NB314_308.out; have hnc50 := NB308_314.out; have hnb51 := NB314_309.out; have hnc51 := NB309_314.out; have hcz53_0 := pzc (v := .int .i64 0) BK314 0 rfl; have hcz53_1 := pzc (v := .int .i64 0) BK314 1 rfl; have hfz53_0 := zF BK314.out 0; have hfz53_1 := zF BK314.out 1; have hnb54 := NB306_307.out; have hnc54 := NB307_306.out; have hnb55 := NB306_308.out; have hnc55 := NB308_306.out; have hnb56 := NB306_309.out; have hnc56 := NB309_306.out; have hcz58_0 := pzc (v := .bool a1_0) BK306 0 rfl; have hcz58_1 := pzc (v := .slice A1_1 l1_1.length c1_1) BK306 1 rfl; have hfz58_0 := zF BK306.out 0; have hfz58_1 := zF BK306.out 1) | ((with_reducible refine gate_callee (f := 36) rfl ?_); refine goesL_ (some 24) rfl rfl Try.func36 (by kernel_rfl) rfl #[.agg #[.bool a1_0, .slice A1_1 l1_1.length c1_1]] rfl (by (try simp only [zT, zC, zN]); first | done | rfl | (simp only [zR, zL]; rfl)) ?_; (with_reducible refine (integer_Valid.calls a1_0 _ _ l1_1 true _ ?side1 ?side2 A32.out).mono ?_); (case side1 => exact Kd.C_below HR1_1.out (by repeat (first | (with_reducible first | exact HB.out | apply below_alloc | apply pw_below_drewN | apply below_drew1 | refine below_set ?_ (IsS81.ge HI313.out) | refine below_setA ?_ (by assumption)) | exact HB.out))); (case side2 => exact HC1_1.out); rintro e w59 ⟨rfl, hb⟩; refine ⟨_, rfl, ?_⟩; replace BK306 := zM (blk_below (g := gb306) (o := .cells #[.bool a1_0, .slice A1_1 l1_1.length c1_1] 24 (0, 0)) (by (with_reducible repeat (first | apply pzN | apply pzd | apply pza)); refine blk_far ?_ NB306_314.out _; (with_reducible repeat (first | apply pzN | apply pzd | apply pza)); refine blk_far ?_ NB306_314.out _; (with_reducible repeat (first | apply pzN | apply pzd | apply pza)); exact BK306.out) hb); replace BK307 := zM (blk_below (g := gb307) (o := .cells #[.bool false, .slice none 0 0] 24 (0, 0)) (by (with_reducible repeat (first | apply pzN | apply pzd | apply pza)); refine blk_far ?_ NB307_314.out _; (with_reducible repeat (first | apply pzN | apply pzd | apply pza)); refine blk_far ?_ NB307_314.out _; (with_reducible repeat (first | apply pzN | apply pzd | apply pza)); exact BK307.out) hb); replace BK308 := zM (blk_below (g := gb308) (o := .cells #[.int .u64 0, .int .u64 0] 27 (0, 0)) (by (with_reducible repeat (first | apply pzN | apply pzd | apply pza)); refine blk_far ?_ NB308_314.out _; (with_reducible repeat (first | apply pzN | apply pzd | apply pza)); refine blk_far ?_ NB308_314.out _; (with_reducible repeat (first | apply pzN | apply pzd | apply pza)); exact BK308.out) hb); replace BK309 := zM (blk_below (g := gb309) (o := .cells #[.int .i64 0, .int .i64 0] 29 (0, 0)) (by (with_reducible repeat (first | apply pzN | apply pzd | apply pza)); refine blk_far ?_ NB309_314.out _; (with_reducible repeat (first | apply pzN | apply pzd | apply pza)); refine blk_far ?_ NB309_314.out _; (with_reducible repeat (first | apply pzN | apply pzd | apply pza)); exact BK309.out) hb); replace HB := zM (below_step (by repeat (first | (with_reducible first | exact HB.out | apply below_alloc | apply pw_below_drewN | apply below_drew1 | refine below_set ?_ (IsS81.ge HI313.out) | refine below_setA ?_ (by assumption)) | exact HB.out)) hb); replace HI313 := zM (IsS81.below (show IsS81 w ((w46.setCell ⟨gb314, 0, none⟩ (.int .i64 0)).setCell ⟨gb314, 1, none⟩ (.int .i64 0)) g313 t311 t312 from by repeat (first | (with_reducible first | exact HI313.out | apply IsS81.alloc | apply IsS81.drewN | apply IsS81.drew | apply IsS81.set_0 | apply IsS81.set_1 | refine IsS81.far ?_ NB313_305.out _ | refine IsS81.far ?_ NB313_306.out _ | refine IsS81.far ?_ NB313_307.out _ | refine IsS81.far ?_ NB313_308.out _ | refine IsS81.far ?_ NB313_309.out _ | refine IsS81.far ?_ NB313_314.out _) | exact HI313.out)) hb); (try clear hb); (try clear hb2); (try clear hk); (try clear hi)))
   (try simp only [Act.put, zS, z0, z1])
   go_cut [29] (fun v29 wc => ∃ (kq : Nat) (x29_33 : Bool), v29 = .bool x29_33 ∧ Aside0 (random_Below.j0 kq x29_33 a1_0 l1_1 t311 t312 = some (r1, r2, r3, r4, r5, r6)) ∧ Aside0 (kq ≤ k) ∧ Aside0 (wc.heap[gb306]? = some (.cells #[.bool a1_0, (.slice A1_1 l1_1.length c1_1)] 24 (0, 0))) ∧ Aside0 (wc.heap[gb307]? = some (.cells #[.bool false, (.slice none 0 0)] 24 (0, 0))) ∧ Aside0 (wc.heap[gb308]? = some (.cells #[.int .u64 0, .int .u64 0] 27 (0, 0))) ∧ Aside0 (wc.heap[gb309]? = some (.cells #[.int .i64 0, .int .i64 0] 29 (0, 0))) ∧ Aside0 (IsS81 w wc g313 t311 t312) ∧ Aside0 (Below w.heap.size w wc))
   case first =>
    have H := HC34.out
    clear HC34
    by_cases c60 : a1_0 = true
    ·subst c60
     have H1 : (random_Below.j0 k true true l1_1 t311 t312) = some (r1, r2, r3, r4, r5, r6) := by rw [if_pos rfl] at H; exact H
     clear H
     have H := H1
     clear H1
     have H' := zM H
     clear H
     have hnb62 := NB306_307.out
     have hnc62 := NB307_306.out
     have hnb63 := NB306_308.out
     have hnc63 := NB308_306.out
     have hnb64 := NB306_309.out
     have hnc64 := NB309_306.out
     have hcz67_0 := pzc (v := .bool true) BK306 0 rfl
     have hcz67_1 := pzc (v := .slice A1_1 l1_1.length c1_1) BK306 1 rfl
     have hfz67_0 := zF BK306.out 0
     have hfz67_1 := zF BK306.out 1
     go_wp2
     go_meet
     case rel => exact ⟨_, (true), (by first | rfl | (simp; done) | (simp [*]; done)), H', ⟨by first | omega | exact Nat.le_refl _⟩, ⟨by (with_reducible repeat (first | apply pzN | apply pzd | apply pza)); exact BK306.out⟩, ⟨by (with_reducible repeat (first | apply pzN | apply pzd | apply pza)); exact BK307.out⟩, ⟨by (with_reducible repeat (first | apply pzN | apply pzd | apply pza)); exact BK308.out⟩, ⟨by (with_reducible repeat (first | apply pzN | apply pzd | apply pza)); exact BK309.out⟩, ⟨by repeat (first | (with_reducible first | exact HI313.out | apply IsS81.alloc | apply IsS81.drewN | apply IsS81.drew | apply IsS81.set_0 | apply IsS81.set_1 | refine IsS81.far ?_ NB313_305.out _ | refine IsS81.far ?_ NB313_306.out _ | refine IsS81.far ?_ NB313_307.out _ | refine IsS81.far ?_ NB313_308.out _ | refine IsS81.far ?_ NB313_309.out _ | refine IsS81.far ?_ NB313_314.out _) | exact HI313.out)⟩, ⟨by repeat (first | (with_reducible first | exact HB.out | apply below_alloc | apply pw_below_drewN | apply below_drew1 | refine below_set ?_ (IsS81.ge HI313.out) | refine below_setA ?_ (by assumption)) | exact HB.out)⟩⟩
    ·replace c60 := Bool.eq_false_iff.mpr c60
     subst c60
     have H1 : (random_Below.j0 k ((l1_1.length : Int) == 0) false l1_1 t311 t312) = some (r1, r2, r3, r4, r5, r6) := by rw [if_neg (show ¬ (false = true) by decide)] at H; exact H
     clear H
     have H := H1
     clear H1
     have H' := zM H
     clear H
     have hnb69 := NB306_307.out
     have hnc69 := NB307_306.out
     have hnb70 := NB306_308.out
     have hnc70 := NB308_306.out
     have hnb71 := NB306_309.out
     have hnc71 := NB309_306.out
     have hcz74_0 := pzc (v := .bool false) BK306 0 rfl
     have hcz74_1 := pzc (v := .slice A1_1 l1_1.length c1_1) BK306 1 rfl
     have hfz74_0 := zF BK306.out 0
     have hfz74_1 := zF BK306.out 1
     go_wp2
     go_meet
     case rel => exact ⟨_, (((l1_1.length : Int) == 0)), (by first | rfl | (simp; done) | (simp [*]; done)), H', ⟨by first | omega | exact Nat.le_refl _⟩, ⟨by (with_reducible repeat (first | apply pzN | apply pzd | apply pza)); exact BK306.out⟩, ⟨by (with_reducible repeat (first | apply pzN | apply pzd | apply pza)); exact BK307.out⟩, ⟨by (with_reducible repeat (first | apply pzN | apply pzd | apply pza)); exact BK308.out⟩, ⟨by (with_reducible repeat (first | apply pzN | apply pzd | apply pza)); exact BK309.out⟩, ⟨by repeat (first | (with_reducible first | exact HI313.out | apply IsS81.alloc | apply IsS81.drewN | apply IsS81.drew | apply IsS81.set_0 | apply IsS81.set_1 | refine IsS81.far ?_ NB313_305.out _ | refine IsS81.far ?_ NB313_306.out _ | refine IsS81.far ?_ NB313_307.out _ | refine IsS81.far ?_ NB313_308.out _ | refine IsS81.far ?_ NB313_309.out _ | refine IsS81.far ?_ NB313_314.out _) | exact HI313.out)⟩, ⟨by repeat (first | (with_reducible first | exact HB.out | apply below_alloc | apply pw_below_drewN | apply below_drew1 | refine below_set ?_ (IsS81.ge HI313.out) | refine below_setA ?_ (by assumption)) | exact HB.out)⟩⟩
   case rest =>
    clear HC34
    try clear c1
    try clear c2
    try clear p2
    try clear c3
    try clear c3b0
    try clear c3b1
    try clear c4
    try clear c5
    try clear c6
    try clear c7
    try clear c10
    try clear c11
    try clear c12
    try clear c13
    try clear c16
    try clear c17
    try clear c18
    try clear c19
    try clear c20
    try clear c21
    try clear c33
    try clear c36
    try clear c39
    try clear c40
    try clear c41
    try clear c42
    try clear c43
    try clear c47
    try clear c48
    try clear c49
    try clear c50
    try clear c51
    try clear c52
    try clear c54
    try clear c55
    try clear c56
    try clear c57
    try clear c60
    try clear c61
    try clear c62
    try clear c63
    try clear c64
    try clear c65
    try clear c66
    try clear c68
    try clear c69
    try clear c70
    try clear c71
    try clear c72
    try clear c73
    try clear hcz14_0
    try clear hcz14_1
    try clear hcz22_0
    try clear hcz22_1
    try clear hcz44_0
    try clear hcz44_1
    try clear hcz53_0
    try clear hcz53_1
    try clear hcz58_0
    try clear hcz58_1
    try clear hcz67_0
    try clear hcz67_1
    try clear hcz74_0
    try clear hcz74_1
    try clear hfz14_0
    try clear hfz14_1
    try clear hfz22_0
    try clear hfz22_1
    try clear hfz44_0
    try clear hfz44_1
    try clear hfz53_0
    try clear hfz53_1
    try clear hfz58_0
    try clear hfz58_1
    try clear hfz67_0
    try clear hfz67_1
    try clear hfz74_0
    try clear hfz74_1
    obtain ⟨kq, x29_33, rfl, HA, HJ33, BK306, BK307, BK308, BK309, HI313, HB⟩ := hcut
    cases kq with
    | zero => exact absurd HA.out (by simp [random_Below.j0])
    | succ kj33 =>
     have H := HA.out
     clear HA
     simp only [random_Below.j0] at H
     by_cases c75 : x29_33 = true
     ·subst c75
      have H1 : ((random_at.f 4 (-2)).bind fun bt316 => (some (false, ([] : List Int), 0, 0, bt316.1, bt316.2))) = some (r1, r2, r3, r4, r5, r6) := by rw [if_pos rfl] at H; exact H
      clear H
      have H := H1
      clear H1
      replace H := zB H
      obtain ⟨⟨t316, t317⟩, A760, H⟩ := H
      replace H : (some (false, ([] : List Int), 0, 0, t316, t317)) = some (r1, r2, r3, r4, r5, r6) := H
      have A76 := zM A760
      clear A760
      simp only [Option.some.injEq, Prod.mk.injEq] at H
      obtain ⟨rfl, rfl, rfl, rfl, rfl, rfl⟩ := H
      go_wp2_with (first | ((with_reducible refine gate_callee (f := 37) rfl ?_); refine goesL_ (some 40) rfl rfl Try.func37 (by kernel_rfl) rfl #[.int .i64 4, .int .i64 (-2)] rfl (by (try simp only [zT, zC, zN]); first | done | rfl | (simp only [zR, zL]; rfl)) ?_; (with_reducible refine (random_at.calls 4 (-2) t316 t317 _ A76.out).mono ?_); rintro e w77 ⟨rfl, hb⟩; refine ⟨_, rfl, ?_⟩; replace BK307 := pzb BK307 hb; replace BK308 := pzb BK308 hb; replace BK309 := pzb BK309 hb; replace HB := zM (below_step (by repeat (first | (with_reducible first | exact HB.out | apply below_alloc | apply pw_below_drewN | apply below_drew1 | refine below_set ?_ (IsS81.ge HI313.out) | refine below_setA ?_ (by assumption)) | exact HB.out)) hb); replace HI313 := zM (IsS81.below (by repeat (first | (with_reducible first | exact HI313.out | apply IsS81.alloc | apply IsS81.drewN | apply IsS81.drew | apply IsS81.set_0 | apply IsS81.set_1 | refine IsS81.far ?_ NB313_306.out _ | refine IsS81.far ?_ NB313_307.out _ | refine IsS81.far ?_ NB313_308.out _ | refine IsS81.far ?_ NB313_309.out _) | exact HI313.out)) hb); (try clear hb); (try clear hb2); (try clear hk); (try clear hi); have hnb79 := NB307_308.out; have hnc79 := NB308_307.out; have hnb80 := NB307_309.out; have hnc80 := NB309_307.out; have hcz82_0 := pzc (v := .bool false) BK307 0 rfl; have hcz82_1 := pzc (v := .slice none 0 0) BK307 1 rfl; have hfz82_0 := zF BK307.out 0; have hfz82_1 := zF BK307.out 1; have hnb84 := NB308_309.out; have hnc84 := NB309_308.out; have hcz86_0 := pzc (v := .int .u64 0) BK308 0 rfl; have hcz86_1 := pzc (v := .int .u64 0) BK308 1 rfl; have hfz86_0 := zF BK308.out 0; have hfz86_1 := zF BK308.out 1; have hcz89_0 := pzc (v := .int .i64 0) BK309 0 rfl; have hcz89_1 := pzc (v := .int .i64 0) BK309 1 rfl; have hfz89_0 := zF BK309.out 0; have hfz89_1 := zF BK309.out 1))
      refine bodyPost_ret (results_list (rs := [.cell 4 24, .cell 5 27, .cell 6 29]) rfl (by simp) (.cell gb307 24 #[.bool false, .slice none 0 0] (0, 0) _ rfl (by (with_reducible repeat (first | apply pzN | apply pzd | apply pza)); refine blk_far ?_ NB307_309.out _; (with_reducible repeat (first | apply pzN | apply pzd | apply pza)); refine blk_far ?_ NB307_309.out _; (with_reducible repeat (first | apply pzN | apply pzd | apply pza)); refine blk_far ?_ NB307_308.out _; (with_reducible repeat (first | apply pzN | apply pzd | apply pza)); refine blk_far ?_ NB307_308.out _; (with_reducible repeat (first | apply pzN | apply pzd | apply pza)); refine blk_put (cs := #[.bool false, .slice none 0 0]) ?_ 1 _ rfl; (with_reducible repeat (first | apply pzN | apply pzd | apply pza)); refine blk_put (cs := #[.bool false, .slice none 0 0]) ?_ 0 _ rfl; (with_reducible repeat (first | apply pzN | apply pzd | apply pza)); exact BK307.out) Try.underlying24 rfl (by kernel_rfl) (.cell gb308 27 #[.int .u64 0, .int .u64 0] (0, 0) _ rfl (by (with_reducible repeat (first | apply pzN | apply pzd | apply pza)); refine blk_far ?_ NB308_309.out _; (with_reducible repeat (first | apply pzN | apply pzd | apply pza)); refine blk_far ?_ NB308_309.out _; (with_reducible repeat (first | apply pzN | apply pzd | apply pza)); refine blk_put (cs := #[.int .u64 0, .int .u64 0]) ?_ 1 _ rfl; (with_reducible repeat (first | apply pzN | apply pzd | apply pza)); refine blk_put (cs := #[.int .u64 0, .int .u64 0]) ?_ 0 _ rfl; (with_reducible repeat (first | apply pzN | apply pzd | apply pza)); refine blk_far ?_ NB308_307.out _; (with_reducible repeat (first | apply pzN | apply pzd | apply pza)); refine blk_far ?_ NB308_307.out _; (with_reducible repeat (first | apply pzN | apply pzd | apply pza)); exact BK308.out) Try.underlying27 rfl (by kernel_rfl) (.cell gb309 29 #[.int .i64 t316, .int .i64 t317] (0, 0) _ rfl (by (with_reducible repeat (first | apply pzN | apply pzd | apply pza)); refine blk_put (cs := #[.int .i64 t316, .int .i64 0]) ?_ 1 _ rfl; (with_reducible repeat (first | apply pzN | apply pzd | apply pza)); refine blk_put (cs := #[.int .i64 0, .int .i64 0]) ?_ 0 _ rfl; (with_reducible repeat (first | apply pzN | apply pzd | apply pza)); refine blk_far ?_ NB309_308.out _; (with_reducible repeat (first | apply pzN | apply pzd | apply pza)); refine blk_far ?_ NB309_308.out _; (with_reducible repeat (first | apply pzN | apply pzd | apply pza)); refine blk_far ?_ NB309_307.out _; (with_reducible repeat (first | apply pzN | apply pzd | apply pza)); refine blk_far ?_ NB309_307.out _; (with_reducible repeat (first | apply pzN | apply pzd | apply pza)); exact BK309.out) Try.underlying29 rfl (by kernel_rfl) .nil)))) rfl ?_
      exact ⟨_, by first | rfl | (simp [errW_none, errW_some] <;> rfl) | (simp [*, errW_none, errW_some] <;> rfl), by first | exact Kd.R_nil _ _ _ _ _ | exact Kd.N_nil _ _ _ _ _ | exact Kd.V_nil _ _ _ _ _ | exact Kd.Q_nil _ _ _ _ _ | exact Kd.S_nil _ _ _ _ _, by repeat (first | (with_reducible first | exact HB.out | apply below_alloc | apply pw_below_drewN | apply below_drew1 | refine below_set ?_ (IsS81.ge HI313.out) | refine below_setA ?_ (by assumption)) | exact HB.out)⟩
     ·replace c75 := Bool.eq_false_iff.mpr c75
      subst c75
      have H1 : ((random_source_below.f kj33 t311 t312 a1_0 l1_1).bind fun bt318 => (some (bt318.1, bt318.2.1, bt318.2.2.1, bt318.2.2.2, 0, 0))) = some (r1, r2, r3, r4, r5, r6) := by rw [if_neg (show ¬ (false = true) by decide)] at H; exact H
      clear H
      have H := H1
      clear H1
      replace H := zB H
      obtain ⟨⟨t318, t319, t322, t323⟩, A900, H⟩ := H
      replace H : (some (t318, t319, t322, t323, 0, 0)) = some (r1, r2, r3, r4, r5, r6) := H
      have A90 := zM A900
      clear A900
      simp only [Option.some.injEq, Prod.mk.injEq] at H
      obtain ⟨rfl, rfl, rfl, rfl, rfl, rfl⟩ := H
      have hnb91 := NB306_307.out
      have hnc91 := NB307_306.out
      have hnb92 := NB306_308.out
      have hnc92 := NB308_306.out
      have hnb93 := NB306_309.out
      have hnc93 := NB309_306.out
      have hcz95_0 := pzc (v := .bool a1_0) BK306 0 rfl
      have hcz95_1 := pzc (v := .slice A1_1 l1_1.length c1_1) BK306 1 rfl
      have hfz95_0 := zF BK306.out 0
      have hfz95_1 := zF BK306.out 1
      try go_wp2_with (first | ((with_reducible refine gate_callee (f := 43) rfl ?_); refine goesL_ (some 43) rfl rfl Try.func43 (by kernel_rfl) rfl #[.pointer (some ⟨g313, 0, none⟩), .agg #[.bool a1_0, .slice A1_1 l1_1.length c1_1]] rfl (by (try simp only [zT, zC, zN]); first | done | rfl | (simp only [zR, zL]; rfl)) ?_; (with_reducible refine (random_source_below.calls kj33 g313 t311 t312 a1_0 _ _ l1_1 t318 t319 t322 t323 w _ ?side1 ?side2 ?side3 ?side4 ?side5 A90.out).mono ?_); (case side1 => repeat (first | (with_reducible first | exact HI313.out | apply IsS81.alloc | apply IsS81.drewN | apply IsS81.drew | apply IsS81.set_0 | apply IsS81.set_1 | refine IsS81.far ?_ NB313_306.out _ | refine IsS81.far ?_ NB313_307.out _ | refine IsS81.far ?_ NB313_308.out _ | refine IsS81.far ?_ NB313_309.out _) | exact HI313.out)); (case side2 => repeat (first | (with_reducible first | exact HB.out | apply below_alloc | apply pw_below_drewN | apply below_drew1 | refine below_set ?_ (IsS81.ge HI313.out) | refine below_setA ?_ (by assumption)) | exact HB.out)); (case side3 => repeat (first | exact (Kd.C_below HR1_1.out HB.out) | (with_reducible refine Kd.C_alloc ?_ _) | (with_reducible refine Kd.C_drewN ?_ _) | (with_reducible refine Kd.C_drew ?_))); (case side4 => exact HC1_1.out); (case side5 => exact Kd.far_C 0 HR1_1.out (IsS81.ge HI313.out)); rintro e w96 ⟨v320, rfl, ho0, hi, hb, hk⟩; refine ⟨_, rfl, ?_⟩; have HO321 := zM (Kd.R_lower ho0 (below_size (by repeat (first | (with_reducible first | exact HB.out | apply below_alloc | apply pw_below_drewN | apply below_drew1 | refine below_set ?_ (IsS81.ge HI313.out) | refine below_setA ?_ (by assumption)) | exact HB.out)))); replace BK306 := zM (KeepBut.blk hk (g' := gb306) (o := .cells #[.bool a1_0, .slice A1_1 l1_1.length c1_1] 24 (0, 0)) BK306.out NB306_313.out (by simp)); replace BK307 := zM (KeepBut.blk hk (g' := gb307) (o := .cells #[.bool false, .slice none 0 0] 24 (0, 0)) BK307.out NB307_313.out (by simp)); replace BK308 := zM (KeepBut.blk hk (g' := gb308) (o := .cells #[.int .u64 0, .int .u64 0] 27 (0, 0)) BK308.out NB308_313.out (by simp)); replace BK309 := zM (KeepBut.blk hk (g' := gb309) (o := .cells #[.int .i64 0, .int .i64 0] 29 (0, 0)) BK309.out NB309_313.out (by simp)); replace HB := zM (hb); replace HI313 := zM (hi); (try clear hb); (try clear hb2); (try clear hk); (try clear hi); (try clear ho0)) | ((with_reducible refine gate_dst (N := 9) rfl ?_); (try (refine gate_guard (by rfl) ?_; dsimp only)); refine box_event ?hg (N := 9) ?hd (cs := #[.bool false, .slice none 0 0]) (t := 24) ?hr ?_; (case hd => rfl); (case hg => rfl); (case hr => first | (go_simp; done) | (go_simp; rfl)); intro gb324 hg w97 hbox hb; have BK324 := zM (hbox); have GW324 := zM ((by rw [hg]; exact (below_size (by repeat (first | (with_reducible first | exact HB.out | apply below_alloc | apply pw_below_drewN | apply below_drew1 | refine below_set ?_ (IsS81.ge HI313.out) | refine below_setA ?_ (by assumption)) | exact HB.out))) : w.heap.size ≤ gb324)); have GE324 := GW324; have NB306_324 := pzf BK306 hg; have NB324_306 := pzg BK306 hg; have NB307_324 := pzf BK307 hg; have NB324_307 := pzg BK307 hg; have NB308_324 := pzf BK308 hg; have NB324_308 := pzg BK308 hg; have NB309_324 := pzf BK309 hg; have NB324_309 := pzg BK309 hg; have NB313_324 := zM ((by rw [hg]; exact Nat.ne_of_lt (IsS81.lt (show IsS81 w _ g313 t322 t323 from by repeat (first | (with_reducible first | exact HI313.out | apply IsS81.alloc | apply IsS81.drewN | apply IsS81.drew | apply IsS81.set_0 | apply IsS81.set_1 | refine IsS81.far ?_ NB313_306.out _ | refine IsS81.far ?_ NB313_307.out _ | refine IsS81.far ?_ NB313_308.out _ | refine IsS81.far ?_ NB313_309.out _) | exact HI313.out))) : g313 ≠ gb324)); replace HO321 := zM (Kd.R_below HO321.out hb); replace BK306 := pzb BK306 hb; replace BK307 := pzb BK307 hb; replace BK308 := pzb BK308 hb; replace BK309 := pzb BK309 hb; replace HB := zM (below_step (by repeat (first | (with_reducible first | exact HB.out | apply below_alloc | apply pw_below_drewN | apply below_drew1 | refine below_set ?_ (IsS81.ge HI313.out) | refine below_setA ?_ (by assumption)) | exact HB.out)) hb); replace HI313 := zM (IsS81.below (by repeat (first | (with_reducible first | exact HI313.out | apply IsS81.alloc | apply IsS81.drewN | apply IsS81.drew | apply IsS81.set_0 | apply IsS81.set_1 | refine IsS81.far ?_ NB313_306.out _ | refine IsS81.far ?_ NB313_307.out _ | refine IsS81.far ?_ NB313_308.out _ | refine IsS81.far ?_ NB313_309.out _) | exact HI313.out)) hb); clear hb hbox hg; have hnb98 := NB324_306.out; have hnc98 := NB306_324.out; have hnb99 := NB324_307.out; have hnc99 := NB307_324.out; have hnb100 := NB324_308.out; have hnc100 := NB308_324.out; have hnb101 := NB324_309.out; have hnc101 := NB309_324.out; have hcz103_0 := pzc (v := .bool false) BK324 0 rfl; have hcz103_1 := pzc (v := .slice none 0 0) BK324 1 rfl; have hfz103_0 := zF BK324.out 0; have hfz103_1 := zF BK324.out 1; obtain ⟨Ao104, co104, eo104⟩ := Kd.R_slice HO321.out; subst eo104))
      have n0_ : Aside0 (Kd.R (Kd.int .u32) 76 ((w97.setCell ⟨gb324, 0, none⟩ (.bool t318)).setCell ⟨gb324, 1, none⟩ (.slice Ao104 t319.length co104)) w.heap.size (fun _ => True) (.slice Ao104 t319.length co104) t319) := ⟨by (with_reducible repeat (first | apply Kd.R_alloc | apply Kd.R_drewN | apply Kd.R_drew)); exact Kd.R_mono (Kd.R_far (p := ⟨gb324, 1, none⟩) (Kd.R_far (p := ⟨gb324, 0, none⟩) (Kd.R_types HO321.out BK324.out (by decide)) (fun _ hk => hk.2) (.bool t318)) (fun _ hk => hk.2) (.slice Ao104 t319.length co104)) (fun _ hk => trivial)⟩
      have n1_ : Aside0 (((w97.setCell ⟨gb324, 0, none⟩ (.bool t318)).setCell ⟨gb324, 1, none⟩ (.slice Ao104 t319.length co104)).heap[gb306]? = some (.cells #[.bool a1_0, .slice A1_1 l1_1.length c1_1] 24 (0, 0))) := ⟨by (with_reducible repeat (first | apply pzN | apply pzd | apply pza)); refine blk_far ?_ NB306_324.out _; (with_reducible repeat (first | apply pzN | apply pzd | apply pza)); refine blk_far ?_ NB306_324.out _; (with_reducible repeat (first | apply pzN | apply pzd | apply pza)); exact BK306.out⟩
      have n2_ : Aside0 (((w97.setCell ⟨gb324, 0, none⟩ (.bool t318)).setCell ⟨gb324, 1, none⟩ (.slice Ao104 t319.length co104)).heap[gb307]? = some (.cells #[.bool false, .slice none 0 0] 24 (0, 0))) := ⟨by (with_reducible repeat (first | apply pzN | apply pzd | apply pza)); refine blk_far ?_ NB307_324.out _; (with_reducible repeat (first | apply pzN | apply pzd | apply pza)); refine blk_far ?_ NB307_324.out _; (with_reducible repeat (first | apply pzN | apply pzd | apply pza)); exact BK307.out⟩
      have n3_ : Aside0 (((w97.setCell ⟨gb324, 0, none⟩ (.bool t318)).setCell ⟨gb324, 1, none⟩ (.slice Ao104 t319.length co104)).heap[gb308]? = some (.cells #[.int .u64 0, .int .u64 0] 27 (0, 0))) := ⟨by (with_reducible repeat (first | apply pzN | apply pzd | apply pza)); refine blk_far ?_ NB308_324.out _; (with_reducible repeat (first | apply pzN | apply pzd | apply pza)); refine blk_far ?_ NB308_324.out _; (with_reducible repeat (first | apply pzN | apply pzd | apply pza)); exact BK308.out⟩
      have n4_ : Aside0 (((w97.setCell ⟨gb324, 0, none⟩ (.bool t318)).setCell ⟨gb324, 1, none⟩ (.slice Ao104 t319.length co104)).heap[gb309]? = some (.cells #[.int .i64 0, .int .i64 0] 29 (0, 0))) := ⟨by (with_reducible repeat (first | apply pzN | apply pzd | apply pza)); refine blk_far ?_ NB309_324.out _; (with_reducible repeat (first | apply pzN | apply pzd | apply pza)); refine blk_far ?_ NB309_324.out _; (with_reducible repeat (first | apply pzN | apply pzd | apply pza)); exact BK309.out⟩
      have n5_ : Aside0 (((w97.setCell ⟨gb324, 0, none⟩ (.bool t318)).setCell ⟨gb324, 1, none⟩ (.slice Ao104 t319.length co104)).heap[gb324]? = some (.cells #[.bool t318, .slice Ao104 t319.length co104] 24 (0, 0))) := ⟨by (with_reducible repeat (first | apply pzN | apply pzd | apply pza)); refine blk_put (cs := #[.bool t318, .slice none 0 0]) ?_ 1 _ rfl; (with_reducible repeat (first | apply pzN | apply pzd | apply pza)); refine blk_put (cs := #[.bool false, .slice none 0 0]) ?_ 0 _ rfl; (with_reducible repeat (first | apply pzN | apply pzd | apply pza)); exact BK324.out⟩
      have n6_ : Aside0 (IsS81 w ((w97.setCell ⟨gb324, 0, none⟩ (.bool t318)).setCell ⟨gb324, 1, none⟩ (.slice Ao104 t319.length co104)) g313 t322 t323) := ⟨by repeat (first | (with_reducible first | exact HI313.out | apply IsS81.alloc | apply IsS81.drewN | apply IsS81.drew | apply IsS81.set_0 | apply IsS81.set_1 | refine IsS81.far ?_ NB313_306.out _ | refine IsS81.far ?_ NB313_307.out _ | refine IsS81.far ?_ NB313_308.out _ | refine IsS81.far ?_ NB313_309.out _ | refine IsS81.far ?_ NB313_324.out _) | exact HI313.out)⟩
      have n7_ : Aside0 (Below w.heap.size w ((w97.setCell ⟨gb324, 0, none⟩ (.bool t318)).setCell ⟨gb324, 1, none⟩ (.slice Ao104 t319.length co104))) := ⟨by repeat (first | (with_reducible first | exact HB.out | apply below_alloc | apply pw_below_drewN | apply below_drew1 | refine below_set ?_ (IsS81.ge HI313.out) | refine below_setA ?_ (by assumption)) | exact HB.out)⟩
      (try clear HO321)
      (try clear BK306)
      (try clear BK307)
      (try clear BK308)
      (try clear BK309)
      (try clear BK324)
      (try clear HI313)
      (try clear HB)
      generalize ((w97.setCell ⟨gb324, 0, none⟩ (.bool t318)).setCell ⟨gb324, 1, none⟩ (.slice Ao104 t319.length co104)) = w105 at n0_ n1_ n2_ n3_ n4_ n5_ n6_ n7_ ⊢
      have HO321 := n0_
      have BK306 := n1_
      have BK307 := n2_
      have BK308 := n3_
      have BK309 := n4_
      have BK324 := n5_
      have HI313 := n6_
      have HB := n7_
      clear n0_ n1_ n2_ n3_ n4_ n5_ n6_ n7_
      replace HO321 := zM (Kd.R_drew HO321.out)
      replace BK307 := zM (blk_drew BK307.out)
      replace BK308 := zM (blk_drew BK308.out)
      replace BK309 := zM (blk_drew BK309.out)
      replace BK324 := zM (blk_drew BK324.out)
      replace HI313 := zM (IsS81.drew HI313.out)
      replace HB := zM (below_drew1 HB.out)
      refine start_ (n := 9) (S := fun w' => w'.cell? ⟨gb324, 0, none⟩ = some (.bool t318) ∧ w'.cell? ⟨gb324, 1, none⟩ = some (.slice Ao104 t319.length co104) ∧ w'.cell? ⟨g313, 0, none⟩ = some (.int .u64 t322) ∧ w'.cell? ⟨g313, 1, none⟩ = some (.int .u64 t323)) (ds := []) #[false, false, false, false, false, false, false, false, false] (by kernel_rfl) rfl rfl ⟨(blk_cell BK324.out 0).trans rfl, (blk_cell BK324.out 1).trans rfl, (blk_cell (zM HI313.out.1).out 0).trans rfl, (blk_cell (zM HI313.out.1).out 1).trans rfl⟩ (fun hHeld => ?_); refine with_tabW random_Below.tab9 random_Below.bits9 (fun HT_ HW_ => ?_)
      generalize w105.drew = w106 at HO321 BK307 BK308 BK309 HI313 HB hHeld ⊢
      refine pure_ (i := 1) (N := some 45) (v := ?_) (a' := ?_) #[false, true, false, false, false, false, false, false, false] rfl rfl (any_of HT_.out (by kernel_rfl)) (fun _ _ _ h => h) (Or.inl ⟨by rfl, ?_⟩) ?_ ?_
      rotate_left
      ·intro w'
       go_simp
       with_reducible rfl
      rotate_left
      ·simp only [Act.put, zS, z0, z1, i64_w, i32_w]
       rfl
      refine pure_ (i := 2) (N := some 46) (v := ?_) (a' := ?_) #[false, true, true, false, false, false, false, false, false] rfl rfl (any_of HT_.out (by kernel_rfl)) (fun _ _ _ h => h) (Or.inl ⟨by rfl, ?_⟩) ?_ ?_
      rotate_left
      ·intro w'
       go_simp
       with_reducible rfl
      rotate_left
      ·simp only [Act.put, zS, z0, z1, i64_w, i32_w]
       rfl
      refine pure_ (i := 3) (N := some 47) (v := ?_) (a' := ?_) #[false, true, true, true, false, false, false, false, false] rfl rfl (any_of HT_.out (by kernel_rfl)) (fun _ _ _ h => h) (Or.inl ⟨by rfl, ?_⟩) ?_ ?_
      rotate_left
      ·intro w'
       go_simp
       with_reducible rfl
      rotate_left
      ·simp only [Act.put, zS, z0, z1, i64_w, i32_w]
       rfl
      refine pure_ (i := 5) (N := some 49) (v := ?_) (a' := ?_) #[false, true, true, true, false, true, false, false, false] rfl rfl (any_of HT_.out (by kernel_rfl)) (fun _ _ _ h => h) (Or.inl ⟨by rfl, ?_⟩) ?_ ?_
      rotate_left
      ·intro w'
       go_simp
       with_reducible rfl
      rotate_left
      ·simp only [Act.put, zS, z0, z1, i64_w, i32_w]
       rfl
      refine take_ (i := 0) (N := some 44) (v := ?_) (a' := ?_) #[true, true, true, true, false, true, false, false, false] rfl rfl (take_ofW HT_.out HW_.out (by kernel_rfl)) (fun _ _ _ h => h) (Or.inl ⟨by rfl, ?_⟩) hHeld ?_ ?_
      rotate_left
      ·rintro w' ⟨s0, s1, s2, s3⟩
       go_simp
       with_reducible rfl
      rotate_left
      ·simp only [Act.put, zS, z0, z1, i64_w, i32_w]
       rfl
      refine take_ (i := 4) (N := some 48) (v := ?_) (a' := ?_) #[true, true, true, true, true, true, false, false, false] rfl rfl (take_ofW HT_.out HW_.out (by kernel_rfl)) (fun _ _ _ h => h) (Or.inl ⟨by rfl, ?_⟩) hHeld ?_ ?_
      rotate_left
      ·rintro w' ⟨s0, s1, s2, s3⟩
       go_simp
       with_reducible rfl
      rotate_left
      ·simp only [Act.put, zS, z0, z1, i64_w, i32_w]
       rfl
      refine one_ (i := 6) (N := none) #[true, true, true, true, true, true, true, false, false] rfl rfl (one_of HT_.out (by kernel_rfl)) (by decide) (fun K hK => ?_)
      have hs107 : w106.cell? ⟨gb307, 0, none⟩ = some (.bool false) := (blk_cell BK307.out 0).trans rfl
      have hfs107 := zF BK307.out 0
      have hns107_0 := NB306_307.out
      have hns107_2 := NB308_307.out
      have hns107_3 := NB309_307.out
      have hns107_4 := NB324_307.out
      have hms107_0 := NB307_306.out
      have hms107_2 := NB307_308.out
      have hms107_3 := NB307_309.out
      have hms107_4 := NB307_324.out
      have hs108 : w106.cell? ⟨gb307, 1, none⟩ = some (.slice none 0 0) := (blk_cell BK307.out 1).trans rfl
      have hfs108 := zF BK307.out 1
      have hns108_0 := NB306_307.out
      have hns108_2 := NB308_307.out
      have hns108_3 := NB309_307.out
      have hns108_4 := NB324_307.out
      have hms108_0 := NB307_306.out
      have hms108_2 := NB307_308.out
      have hms108_3 := NB307_309.out
      have hms108_4 := NB307_324.out
      refine skip_ (w1 := ?_) (by rfl) rfl ?_ ?_
      rotate_left
      ·go_simp
       rfl
      refine hK.out _ _ ⟨((cell_far (p := ⟨gb307, _, none⟩) NB324_307.out _).trans (((cell_far (p := ⟨gb307, _, none⟩) NB324_307.out _).trans (hHeld.1)))), ((cell_far (p := ⟨gb307, _, none⟩) NB324_307.out _).trans (((cell_far (p := ⟨gb307, _, none⟩) NB324_307.out _).trans (hHeld.2.1)))), ((cell_far (p := ⟨gb307, _, none⟩) NB313_307.out _).trans (((cell_far (p := ⟨gb307, _, none⟩) NB313_307.out _).trans (hHeld.2.2.1)))), ((cell_far (p := ⟨gb307, _, none⟩) NB313_307.out _).trans (((cell_far (p := ⟨gb307, _, none⟩) NB313_307.out _).trans (hHeld.2.2.2))))⟩ (fun hHeld => ?_)
      clear hK K
      refine one_ (i := 7) (N := none) #[true, true, true, true, true, true, true, true, false] rfl rfl (one_of HT_.out (by kernel_rfl)) (by decide) (fun K hK => ?_)
      have hs109 : w106.cell? ⟨gb308, 0, none⟩ = some (.int .u64 0) := (blk_cell BK308.out 0).trans rfl
      have hfs109 := zF BK308.out 0
      have hns109_0 := NB306_308.out
      have hns109_1 := NB307_308.out
      have hns109_3 := NB309_308.out
      have hns109_4 := NB324_308.out
      have hms109_0 := NB308_306.out
      have hms109_1 := NB308_307.out
      have hms109_3 := NB308_309.out
      have hms109_4 := NB308_324.out
      have hs110 : w106.cell? ⟨gb308, 1, none⟩ = some (.int .u64 0) := (blk_cell BK308.out 1).trans rfl
      have hfs110 := zF BK308.out 1
      have hns110_0 := NB306_308.out
      have hns110_1 := NB307_308.out
      have hns110_3 := NB309_308.out
      have hns110_4 := NB324_308.out
      have hms110_0 := NB308_306.out
      have hms110_1 := NB308_307.out
      have hms110_3 := NB308_309.out
      have hms110_4 := NB308_324.out
      refine skip_ (w1 := ?_) (by rfl) rfl ?_ ?_
      rotate_left
      ·go_simp
       rfl
      refine hK.out _ _ ⟨((cell_far (p := ⟨gb308, _, none⟩) NB324_308.out _).trans (((cell_far (p := ⟨gb308, _, none⟩) NB324_308.out _).trans (hHeld.1)))), ((cell_far (p := ⟨gb308, _, none⟩) NB324_308.out _).trans (((cell_far (p := ⟨gb308, _, none⟩) NB324_308.out _).trans (hHeld.2.1)))), ((cell_far (p := ⟨gb308, _, none⟩) NB313_308.out _).trans (((cell_far (p := ⟨gb308, _, none⟩) NB313_308.out _).trans (hHeld.2.2.1)))), ((cell_far (p := ⟨gb308, _, none⟩) NB313_308.out _).trans (((cell_far (p := ⟨gb308, _, none⟩) NB313_308.out _).trans (hHeld.2.2.2))))⟩ (fun hHeld => ?_)
      clear hK K
      refine one_ (i := 8) (N := none) #[true, true, true, true, true, true, true, true, true] rfl rfl (one_of HT_.out (by kernel_rfl)) (by decide) (fun K hK => ?_)
      have hs111 : w106.cell? ⟨gb309, 0, none⟩ = some (.int .i64 0) := (blk_cell BK309.out 0).trans rfl
      have hfs111 := zF BK309.out 0
      have hns111_0 := NB306_309.out
      have hns111_1 := NB307_309.out
      have hns111_2 := NB308_309.out
      have hns111_4 := NB324_309.out
      have hms111_0 := NB309_306.out
      have hms111_1 := NB309_307.out
      have hms111_2 := NB309_308.out
      have hms111_4 := NB309_324.out
      have hs112 : w106.cell? ⟨gb309, 1, none⟩ = some (.int .i64 0) := (blk_cell BK309.out 1).trans rfl
      have hfs112 := zF BK309.out 1
      have hns112_0 := NB306_309.out
      have hns112_1 := NB307_309.out
      have hns112_2 := NB308_309.out
      have hns112_4 := NB324_309.out
      have hms112_0 := NB309_306.out
      have hms112_1 := NB309_307.out
      have hms112_2 := NB309_308.out
      have hms112_4 := NB309_324.out
      refine skip_ (w1 := ?_) (by rfl) rfl ?_ ?_
      rotate_left
      ·go_simp
       rfl
      refine hK.out _ _ ⟨((cell_far (p := ⟨gb309, _, none⟩) NB324_309.out _).trans (((cell_far (p := ⟨gb309, _, none⟩) NB324_309.out _).trans (hHeld.1)))), ((cell_far (p := ⟨gb309, _, none⟩) NB324_309.out _).trans (((cell_far (p := ⟨gb309, _, none⟩) NB324_309.out _).trans (hHeld.2.1)))), ((cell_far (p := ⟨gb309, _, none⟩) NB313_309.out _).trans (((cell_far (p := ⟨gb309, _, none⟩) NB313_309.out _).trans (hHeld.2.2.1)))), ((cell_far (p := ⟨gb309, _, none⟩) NB313_309.out _).trans (((cell_far (p := ⟨gb309, _, none⟩) NB313_309.out _).trans (hHeld.2.2.2))))⟩ (fun hHeld => ?_)
      clear hK K
      refine done_ (done_of HT_.out (by kernel_rfl)) ?_
      try go_wp2
      refine bodyPost_ret (results_list (rs := [.cell 4 24, .cell 5 27, .cell 6 29]) rfl (by simp) (.cell gb307 24 #[.bool t318, .slice Ao104 t319.length co104] (0, 0) _ rfl (by (with_reducible repeat (first | apply pzN | apply pzd | apply pza)); refine blk_far ?_ NB307_309.out _; (with_reducible repeat (first | apply pzN | apply pzd | apply pza)); refine blk_far ?_ NB307_309.out _; (with_reducible repeat (first | apply pzN | apply pzd | apply pza)); refine blk_far ?_ NB307_308.out _; (with_reducible repeat (first | apply pzN | apply pzd | apply pza)); refine blk_far ?_ NB307_308.out _; (with_reducible repeat (first | apply pzN | apply pzd | apply pza)); refine blk_put (cs := #[.bool t318, .slice none 0 0]) ?_ 1 _ rfl; (with_reducible repeat (first | apply pzN | apply pzd | apply pza)); refine blk_put (cs := #[.bool false, .slice none 0 0]) ?_ 0 _ rfl; (with_reducible repeat (first | apply pzN | apply pzd | apply pza)); exact BK307.out) Try.underlying24 rfl (by kernel_rfl) (.cell gb308 27 #[.int .u64 t322, .int .u64 t323] (0, 0) _ rfl (by (with_reducible repeat (first | apply pzN | apply pzd | apply pza)); refine blk_far ?_ NB308_309.out _; (with_reducible repeat (first | apply pzN | apply pzd | apply pza)); refine blk_far ?_ NB308_309.out _; (with_reducible repeat (first | apply pzN | apply pzd | apply pza)); refine blk_put (cs := #[.int .u64 t322, .int .u64 0]) ?_ 1 _ rfl; (with_reducible repeat (first | apply pzN | apply pzd | apply pza)); refine blk_put (cs := #[.int .u64 0, .int .u64 0]) ?_ 0 _ rfl; (with_reducible repeat (first | apply pzN | apply pzd | apply pza)); refine blk_far ?_ NB308_307.out _; (with_reducible repeat (first | apply pzN | apply pzd | apply pza)); refine blk_far ?_ NB308_307.out _; (with_reducible repeat (first | apply pzN | apply pzd | apply pza)); exact BK308.out) Try.underlying27 rfl (by kernel_rfl) (.cell gb309 29 #[.int .i64 0, .int .i64 0] (0, 0) _ rfl (by (with_reducible repeat (first | apply pzN | apply pzd | apply pza)); refine blk_put (cs := #[.int .i64 0, .int .i64 0]) ?_ 1 _ rfl; (with_reducible repeat (first | apply pzN | apply pzd | apply pza)); refine blk_put (cs := #[.int .i64 0, .int .i64 0]) ?_ 0 _ rfl; (with_reducible repeat (first | apply pzN | apply pzd | apply pza)); refine blk_far ?_ NB309_308.out _; (with_reducible repeat (first | apply pzN | apply pzd | apply pza)); refine blk_far ?_ NB309_308.out _; (with_reducible repeat (first | apply pzN | apply pzd | apply pza)); refine blk_far ?_ NB309_307.out _; (with_reducible repeat (first | apply pzN | apply pzd | apply pza)); refine blk_far ?_ NB309_307.out _; (with_reducible repeat (first | apply pzN | apply pzd | apply pza)); exact BK309.out) Try.underlying29 rfl (by kernel_rfl) .nil)))) rfl ?_
      exact ⟨_, by first | rfl | (simp [errW_none, errW_some] <;> rfl) | (simp [*, errW_none, errW_some] <;> rfl), by (with_reducible repeat (first | apply Kd.R_alloc | apply Kd.R_drewN | apply Kd.R_drew)); exact Kd.R_mono (Kd.R_far (p := ⟨gb309, 1, none⟩) (Kd.R_far (p := ⟨gb309, 0, none⟩) (Kd.R_far (p := ⟨gb308, 1, none⟩) (Kd.R_far (p := ⟨gb308, 0, none⟩) (Kd.R_far (p := ⟨gb307, 1, none⟩) (Kd.R_far (p := ⟨gb307, 0, none⟩) (Kd.R_types (Kd.R_types (Kd.R_types HO321.out BK307.out (by decide)) BK308.out (by decide)) BK309.out (by decide)) (fun _ hk => hk.1.1.2) (.bool t318)) (fun _ hk => hk.1.1.2) (.slice Ao104 t319.length co104)) (fun _ hk => hk.1.2) (.int .u64 t322)) (fun _ hk => hk.1.2) (.int .u64 t323)) (fun _ hk => hk.2) (.int .i64 0)) (fun _ hk => hk.2) (.int .i64 0)) (fun _ hk => trivial), by repeat (first | (with_reducible first | exact HB.out | apply below_alloc | apply pw_below_drewN | apply below_drew1 | refine below_set ?_ (IsS81.ge HI313.out) | refine below_setA ?_ (by assumption)) | exact HB.out)⟩
  ·replace c33 := Bool.eq_false_iff.mpr c33
   subst c33
   have H1 : ((random_at.f 6 (-2)).bind fun bt325 => (some (false, ([] : List Int), 0, 0, bt325.1, bt325.2))) = some (r1, r2, r3, r4, r5, r6) := by rw [if_neg (show ¬ (false = true) by decide)] at H; exact H
   clear H
   have H := H1
   clear H1
   replace H := zB H
   obtain ⟨⟨t325, t326⟩, A1130, H⟩ := H
   replace H : (some (false, ([] : List Int), 0, 0, t325, t326)) = some (r1, r2, r3, r4, r5, r6) := H
   have A113 := zM A1130
   clear A1130
   simp only [Option.some.injEq, Prod.mk.injEq] at H
   obtain ⟨rfl, rfl, rfl, rfl, rfl, rfl⟩ := H
   go_enter Try.func16, Try.ntmps16
   go_wp2_with (first | ((with_reducible refine gate_dst (N := 2) rfl ?_); (try (refine gate_guard (by rfl) ?_; dsimp only)); refine box_event ?hg (N := 2) ?hd (cs := #[.int .u64 a0_0, .int .u64 a0_1]) (t := 27) ?hr ?_; (case hd => rfl); (case hg => rfl); (case hr => first | (go_simp; done) | (go_simp; rfl)); intro gb305 hg w114 hbox hb; have n0_ := zM (below_step (HB.out) hb); have n1_ := zM (hbox); have n2_ := zM ((by rw [hg]; exact (below_size (HB.out)) : w.heap.size ≤ gb305)); have n3_ := zM ((by rw [hg]; exact (below_size (HB.out)) : w.heap.size ≤ gb305)); clear HB; have HB := n0_; have BK305 := n1_; have GW305 := n2_; have GE305 := n3_; clear n0_ n1_ n2_ n3_; clear hb hbox hg) | ((with_reducible refine gate_dst (N := 3) rfl ?_); (try (refine gate_guard (by rfl) ?_; dsimp only)); refine box_event ?hg (N := 3) ?hd (cs := #[.bool a1_0, .slice A1_1 l1_1.length c1_1]) (t := 24) ?hr ?_; (case hd => rfl); (case hg => rfl); (case hr => first | (go_simp; done) | (go_simp; rfl)); intro gb306 hg w115 hbox hb; have BK306 := zM (hbox); have GW306 := zM ((by rw [hg]; exact (below_size (by repeat (first | (with_reducible first | exact HB.out | apply pzA | apply pzD | apply pz1 | apply pzs | assumption) | exact HB.out))) : w.heap.size ≤ gb306)); have GE306 := GW306; have NB305_306 := pzf BK305 hg; have NB306_305 := pzg BK305 hg; replace BK305 := pzb BK305 hb; replace HB := zM (below_step (by repeat (first | (with_reducible first | exact HB.out | apply pzA | apply pzD | apply pz1 | apply pzs | assumption) | exact HB.out)) hb); clear hb hbox hg) | ((with_reducible refine gate_dst (N := 4) rfl ?_); (try (refine gate_guard (by rfl) ?_; dsimp only)); refine box_event ?hg (N := 4) ?hd (cs := #[.bool false, .slice none 0 0]) (t := 24) ?hr ?_; (case hd => rfl); (case hg => rfl); (case hr => first | (go_simp; done) | (go_simp; rfl)); intro gb307 hg w116 hbox hb; have BK307 := zM (hbox); have GW307 := zM ((by rw [hg]; exact (below_size (by repeat (first | (with_reducible first | exact HB.out | apply pzA | apply pzD | apply pz1 | apply pzs | assumption) | exact HB.out))) : w.heap.size ≤ gb307)); have GE307 := GW307; have NB305_307 := pzf BK305 hg; have NB307_305 := pzg BK305 hg; have NB306_307 := pzf BK306 hg; have NB307_306 := pzg BK306 hg; replace BK305 := pzb BK305 hb; replace BK306 := pzb BK306 hb; replace HB := zM (below_step (by repeat (first | (with_reducible first | exact HB.out | apply pzA | apply pzD | apply pz1 | apply pzs | assumption) | exact HB.out)) hb); clear hb hbox hg) | ((with_reducible refine gate_dst (N := 5) rfl ?_); (try (refine gate_guard (by rfl) ?_; dsimp only)); refine box_event ?hg (N := 5) ?hd (cs := #[.int .u64 0, .int .u64 0]) (t := 27) ?hr ?_; (case hd => rfl); (case hg => rfl); (case hr => first | (go_simp; done) | (go_simp; rfl)); intro gb308 hg w117 hbox hb; have BK308 := zM (hbox); have GW308 := zM ((by rw [hg]; exact (below_size (by repeat (first | (with_reducible first | exact HB.out | apply pzA | apply pzD | apply pz1 | apply pzs | assumption) | exact HB.out))) : w.heap.size ≤ gb308)); have GE308 := GW308; have NB305_308 := pzf BK305 hg; have NB308_305 := pzg BK305 hg; have NB306_308 := pzf BK306 hg; have NB308_306 := pzg BK306 hg; have NB307_308 := pzf BK307 hg; have NB308_307 := pzg BK307 hg; replace BK305 := pzb BK305 hb; replace BK306 := pzb BK306 hb; replace BK307 := pzb BK307 hb; replace HB := zM (below_step (by repeat (first | (with_reducible first | exact HB.out | apply pzA | apply pzD | apply pz1 | apply pzs | assumption) | exact HB.out)) hb); clear hb hbox hg) | ((with_reducible refine gate_dst (N := 6) rfl ?_); (try (refine gate_guard (by rfl) ?_; dsimp only)); refine box_event ?hg (N := 6) ?hd (cs := #[.int .i64 0, .int .i64 0]) (t := 29) ?hr ?_; (case hd => rfl); (case hg => rfl); (case hr => first | (go_simp; done) | (go_simp; rfl)); intro gb309 hg w118 hbox hb; have BK309 := zM (hbox); have GW309 := zM ((by rw [hg]; exact (below_size (by repeat (first | (with_reducible first | exact HB.out | apply pzA | apply pzD | apply pz1 | apply pzs | assumption) | exact HB.out))) : w.heap.size ≤ gb309)); have GE309 := GW309; have NB305_309 := pzf BK305 hg; have NB309_305 := pzg BK305 hg; have NB306_309 := pzf BK306 hg; have NB309_306 := pzg BK306 hg; have NB307_309 := pzf BK307 hg; have NB309_307 := pzg BK307 hg; have NB308_309 := pzf BK308 hg; have NB309_308 := pzg BK308 hg; replace BK305 := pzb BK305 hb; replace BK306 := pzb BK306 hb; replace BK307 := pzb BK307 hb; replace BK308 := pzb BK308 hb; replace HB := zM (below_step (by repeat (first | (with_reducible first | exact HB.out | apply pzA | apply pzD | apply pz1 | apply pzs | assumption) | exact HB.out)) hb); clear hb hbox hg; have hnb119 := NB305_306.out; have hnc119 := NB306_305.out; have hnb120 := NB305_307.out; have hnc120 := NB307_305.out; have hnb121 := NB305_308.out; have hnc121 := NB308_305.out; have hnb122 := NB305_309.out; have hnc122 := NB309_305.out; have hcz123_0 := pzc (v := .int .u64 a0_0) BK305 0 rfl; have hcz123_1 := pzc (v := .int .u64 a0_1) BK305 1 rfl; have hfz123_0 := zF BK305.out 0; have hfz123_1 := zF BK305.out 1) | ((with_reducible refine gate_callee (f := 39) rfl ?_); refine goesL_ (some 12) rfl rfl Try.func39 (by kernel_rfl) rfl #[.agg #[.int .u64 a0_0, .int .u64 a0_1]] rfl (by (try simp only [zT, zC, zN]); first | done | rfl | (simp only [zR, zL]; rfl)) ?_; (with_reducible refine (random_open_ok.calls a0_0 a0_1 t311 t312 w _ ?side1 A31.out).mono ?_); (case side1 => repeat (first | (with_reducible first | exact HB.out | apply pzA | apply pzD | apply pz1 | apply pzs | assumption) | exact HB.out)); rintro e w124 ⟨g313, rfl, hi, hb, hb2⟩; refine ⟨_, rfl, ?_⟩; have HI313 := zM (hi); have NB313_305 := zM (IsS81.ne_blk hi (blk_below (g := gb305) (o := .cells #[.int .u64 a0_0, .int .u64 a0_1] 27 (0, 0)) BK305.out hb2) (by decide)); have NB305_313 := zM (Ne.symm (IsS81.ne_blk hi (blk_below (g := gb305) (o := .cells #[.int .u64 a0_0, .int .u64 a0_1] 27 (0, 0)) BK305.out hb2) (by decide))); have NB313_306 := zM (IsS81.ne_blk hi (blk_below (g := gb306) (o := .cells #[.bool a1_0, .slice A1_1 l1_1.length c1_1] 24 (0, 0)) BK306.out hb2) (by decide)); have NB306_313 := zM (Ne.symm (IsS81.ne_blk hi (blk_below (g := gb306) (o := .cells #[.bool a1_0, .slice A1_1 l1_1.length c1_1] 24 (0, 0)) BK306.out hb2) (by decide))); have NB313_307 := zM (IsS81.ne_blk hi (blk_below (g := gb307) (o := .cells #[.bool false, .slice none 0 0] 24 (0, 0)) BK307.out hb2) (by decide)); have NB307_313 := zM (Ne.symm (IsS81.ne_blk hi (blk_below (g := gb307) (o := .cells #[.bool false, .slice none 0 0] 24 (0, 0)) BK307.out hb2) (by decide))); have NB313_308 := zM (IsS81.ne_blk hi (blk_below (g := gb308) (o := .cells #[.int .u64 0, .int .u64 0] 27 (0, 0)) BK308.out hb2) (by decide)); have NB308_313 := zM (Ne.symm (IsS81.ne_blk hi (blk_below (g := gb308) (o := .cells #[.int .u64 0, .int .u64 0] 27 (0, 0)) BK308.out hb2) (by decide))); have NB313_309 := zM (IsS81.ne_blk hi (blk_below (g := gb309) (o := .cells #[.int .i64 0, .int .i64 0] 29 (0, 0)) BK309.out hb2) (by decide)); have NB309_313 := zM (Ne.symm (IsS81.ne_blk hi (blk_below (g := gb309) (o := .cells #[.int .i64 0, .int .i64 0] 29 (0, 0)) BK309.out hb2) (by decide))); replace BK306 := zM (blk_below (g := gb306) (o := .cells #[.bool a1_0, .slice A1_1 l1_1.length c1_1] 24 (0, 0)) BK306.out hb2); replace BK307 := zM (blk_below (g := gb307) (o := .cells #[.bool false, .slice none 0 0] 24 (0, 0)) BK307.out hb2); replace BK308 := zM (blk_below (g := gb308) (o := .cells #[.int .u64 0, .int .u64 0] 27 (0, 0)) BK308.out hb2); replace BK309 := zM (blk_below (g := gb309) (o := .cells #[.int .i64 0, .int .i64 0] 29 (0, 0)) BK309.out hb2); replace HB := zM (hb); (try clear hb); (try clear hb2); (try clear hk); (try clear hi)) | ((with_reducible refine gate_dst (N := 8) rfl ?_); (try (refine gate_guard (by rfl) ?_; dsimp only)); refine box_event ?hg (N := 8) ?hd (cs := #[.int .i64 0, .int .i64 0]) (t := 29) ?hr ?_; (case hd => rfl); (case hg => rfl); (case hr => first | (go_simp; done) | (go_simp; rfl)); intro gb314 hg w125 hbox hb; have BK314 := zM (hbox); have GW314 := zM ((by rw [hg]; exact (below_size (by repeat (first | (with_reducible first | exact HB.out | apply below_alloc | apply pw_below_drewN | apply below_drew1 | refine below_set ?_ (IsS81.ge HI313.out) | refine below_setA ?_ (by assumption)) | exact HB.out))) : w.heap.size ≤ gb314)); have GE314 := GW314; have NB306_314 := pzf BK306 hg; have NB314_306 := pzg BK306 hg; have NB307_314 := pzf BK307 hg; have NB314_307 := pzg BK307 hg; have NB308_314 := pzf BK308 hg; have NB314_308 := pzg BK308 hg; have NB309_314 := pzf BK309 hg; have NB314_309 := pzg BK309 hg; have NB313_314 := zM ((by rw [hg]; exact Nat.ne_of_lt (IsS81.lt (show IsS81 w _ g313 t311 t312 from by repeat (first | (with_reducible first | exact HI313.out | apply IsS81.alloc | apply IsS81.drewN | apply IsS81.drew | apply IsS81.set_0 | apply IsS81.set_1 | refine IsS81.far ?_ NB313_305.out _ | refine IsS81.far ?_ NB313_306.out _ | refine IsS81.far ?_ NB313_307.out _ | refine IsS81.far ?_ NB313_308.out _ | refine IsS81.far ?_ NB313_309.out _) | exact HI313.out))) : g313 ≠ gb314)); replace BK306 := pzb BK306 hb; replace BK307 := pzb BK307 hb; replace BK308 := pzb BK308 hb; replace BK309 := pzb BK309 hb; replace HB := zM (below_step (by repeat (first | (with_reducible first | exact HB.out | apply below_alloc | apply pw_below_drewN | apply below_drew1 | refine below_set ?_ (IsS81.ge HI313.out) | refine below_setA ?_ (by assumption)) | exact HB.out)) hb); replace HI313 := zM (IsS81.below (by repeat (first | (with_reducible first | exact HI313.out | apply IsS81.alloc | apply IsS81.drewN | apply IsS81.drew | apply IsS81.set_0 | apply IsS81.set_1 | refine IsS81.far ?_ NB313_305.out _ | refine IsS81.far ?_ NB313_306.out _ | refine IsS81.far ?_ NB313_307.out _ | refine IsS81.far ?_ NB313_308.out _ | refine IsS81.far ?_ NB313_309.out _) | exact HI313.out)) hb); clear hb hbox hg; have hnb127 := NB314_306.out; have hnc127 := NB306_314.out; have hnb128 := NB314_307.out; have hnc128 := NB307_314.out; have hnb129 := NB314_308.out; have hnc129 := NB308_314.out; have hnb130 := NB314_309.out; have hnc130 := NB309_314.out; have hcz132_0 := pzc (v := .int .i64 0) BK314 0 rfl; have hcz132_1 := pzc (v := .int .i64 0) BK314 1 rfl; have hfz132_0 := zF BK314.out 0; have hfz132_1 := zF BK314.out 1; have hnb133 := NB306_307.out; have hnc133 := NB307_306.out; have hnb134 := NB306_308.out; have hnc134 := NB308_306.out; have hnb135 := NB306_309.out; have hnc135 := NB309_306.out; have hcz137_0 := pzc (v := .bool a1_0) BK306 0 rfl; have hcz137_1 := pzc (v := .slice A1_1 l1_1.length c1_1) BK306 1 rfl; have hfz137_0 := zF BK306.out 0; have hfz137_1 := zF BK306.out 1) | ((with_reducible refine gate_callee (f := 36) rfl ?_); refine goesL_ (some 24) rfl rfl Try.func36 (by kernel_rfl) rfl #[.agg #[.bool a1_0, .slice A1_1 l1_1.length c1_1]] rfl (by (try simp only [zT, zC, zN]); first | done | rfl | (simp only [zR, zL]; rfl)) ?_; (with_reducible refine (integer_Valid.calls a1_0 _ _ l1_1 false _ ?side1 ?side2 A32.out).mono ?_); (case side1 => exact Kd.C_below HR1_1.out (by repeat (first | (with_reducible first | exact HB.out | apply below_alloc | apply pw_below_drewN | apply below_drew1 | refine below_set ?_ (IsS81.ge HI313.out) | refine below_setA ?_ (by assumption)) | exact HB.out))); (case side2 => exact HC1_1.out); rintro e w138 ⟨rfl, hb⟩; refine ⟨_, rfl, ?_⟩; replace BK307 := zM (blk_below (g := gb307) (o := .cells #[.bool false, .slice none 0 0] 24 (0, 0)) (by (with_reducible repeat (first | apply pzN | apply pzd | apply pza)); refine blk_far ?_ NB307_314.out _; (with_reducible repeat (first | apply pzN | apply pzd | apply pza)); refine blk_far ?_ NB307_314.out _; (with_reducible repeat (first | apply pzN | apply pzd | apply pza)); exact BK307.out) hb); replace BK308 := zM (blk_below (g := gb308) (o := .cells #[.int .u64 0, .int .u64 0] 27 (0, 0)) (by (with_reducible repeat (first | apply pzN | apply pzd | apply pza)); refine blk_far ?_ NB308_314.out _; (with_reducible repeat (first | apply pzN | apply pzd | apply pza)); refine blk_far ?_ NB308_314.out _; (with_reducible repeat (first | apply pzN | apply pzd | apply pza)); exact BK308.out) hb); replace BK309 := zM (blk_below (g := gb309) (o := .cells #[.int .i64 0, .int .i64 0] 29 (0, 0)) (by (with_reducible repeat (first | apply pzN | apply pzd | apply pza)); refine blk_far ?_ NB309_314.out _; (with_reducible repeat (first | apply pzN | apply pzd | apply pza)); refine blk_far ?_ NB309_314.out _; (with_reducible repeat (first | apply pzN | apply pzd | apply pza)); exact BK309.out) hb); replace HB := zM (below_step (by repeat (first | (with_reducible first | exact HB.out | apply below_alloc | apply pw_below_drewN | apply below_drew1 | refine below_set ?_ (IsS81.ge HI313.out) | refine below_setA ?_ (by assumption)) | exact HB.out)) hb); replace HI313 := zM (IsS81.below (show IsS81 w ((w125.setCell ⟨gb314, 0, none⟩ (.int .i64 0)).setCell ⟨gb314, 1, none⟩ (.int .i64 0)) g313 t311 t312 from by repeat (first | (with_reducible first | exact HI313.out | apply IsS81.alloc | apply IsS81.drewN | apply IsS81.drew | apply IsS81.set_0 | apply IsS81.set_1 | refine IsS81.far ?_ NB313_305.out _ | refine IsS81.far ?_ NB313_306.out _ | refine IsS81.far ?_ NB313_307.out _ | refine IsS81.far ?_ NB313_308.out _ | refine IsS81.far ?_ NB313_309.out _ | refine IsS81.far ?_ NB313_314.out _) | exact HI313.out)) hb); (try clear hb); (try clear hb2); (try clear hk); (try clear hi)) | ((with_reducible refine gate_callee (f := 37) rfl ?_); refine goesL_ (some 28) rfl rfl Try.func37 (by kernel_rfl) rfl #[.int .i64 6, .int .i64 (-2)] rfl (by (try simp only [zT, zC, zN]); first | done | rfl | (simp only [zR, zL]; rfl)) ?_; (with_reducible refine (random_at.calls 6 (-2) t325 t326 _ A113.out).mono ?_); rintro e w139 ⟨rfl, hb⟩; refine ⟨_, rfl, ?_⟩; replace BK307 := pzb BK307 hb; replace BK308 := pzb BK308 hb; replace BK309 := pzb BK309 hb; replace HB := zM (below_step (by repeat (first | (with_reducible first | exact HB.out | apply below_alloc | apply pw_below_drewN | apply below_drew1 | refine below_set ?_ (IsS81.ge HI313.out) | refine below_setA ?_ (by assumption)) | exact HB.out)) hb); replace HI313 := zM (IsS81.below (by repeat (first | (with_reducible first | exact HI313.out | apply IsS81.alloc | apply IsS81.drewN | apply IsS81.drew | apply IsS81.set_0 | apply IsS81.set_1 | refine IsS81.far ?_ NB313_305.out _ | refine IsS81.far ?_ NB313_306.out _ | refine IsS81.far ?_ NB313_307.out _ | refine IsS81.far ?_ NB313_308.out _ | refine IsS81.far ?_ NB313_309.out _ | refine IsS81.far ?_ NB313_314.out _) | exact HI313.out)) hb); (try clear hb); (try clear hb2); (try clear hk); (try clear hi); have hnb140 := NB307_308.out; have hnc140 := NB308_307.out; have hnb141 := NB307_309.out; have hnc141 := NB309_307.out; have hcz143_0 := pzc (v := .bool false) BK307 0 rfl; have hcz143_1 := pzc (v := .slice none 0 0) BK307 1 rfl; have hfz143_0 := zF BK307.out 0; have hfz143_1 := zF BK307.out 1; have hnb144 := NB308_309.out; have hnc144 := NB309_308.out; have hcz146_0 := pzc (v := .int .u64 0) BK308 0 rfl; have hcz146_1 := pzc (v := .int .u64 0) BK308 1 rfl; have hfz146_0 := zF BK308.out 0; have hfz146_1 := zF BK308.out 1; have hcz148_0 := pzc (v := .int .i64 0) BK309 0 rfl; have hcz148_1 := pzc (v := .int .i64 0) BK309 1 rfl; have hfz148_0 := zF BK309.out 0; have hfz148_1 := zF BK309.out 1))
   refine bodyPost_ret (results_list (rs := [.cell 4 24, .cell 5 27, .cell 6 29]) rfl (by simp) (.cell gb307 24 #[.bool false, .slice none 0 0] (0, 0) _ rfl (by (with_reducible repeat (first | apply pzN | apply pzd | apply pza)); refine blk_far ?_ NB307_309.out _; (with_reducible repeat (first | apply pzN | apply pzd | apply pza)); refine blk_far ?_ NB307_309.out _; (with_reducible repeat (first | apply pzN | apply pzd | apply pza)); refine blk_far ?_ NB307_308.out _; (with_reducible repeat (first | apply pzN | apply pzd | apply pza)); refine blk_far ?_ NB307_308.out _; (with_reducible repeat (first | apply pzN | apply pzd | apply pza)); refine blk_put (cs := #[.bool false, .slice none 0 0]) ?_ 1 _ rfl; (with_reducible repeat (first | apply pzN | apply pzd | apply pza)); refine blk_put (cs := #[.bool false, .slice none 0 0]) ?_ 0 _ rfl; (with_reducible repeat (first | apply pzN | apply pzd | apply pza)); exact BK307.out) Try.underlying24 rfl (by kernel_rfl) (.cell gb308 27 #[.int .u64 0, .int .u64 0] (0, 0) _ rfl (by (with_reducible repeat (first | apply pzN | apply pzd | apply pza)); refine blk_far ?_ NB308_309.out _; (with_reducible repeat (first | apply pzN | apply pzd | apply pza)); refine blk_far ?_ NB308_309.out _; (with_reducible repeat (first | apply pzN | apply pzd | apply pza)); refine blk_put (cs := #[.int .u64 0, .int .u64 0]) ?_ 1 _ rfl; (with_reducible repeat (first | apply pzN | apply pzd | apply pza)); refine blk_put (cs := #[.int .u64 0, .int .u64 0]) ?_ 0 _ rfl; (with_reducible repeat (first | apply pzN | apply pzd | apply pza)); refine blk_far ?_ NB308_307.out _; (with_reducible repeat (first | apply pzN | apply pzd | apply pza)); refine blk_far ?_ NB308_307.out _; (with_reducible repeat (first | apply pzN | apply pzd | apply pza)); exact BK308.out) Try.underlying27 rfl (by kernel_rfl) (.cell gb309 29 #[.int .i64 t325, .int .i64 t326] (0, 0) _ rfl (by (with_reducible repeat (first | apply pzN | apply pzd | apply pza)); refine blk_put (cs := #[.int .i64 t325, .int .i64 0]) ?_ 1 _ rfl; (with_reducible repeat (first | apply pzN | apply pzd | apply pza)); refine blk_put (cs := #[.int .i64 0, .int .i64 0]) ?_ 0 _ rfl; (with_reducible repeat (first | apply pzN | apply pzd | apply pza)); refine blk_far ?_ NB309_308.out _; (with_reducible repeat (first | apply pzN | apply pzd | apply pza)); refine blk_far ?_ NB309_308.out _; (with_reducible repeat (first | apply pzN | apply pzd | apply pza)); refine blk_far ?_ NB309_307.out _; (with_reducible repeat (first | apply pzN | apply pzd | apply pza)); refine blk_far ?_ NB309_307.out _; (with_reducible repeat (first | apply pzN | apply pzd | apply pza)); exact BK309.out) Try.underlying29 rfl (by kernel_rfl) .nil)))) rfl ?_
   exact ⟨_, by first | rfl | (simp [errW_none, errW_some] <;> rfl) | (simp [*, errW_none, errW_some] <;> rfl), by first | exact Kd.R_nil _ _ _ _ _ | exact Kd.N_nil _ _ _ _ _ | exact Kd.V_nil _ _ _ _ _ | exact Kd.Q_nil _ _ _ _ _ | exact Kd.S_nil _ _ _ _ _, by repeat (first | (with_reducible first | exact HB.out | apply below_alloc | apply pw_below_drewN | apply below_drew1 | refine below_set ?_ (IsS81.ge HI313.out) | refine below_setA ?_ (by assumption)) | exact HB.out)⟩

/-! ### brindlewoodref3_NoInt: function 18 -/
def brindlewoodref3_NoInt.f (a0_0 : Bool) (l0_1 : List Int) : Option (Bool) := if a0_0 = true then (some false) else (some ((l0_1.length : Int) == 0))
set_option maxHeartbeats 60000000 in
set_option maxRecDepth 100000 in
theorem brindlewoodref3_NoInt.calls (a0_0 : Bool) (A0_1 : Option Addr) (c0_1 : Nat) (l0_1 : List Int) (r : Bool) (w : World) (hr0_1 : Kd.C (Kd.int .u32) w A0_1 l0_1.length l0_1) (hc0_1 : l0_1.length ≤ c0_1) (h : brindlewoodref3_NoInt.f a0_0 l0_1 = some r) :
  Calls Try.prog 18 #[.agg #[.bool a0_0, .slice A0_1 l0_1.length c0_1]] w fun e w' => e = .returned (.bool r) ∧ Below w.heap.size w w' := by
 have hu24 := Try.underlying24
 have HR0_1 := zM hr0_1
 have HC0_1 := zM hc0_1
 clear hr0_1 hc0_1
 have HB := zM (Below.refl w.heap.size w)
 have H : (if a0_0 = true then (some false) else (some ((l0_1.length : Int) == 0))) = some r := h
 clear h
 by_cases c2 : a0_0 = true
 ·subst c2
  have H1 : (some false) = some r := by rw [if_pos rfl] at H; exact H
  clear H
  have H := H1
  clear H1
  obtain rfl := Option.some.inj H
  go_enter Try.func18, Try.ntmps18
  go_wp2_with (first | ((with_reducible refine gate_dst (N := 1) rfl ?_); (try (refine gate_guard (by rfl) ?_; dsimp only)); refine box_event ?hg (N := 1) ?hd (cs := #[.bool true, .slice A0_1 l0_1.length c0_1]) (t := 24) ?hr ?_; (case hd => rfl); (case hg => rfl); (case hr => first | (go_simp; done) | (go_simp; rfl)); intro gb327 hg w3 hbox hb; have BK327 := zM (hbox); have GW327 := zM ((by rw [hg]; exact (below_size (HB.out)) : w.heap.size ≤ gb327)); have GE327 := GW327; replace HB := zM (below_step (HB.out) hb); clear hb hbox hg; have hcz4_0 := pzc (v := .bool true) BK327 0 rfl; have hcz4_1 := pzc (v := .slice A0_1 l0_1.length c0_1) BK327 1 rfl; have hfz4_0 := zF BK327.out 0; have hfz4_1 := zF BK327.out 1))
  go_ret
  exact ⟨by first | rfl | (simp [errW_none, errW_some] <;> rfl) | (simp [*, errW_none, errW_some] <;> rfl), by repeat (first | (with_reducible first | exact HB.out | apply pzA | apply pzD | apply pz1 | apply pzs | assumption) | exact HB.out)⟩
 ·replace c2 := Bool.eq_false_iff.mpr c2
  subst c2
  have H1 : (some ((l0_1.length : Int) == 0)) = some r := by rw [if_neg (show ¬ (false = true) by decide)] at H; exact H
  clear H
  have H := H1
  clear H1
  obtain rfl := Option.some.inj H
  go_enter Try.func18, Try.ntmps18
  go_wp2_with (first | ((with_reducible refine gate_dst (N := 1) rfl ?_); (try (refine gate_guard (by rfl) ?_; dsimp only)); refine box_event ?hg (N := 1) ?hd (cs := #[.bool false, .slice A0_1 l0_1.length c0_1]) (t := 24) ?hr ?_; (case hd => rfl); (case hg => rfl); (case hr => first | (go_simp; done) | (go_simp; rfl)); intro gb327 hg w5 hbox hb; have BK327 := zM (hbox); have GW327 := zM ((by rw [hg]; exact (below_size (HB.out)) : w.heap.size ≤ gb327)); have GE327 := GW327; replace HB := zM (below_step (HB.out) hb); clear hb hbox hg; have hcz6_0 := pzc (v := .bool false) BK327 0 rfl; have hcz6_1 := pzc (v := .slice A0_1 l0_1.length c0_1) BK327 1 rfl; have hfz6_0 := zF BK327.out 0; have hfz6_1 := zF BK327.out 1))
  go_ret
  exact ⟨by first | rfl | (simp [errW_none, errW_some] <;> rfl) | (simp [*, errW_none, errW_some] <;> rfl), by repeat (first | (with_reducible first | exact HB.out | apply pzA | apply pzD | apply pz1 | apply pzs | assumption) | exact HB.out)⟩

/-! ### brindlewoodlaw4_whole: function 41 -/
def brindlewoodlaw4_whole.f (k : Nat) (a0 : Int) : Option (Int × Bool × List Int × Bool × List Int × ByteArray × Int) := (integer_Of.f k a0).bind fun bt329 => (some (2, bt329.1, bt329.2, false, ([] : List Int), (⟨#[]⟩ : ByteArray), 0))
theorem brindlewoodlaw4_whole.mono : ∀ a0 k, LeO (brindlewoodlaw4_whole.f k a0) (brindlewoodlaw4_whole.f (k + 1) a0) := by
 intro a0 k
 unfold brindlewoodlaw4_whole.f
 repeat' first
   | (with_reducible exact integer_Of.mono _ _)
   | (with_reducible exact LeO.refl _)
   | (with_reducible exact LeO.none _)
   | (with_reducible refine LeO.ite ?_ ?_)
   | (with_reducible refine LeO.bind ?_ (fun _ => ?_))
   | exact integer_Of.mono _ _
   | exact LeO.none _
   | refine LeO.ite ?_ ?_
   | refine LeO.bind ?_ (fun _ => ?_)
set_option maxHeartbeats 60000000 in
set_option maxRecDepth 100000 in
theorem brindlewoodlaw4_whole.calls (k : Nat) (a0 : Int) (r1 : Int) (r2 : Bool) (r3 : List Int) (r4 : Bool) (r5 : List Int) (r6 : ByteArray) (r7 : Int) (w : World) (h : brindlewoodlaw4_whole.f k a0 = some (r1, r2, r3, r4, r5, r6, r7)) :
  Calls Try.prog 41 #[.int .i64 a0] w fun e w' => ∃ v2_ v4_ : Value, e = .returned (.agg #[.int .i64 r1, .bool r2, v2_, .bool r4, v4_, .string r6, .int .i64 r7]) ∧ Kd.R (Kd.int .u32) 76 w' w.heap.size (fun k_ => some k_ ≠ (v4_ : Value).ownBlock) v2_ r3 ∧ Kd.R (Kd.int .u32) 76 w' w.heap.size (fun k_ => some k_ ≠ (v2_ : Value).ownBlock) v4_ r5 ∧ Below w.heap.size w w' := by
 have hu84 := Try.underlying84
 have HB := zM (Below.refl w.heap.size w)
 have H : ((integer_Of.f k a0).bind fun bt329 => (some (2, bt329.1, bt329.2, false, ([] : List Int), (⟨#[]⟩ : ByteArray), 0))) = some (r1, r2, r3, r4, r5, r6, r7) := h
 clear h
 replace H := zB H
 obtain ⟨⟨t329, t330⟩, A20, H⟩ := H
 replace H : (some (2, t329, t330, false, ([] : List Int), (⟨#[]⟩ : ByteArray), 0)) = some (r1, r2, r3, r4, r5, r6, r7) := H
 have A2 := zM A20
 clear A20
 simp only [Option.some.injEq, Prod.mk.injEq] at H
 obtain ⟨rfl, rfl, rfl, rfl, rfl, rfl, rfl⟩ := H
 go_enter Try.func41, Try.ntmps41
 go_wp2_with (first | ((with_reducible refine gate_dst (N := 2) rfl ?_); refine box_event ?hg (N := 2) ?hd (cs := #[.int .i64 0, .bool false, .slice none 0 0, .bool false, .slice none 0 0, .string (⟨#[]⟩ : ByteArray), .int .i64 0]) (t := 84) ?hr ?_; (case hd => rfl); (case hg => rfl); (case hr => first | (go_simp; done) | (go_simp; rfl)); intro gb328 hg w3 hbox hb; have BK328 := zM (hbox); have GW328 := zM ((by rw [hg]; exact (below_size (HB.out)) : w.heap.size ≤ gb328)); have GE328 := GW328; replace HB := zM (below_step (HB.out) hb); clear hb hbox hg) | ((with_reducible refine gate_callee (f := 47) rfl ?_); refine goesL_ (some 4) rfl rfl Try.func47 (by kernel_rfl) rfl #[.int .i64 a0] rfl (by (try simp only [zT, zC, zN]); first | done | rfl | (simp only [zR, zL]; rfl)) ?_; (with_reducible refine (integer_Of.calls k a0 t329 t330 _ A2.out).mono ?_); rintro e w4 ⟨v331, rfl, ho0, hb⟩; refine ⟨_, rfl, ?_⟩; have HO332 := zM (Kd.R_lower ho0 (below_size (by repeat (first | (with_reducible first | exact HB.out | apply pzA | apply pzD | apply pz1 | apply pzs | assumption) | exact HB.out)))); replace BK328 := zM (blk_below (g := gb328) (o := .cells #[.int .i64 0, .bool false, .slice none 0 0, .bool false, .slice none 0 0, .string (⟨#[]⟩ : ByteArray), .int .i64 0] 84 (0, 0)) BK328.out hb); replace HB := zM (below_step (by repeat (first | (with_reducible first | exact HB.out | apply pzA | apply pzD | apply pz1 | apply pzs | assumption) | exact HB.out)) hb); (try clear hb); (try clear hb2); (try clear hk); (try clear hi); (try clear ho0); obtain ⟨Ao5, co5, eo5⟩ := Kd.R_slice HO332.out; subst eo5; have hcz6_0 := pzc (v := .int .i64 0) BK328 0 rfl; have hcz6_1 := pzc (v := .bool false) BK328 1 rfl; have hcz6_2 := pzc (v := .slice none 0 0) BK328 2 rfl; have hcz6_3 := pzc (v := .bool false) BK328 3 rfl; have hcz6_4 := pzc (v := .slice none 0 0) BK328 4 rfl; have hcz6_5 := pzc (v := .string (⟨#[]⟩ : ByteArray)) BK328 5 rfl; have hcz6_6 := pzc (v := .int .i64 0) BK328 6 rfl; have hfz6_0 := zF BK328.out 0; have hfz6_1 := zF BK328.out 1; have hfz6_2 := zF BK328.out 2; have hfz6_3 := zF BK328.out 3; have hfz6_4 := zF BK328.out 4; have hfz6_5 := zF BK328.out 5; have hfz6_6 := zF BK328.out 6))
 refine bodyPost_ret (results_cell_row rfl _ _ gb328 84 #[.int .i64 2, .bool t329, .slice Ao5 t330.length co5, .bool false, .slice none 0 0, .string (⟨#[]⟩ : ByteArray), .int .i64 0] (0, 0) _ rfl (by (with_reducible repeat (first | apply pzN | apply pzd | apply pza)); refine blk_put (cs := #[.int .i64 2, .bool t329, .slice Ao5 t330.length co5, .bool false, .slice none 0 0, .string (⟨#[]⟩ : ByteArray), .int .i64 0]) ?_ 6 _ rfl; (with_reducible repeat (first | apply pzN | apply pzd | apply pza)); refine blk_put (cs := #[.int .i64 2, .bool t329, .slice Ao5 t330.length co5, .bool false, .slice none 0 0, .string (⟨#[]⟩ : ByteArray), .int .i64 0]) ?_ 5 _ rfl; (with_reducible repeat (first | apply pzN | apply pzd | apply pza)); refine blk_put (cs := #[.int .i64 2, .bool t329, .slice Ao5 t330.length co5, .bool false, .slice none 0 0, .string (⟨#[]⟩ : ByteArray), .int .i64 0]) ?_ 4 _ rfl; (with_reducible repeat (first | apply pzN | apply pzd | apply pza)); refine blk_put (cs := #[.int .i64 2, .bool t329, .slice Ao5 t330.length co5, .bool false, .slice none 0 0, .string (⟨#[]⟩ : ByteArray), .int .i64 0]) ?_ 3 _ rfl; (with_reducible repeat (first | apply pzN | apply pzd | apply pza)); refine blk_put (cs := #[.int .i64 2, .bool t329, .slice none 0 0, .bool false, .slice none 0 0, .string (⟨#[]⟩ : ByteArray), .int .i64 0]) ?_ 2 _ rfl; (with_reducible repeat (first | apply pzN | apply pzd | apply pza)); refine blk_put (cs := #[.int .i64 2, .bool false, .slice none 0 0, .bool false, .slice none 0 0, .string (⟨#[]⟩ : ByteArray), .int .i64 0]) ?_ 1 _ rfl; (with_reducible repeat (first | apply pzN | apply pzd | apply pza)); refine blk_put (cs := #[.int .i64 0, .bool false, .slice none 0 0, .bool false, .slice none 0 0, .string (⟨#[]⟩ : ByteArray), .int .i64 0]) ?_ 0 _ rfl; (with_reducible repeat (first | apply pzN | apply pzd | apply pza)); exact BK328.out) Try.underlying84 rfl (by kernel_rfl)) rfl ?_
 exact ⟨_, _, by first | rfl | (simp [errW_none, errW_some] <;> rfl) | (simp [*, errW_none, errW_some] <;> rfl), by (with_reducible repeat (first | apply Kd.R_alloc | apply Kd.R_drewN | apply Kd.R_drew)); exact Kd.R_mono (Kd.R_far (p := ⟨gb328, 6, none⟩) (Kd.R_far (p := ⟨gb328, 5, none⟩) (Kd.R_far (p := ⟨gb328, 4, none⟩) (Kd.R_far (p := ⟨gb328, 3, none⟩) (Kd.R_far (p := ⟨gb328, 2, none⟩) (Kd.R_far (p := ⟨gb328, 1, none⟩) (Kd.R_far (p := ⟨gb328, 0, none⟩) (Kd.R_types HO332.out BK328.out (by decide)) (fun _ hk => hk.2) (.int .i64 2)) (fun _ hk => hk.2) (.bool t329)) (fun _ hk => hk.2) (.slice Ao5 t330.length co5)) (fun _ hk => hk.2) (.bool false)) (fun _ hk => hk.2) (.slice none 0 0)) (fun _ hk => hk.2) (.string (⟨#[]⟩ : ByteArray))) (fun _ hk => hk.2) (.int .i64 0)) (fun _ hk => (by simp [Value.ownBlock])), by first | exact Kd.R_nil _ _ _ _ _ | exact Kd.N_nil _ _ _ _ _ | exact Kd.V_nil _ _ _ _ _ | exact Kd.Q_nil _ _ _ _ _ | exact Kd.S_nil _ _ _ _ _, by repeat (first | (with_reducible first | exact HB.out | apply pzA | apply pzD | apply pz1 | apply pzs | assumption) | exact HB.out)⟩

end Go.Proofs.Ytkhiohlfdkkhdaa.P
