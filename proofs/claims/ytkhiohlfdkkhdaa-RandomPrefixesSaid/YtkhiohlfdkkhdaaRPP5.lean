-- Written by the session's own program wip/tools/mp.py (over the kit's print) out of the translation. Not trusted: Lean checks it.
import Derived.Test.YtkhiohlfdkkhdaaRPP0
import Derived.Test.YtkhiohlfdkkhdaaRPP2
import Derived.Test.YtkhiohlfdkkhdaaRPP3
import Derived.Test.YtkhiohlfdkkhdaaRPP4
namespace Go.Proofs.Ytkhiohlfdkkhdaa.P
open Go.RowKit Go.Proofs.YtkhiohlfdkkhdaaW.PrintWords Go.Proofs.YtkhiohlfdkkhdaaW.PrintLast Go.Proofs.YtkhiohlfdkkhdaaW.PrintMore
attribute [local go_sem] max2_int min2_int max_two min_two max_three min_three max_four min_four   -- for this text's walks alone
set_option linter.unusedVariables false
set_option linter.unusedSimpArgs false

/-! ### random_source_below: function 43 -/
def random_source_below.l0 : Nat → Int → Int → Int → Bool → List Int → Option (Bool × List Int × Int × Int)
 | 0, _, _, _, _, _ => none
 | k + 1, x7, x1000, x1001, x269000, x269001 => (random_source_bits.f k x1000 x1001 x7).bind fun bt286 => ((integer_Cmp.f k bt286.1 bt286.2.1 x269000 x269001).bind fun bt293 => (if bt293.1 < 0 then (some (bt286.1, bt286.2.1, bt286.2.2.1, bt286.2.2.2)) else (random_source_below.l0 k x7 bt286.2.2.1 bt286.2.2.2 x269000 x269001)))
def random_source_below.f (k : Nat) (s0_0 : Int) (s0_1 : Int) (a1_0 : Bool) (l1_1 : List Int) : Option (Bool × List Int × Int × Int) := (integer_Of.f k 1).bind fun bt270 => ((integer_Sub.f k a1_0 l1_1 bt270.1 bt270.2).bind fun bt274 => ((integer_Bits.f k bt274.1 bt274.2.1).bind fun bt282 => (random_source_below.l0 k bt282.1 s0_0 s0_1 a1_0 l1_1)))
theorem random_source_below.mono_l : ∀ k, (∀ y0 y1 y2 y3 y4, LeO (random_source_below.l0 k y0 y1 y2 y3 y4) (random_source_below.l0 (k + 1) y0 y1 y2 y3 y4))
 | 0 => fun _ _ _ _ _ r h => by simp [random_source_below.l0] at h
 | k + 1 => by
  have ih0 := random_source_below.mono_l k
  ·intro y0 y1 y2 y3 y4
   unfold random_source_below.l0
   repeat' first
   | (with_reducible exact ih0 _ _ _ _ _)
   | (with_reducible exact integer_Bits.mono _ _ _)
   | (with_reducible exact integer_Cmp.mono _ _ _ _ _)
   | (with_reducible exact integer_Of.mono _ _)
   | (with_reducible exact integer_Sub.mono _ _ _ _ _)
   | (with_reducible exact random_source_bits.mono _ _ _ _)
   | (with_reducible exact LeO.refl _)
   | (with_reducible exact LeO.none _)
   | (with_reducible refine LeO.ite ?_ ?_)
   | (with_reducible refine LeO.bind ?_ (fun _ => ?_))
   | exact ih0 _ _ _ _ _
   | exact integer_Bits.mono _ _ _
   | exact integer_Cmp.mono _ _ _ _ _
   | exact integer_Of.mono _ _
   | exact integer_Sub.mono _ _ _ _ _
   | exact random_source_bits.mono _ _ _ _
   | exact LeO.none _
   | refine LeO.ite ?_ ?_
   | refine LeO.bind ?_ (fun _ => ?_)
theorem random_source_below.mono : ∀ a0 a1 a2 a3 k, LeO (random_source_below.f k a0 a1 a2 a3) (random_source_below.f (k + 1) a0 a1 a2 a3) := by
 intro a0 a1 a2 a3 k
 have ih0 := random_source_below.mono_l k
 unfold random_source_below.f
 repeat' first
   | (with_reducible exact ih0 _ _ _ _ _)
   | (with_reducible exact integer_Bits.mono _ _ _)
   | (with_reducible exact integer_Cmp.mono _ _ _ _ _)
   | (with_reducible exact integer_Of.mono _ _)
   | (with_reducible exact integer_Sub.mono _ _ _ _ _)
   | (with_reducible exact random_source_bits.mono _ _ _ _)
   | (with_reducible exact LeO.refl _)
   | (with_reducible exact LeO.none _)
   | (with_reducible refine LeO.ite ?_ ?_)
   | (with_reducible refine LeO.bind ?_ (fun _ => ?_))
   | exact ih0 _ _ _ _ _
   | exact integer_Bits.mono _ _ _
   | exact integer_Cmp.mono _ _ _ _ _
   | exact integer_Of.mono _ _
   | exact integer_Sub.mono _ _ _ _ _
   | exact random_source_bits.mono _ _ _ _
   | exact LeO.none _
   | refine LeO.ite ?_ ?_
   | refine LeO.bind ?_ (fun _ => ?_)
def random_source_below.T1 : Bool × List (List Nat × List Nat) := (true, [([], []), ([], []), ([0, 1, 1], [0, 1]), ([2], [2]), ([3], [3]), ([3], [3]), ([], []), ([], []), ([6, 4, 2, 0, 1, 2, 3, 4, 6, 7], [4, 6]), ([7, 5, 8, 0, 1, 2, 3, 4, 5, 6, 7, 8], [5, 7])])
def random_source_below.B1 : List Nat := [0, 0, 3, 7, 15, 15, 0, 0, 223, 511]
theorem random_source_below.tab1 : rtab .any (opsOf Try.f43 1) = random_source_below.T1 := by kernel_rfl
theorem random_source_below.bits1 : waitsOk random_source_below.T1.2 random_source_below.B1 = true := by kernel_rfl
set_option maxHeartbeats 60000000 in
set_option maxRecDepth 100000 in
theorem random_source_below.calls (k : Nat) (g : Nat) (s0_0 : Int) (s0_1 : Int) (a1_0 : Bool) (A1_1 : Option Addr) (c1_1 : Nat) (l1_1 : List Int) (r1 : Bool) (r2 : List Int) (r3 : Int) (r4 : Int) (w0 w : World) (hI : IsS81 w0 w g s0_0 s0_1) (hB : Below w0.heap.size w0 w) (hr1_1 : Kd.C (Kd.int .u32) w A1_1 l1_1.length l1_1) (hc1_1 : l1_1.length ≤ c1_1) (hf1_1 : ∀ ad, A1_1 = some ad → 0 < l1_1.length → ad.block ≠ g) (h : random_source_below.f k s0_0 s0_1 a1_0 l1_1 = some (r1, r2, r3, r4)) :
  Calls Try.prog 43 #[.pointer (some ⟨g, 0, none⟩), .agg #[.bool a1_0, .slice A1_1 l1_1.length c1_1]] w fun e w' => ∃ v1_ : Value, e = .returned (.agg #[.bool r1, v1_]) ∧ Kd.R (Kd.int .u32) 76 w' w.heap.size (fun _ => True) v1_ r2 ∧ IsS81 w0 w' g r3 r4 ∧ Below w0.heap.size w0 w' ∧ KeepBut w w' g none := by
 have hu24 := Try.underlying24
 have hu29 := Try.underlying29
 have HR1_1 := zM hr1_1
 have HC1_1 := zM hc1_1
 clear hr1_1 hc1_1
 have HI0 := zM hI
 have HK := zM (KeepBut.refl w g none)
 have HL := zM hB.size
 clear hI
 have HW0 := zM hB.size
 have HB := zM hB
 clear hB
 have H : ((integer_Of.f k 1).bind fun bt270 => ((integer_Sub.f k a1_0 l1_1 bt270.1 bt270.2).bind fun bt274 => ((integer_Bits.f k bt274.1 bt274.2.1).bind fun bt282 => (random_source_below.l0 k bt282.1 s0_0 s0_1 a1_0 l1_1)))) = some (r1, r2, r3, r4) := h
 clear h
 replace H := zB H
 obtain ⟨⟨t270, t271⟩, A30, H⟩ := H
 replace H : ((integer_Sub.f k a1_0 l1_1 t270 t271).bind fun bt274 => ((integer_Bits.f k bt274.1 bt274.2.1).bind fun bt282 => (random_source_below.l0 k bt282.1 s0_0 s0_1 a1_0 l1_1))) = some (r1, r2, r3, r4) := H
 have A3 := zM A30
 clear A30
 replace H := zB H
 obtain ⟨⟨t274, t275, t278, t279⟩, A40, H⟩ := H
 replace H : ((integer_Bits.f k t274 t275).bind fun bt282 => (random_source_below.l0 k bt282.1 s0_0 s0_1 a1_0 l1_1)) = some (r1, r2, r3, r4) := H
 have A4 := zM A40
 clear A40
 replace H := zB H
 obtain ⟨⟨t282, t283, t284⟩, A50, H⟩ := H
 replace H : (random_source_below.l0 k t282 s0_0 s0_1 a1_0 l1_1) = some (r1, r2, r3, r4) := H
 have A5 := zM A50
 clear A50
 have H' := zM H
 clear H
 go_enter Try.func43, Try.ntmps43
 try go_wp2_with (first | ((with_reducible refine gate_dst (N := 3) rfl ?_); refine box_event ?hg (N := 3) ?hd (cs := #[.bool a1_0, .slice A1_1 l1_1.length c1_1]) (t := 24) ?hr ?_; (case hd => rfl); (case hg => rfl); (case hr => first | (go_simp; done) | (go_simp; rfl)); intro gb268 hg w6 hbox hb; have BK268 := zM (hbox); have GW268 := zM ((by rw [hg]; exact (keep_size (w := w) (g := g) (row := none) (HK.out)) : w.heap.size ≤ gb268)); have GE268 := zM ((Nat.le_trans HW0.out (by rw [hg]; exact (keep_size (w := w) (g := g) (row := none) (HK.out)) : w.heap.size ≤ gb268) : w0.heap.size ≤ gb268)); have NB0_268 := zM ((by rw [hg]; exact Nat.ne_of_lt (IsS81.lt (show IsS81 w0 _ g s0_0 s0_1 from HI0.out)) : g ≠ gb268)); have NB268_0 := zM ((by rw [hg]; exact Nat.ne_of_gt (IsS81.lt (show IsS81 w0 _ g s0_0 s0_1 from HI0.out)) : gb268 ≠ g)); replace HK := zM (KeepBut.trans (HK.out) (KeepBut.of_below hb g none) (.inl rfl)); replace HB := zM (below_step (by repeat (first | (with_reducible first | exact HB.out | apply below_alloc | apply pw_below_drewN | apply below_drew1 | refine below_set ?_ (IsS81.ge HI0.out)) | exact HB.out)) hb); replace HI0 := zM (IsS81.below (HI0.out) hb); clear hb hbox hg) | ((with_reducible refine gate_dst (N := 4) rfl ?_); refine box_event ?hg (N := 4) ?hd (cs := #[.bool false, .slice none 0 0]) (t := 24) ?hr ?_; (case hd => rfl); (case hg => rfl); (case hr => first | (go_simp; done) | (go_simp; rfl)); intro gb269 hg w7 hbox hb; have BK269 := zM (hbox); have GW269 := zM ((by rw [hg]; exact (keep_size (w := w) (g := g) (row := none) (by repeat (first | (with_reducible first | exact HK.out | apply KeepBut.set_ | apply keep_drewN | apply keep_drew | apply keep_alloc | refine keep_far ?_ GW268.out _) | exact HK.out))) : w.heap.size ≤ gb269)); have GE269 := zM ((Nat.le_trans HW0.out (by rw [hg]; exact (keep_size (w := w) (g := g) (row := none) (by repeat (first | (with_reducible first | exact HK.out | apply KeepBut.set_ | apply keep_drewN | apply keep_drew | apply keep_alloc | refine keep_far ?_ GW268.out _) | exact HK.out))) : w.heap.size ≤ gb269) : w0.heap.size ≤ gb269)); have NB268_269 := pzf BK268 hg; have NB269_268 := pzg BK268 hg; have NB0_269 := zM ((by rw [hg]; exact Nat.ne_of_lt (IsS81.lt (show IsS81 w0 _ g s0_0 s0_1 from by repeat (first | (with_reducible first | exact HI0.out | apply IsS81.alloc | apply IsS81.drewN | apply IsS81.drew | apply IsS81.set_0 | apply IsS81.set_1 | refine IsS81.far ?_ NB0_268.out _) | exact HI0.out))) : g ≠ gb269)); have NB269_0 := zM ((by rw [hg]; exact Nat.ne_of_gt (IsS81.lt (show IsS81 w0 _ g s0_0 s0_1 from by repeat (first | (with_reducible first | exact HI0.out | apply IsS81.alloc | apply IsS81.drewN | apply IsS81.drew | apply IsS81.set_0 | apply IsS81.set_1 | refine IsS81.far ?_ NB0_268.out _) | exact HI0.out))) : gb269 ≠ g)); replace BK268 := pzb BK268 hb; replace HK := zM (KeepBut.trans (by repeat (first | (with_reducible first | exact HK.out | apply KeepBut.set_ | apply keep_drewN | apply keep_drew | apply keep_alloc | refine keep_far ?_ GW268.out _) | exact HK.out)) (KeepBut.of_below hb g none) (.inl rfl)); replace HB := zM (below_step (by repeat (first | (with_reducible first | exact HB.out | apply below_alloc | apply pw_below_drewN | apply below_drew1 | refine below_set ?_ (IsS81.ge HI0.out) | refine below_setA ?_ (by assumption)) | exact HB.out)) hb); replace HI0 := zM (IsS81.below (by repeat (first | (with_reducible first | exact HI0.out | apply IsS81.alloc | apply IsS81.drewN | apply IsS81.drew | apply IsS81.set_0 | apply IsS81.set_1 | refine IsS81.far ?_ NB0_268.out _) | exact HI0.out)) hb); clear hb hbox hg))
 replace BK268 := zM (blk_drew BK268.out)
 replace BK269 := zM (blk_drew BK269.out)
 replace HI0 := zM (IsS81.drew HI0.out)
 replace HK := zM (keep_drew HK.out)
 replace HB := zM (below_drew1 HB.out)
 refine start_ (n := 10) (S := fun w' => w'.cell? ⟨gb268, 0, none⟩ = some (.bool a1_0) ∧ w'.cell? ⟨gb268, 1, none⟩ = some (.slice A1_1 l1_1.length c1_1)) (ds := []) #[false, false, false, false, false, false, false, false, false, false] (by kernel_rfl) rfl rfl ⟨(blk_cell BK268.out 0).trans rfl, (blk_cell BK268.out 1).trans rfl⟩ (fun hHeld => ?_); refine with_tabW random_source_below.tab1 random_source_below.bits1 (fun HT_ HW_ => ?_)
 generalize w7.drew = w8 at BK268 BK269 HI0 HK HB hHeld ⊢
 refine take_ (i := 0) (N := some 13) (v := ?_) (a' := ?_) #[true, false, false, false, false, false, false, false, false, false] rfl rfl (take_ofW HT_.out HW_.out (by kernel_rfl)) (fun _ _ _ h => h) (Or.inl ⟨by rfl, ?_⟩) hHeld ?_ ?_
 rotate_left
 ·rintro w' ⟨s0, s1⟩
  go_simp
  with_reducible rfl
 rotate_left
 ·simp only [Act.put, zS, z0, z1, i64_w, i32_w]
  rfl
 refine join_ (σ := Value × Value × Nat × Nat) 2 #[true, true, true, true, true, true, true, true, false, false] (fun s_ => [(14, .agg #[.bool t270, s_.1]), (15, .tuple #[.agg #[.bool t274, s_.2.1], .agg #[.int .i64 t278, .int .i64 t279]]), (5, .pointer (some ⟨s_.2.2.1, 0, none⟩)), (6, .pointer (some ⟨s_.2.2.2, 0, none⟩)), (12, .tuple #[.agg #[.bool t274, s_.2.1], .agg #[.int .i64 t278, .int .i64 t279]]), (16, .agg #[.bool t274, s_.2.1]), (17, .agg #[.int .i64 t278, .int .i64 t279])]) (fun s_ w' => (w'.cell? ⟨gb268, 0, none⟩ = some (.bool a1_0) ∧ w'.cell? ⟨gb268, 1, none⟩ = some (.slice A1_1 l1_1.length c1_1)) ∧ (Kd.R (Kd.int .u32) 76 w' w.heap.size (fun _ => True) s_.1 t271) ∧ (Kd.V (Kd.int .u32) 76 w' w.heap.size (fun k_ => some k_ ≠ (s_.1 : Value).ownBlock ∧ k_ ≠ g ∧ k_ ≠ gb268 ∧ k_ ≠ gb269 ∧ k_ ≠ s_.2.2.1 ∧ k_ ≠ s_.2.2.2) s_.2.1 t275) ∧ (w'.heap[gb268]? = some (.cells #[.bool a1_0, .slice A1_1 l1_1.length c1_1] 24 (0, 0))) ∧ (w'.heap[gb269]? = some (.cells #[.bool false, .slice none 0 0] 24 (0, 0))) ∧ (w'.heap[s_.2.2.1]? = some (.cells #[.bool false, .slice none 0 0] 24 (0, 0))) ∧ (w'.heap[s_.2.2.2]? = some (.cells #[.int .i64 0, .int .i64 0] 29 (0, 0))) ∧ (w.heap.size ≤ s_.2.2.1) ∧ (w0.heap.size ≤ s_.2.2.1) ∧ (g ≠ s_.2.2.1) ∧ (s_.2.2.1 ≠ g) ∧ (gb268 ≠ s_.2.2.1) ∧ (s_.2.2.1 ≠ gb268) ∧ (gb269 ≠ s_.2.2.1) ∧ (s_.2.2.1 ≠ gb269) ∧ (s_.2.2.2 ≠ s_.2.2.1) ∧ (s_.2.2.1 ≠ s_.2.2.2) ∧ (w.heap.size ≤ s_.2.2.2) ∧ (w0.heap.size ≤ s_.2.2.2) ∧ (g ≠ s_.2.2.2) ∧ (s_.2.2.2 ≠ g) ∧ (gb268 ≠ s_.2.2.2) ∧ (s_.2.2.2 ≠ gb268) ∧ (gb269 ≠ s_.2.2.2) ∧ (s_.2.2.2 ≠ gb269) ∧ (IsS81 w0 w' g s0_0 s0_1) ∧ (KeepBut w w' g none) ∧ (Below w0.heap.size w0 w')) ?_ ?_
 rotate_left
 ·intro hJ1_2_6_7
  refine join_ (σ := Value × Value × Nat) 3 #[true, true, true, true, true, true, true, false, false, false] (fun s_ => [(14, .agg #[.bool t270, s_.1]), (15, .tuple #[.agg #[.bool t274, s_.2.1], .agg #[.int .i64 t278, .int .i64 t279]]), (5, .pointer (some ⟨s_.2.2, 0, none⟩)), (12, .tuple #[.agg #[.bool t274, s_.2.1], .agg #[.int .i64 t278, .int .i64 t279]]), (16, .agg #[.bool t274, s_.2.1]), (17, .agg #[.int .i64 t278, .int .i64 t279])]) (fun s_ w' => (w'.cell? ⟨gb268, 0, none⟩ = some (.bool a1_0) ∧ w'.cell? ⟨gb268, 1, none⟩ = some (.slice A1_1 l1_1.length c1_1)) ∧ (Kd.R (Kd.int .u32) 76 w' w.heap.size (fun _ => True) s_.1 t271) ∧ (Kd.V (Kd.int .u32) 76 w' w.heap.size (fun k_ => some k_ ≠ (s_.1 : Value).ownBlock ∧ k_ ≠ g ∧ k_ ≠ gb268 ∧ k_ ≠ gb269 ∧ k_ ≠ s_.2.2) s_.2.1 t275) ∧ (w'.heap[gb268]? = some (.cells #[.bool a1_0, .slice A1_1 l1_1.length c1_1] 24 (0, 0))) ∧ (w'.heap[gb269]? = some (.cells #[.bool false, .slice none 0 0] 24 (0, 0))) ∧ (w'.heap[s_.2.2]? = some (.cells #[.bool false, .slice none 0 0] 24 (0, 0))) ∧ (w.heap.size ≤ s_.2.2) ∧ (w0.heap.size ≤ s_.2.2) ∧ (g ≠ s_.2.2) ∧ (s_.2.2 ≠ g) ∧ (gb268 ≠ s_.2.2) ∧ (s_.2.2 ≠ gb268) ∧ (gb269 ≠ s_.2.2) ∧ (s_.2.2 ≠ gb269) ∧ (IsS81 w0 w' g s0_0 s0_1) ∧ (KeepBut w w' g none) ∧ (Below w0.heap.size w0 w')) ?_ ?_
  rotate_left
  ·intro hJ1_2_6
   refine join_ (σ := Value × Value × Nat) 3 #[true, true, true, true, true, true, false, true, false, false] (fun s_ => [(14, .agg #[.bool t270, s_.1]), (15, .tuple #[.agg #[.bool t274, s_.2.1], .agg #[.int .i64 t278, .int .i64 t279]]), (6, .pointer (some ⟨s_.2.2, 0, none⟩)), (12, .tuple #[.agg #[.bool t274, s_.2.1], .agg #[.int .i64 t278, .int .i64 t279]]), (16, .agg #[.bool t274, s_.2.1]), (17, .agg #[.int .i64 t278, .int .i64 t279])]) (fun s_ w' => (w'.cell? ⟨gb268, 0, none⟩ = some (.bool a1_0) ∧ w'.cell? ⟨gb268, 1, none⟩ = some (.slice A1_1 l1_1.length c1_1)) ∧ (Kd.R (Kd.int .u32) 76 w' w.heap.size (fun _ => True) s_.1 t271) ∧ (Kd.V (Kd.int .u32) 76 w' w.heap.size (fun k_ => some k_ ≠ (s_.1 : Value).ownBlock ∧ k_ ≠ g ∧ k_ ≠ gb268 ∧ k_ ≠ gb269 ∧ k_ ≠ s_.2.2) s_.2.1 t275) ∧ (w'.heap[gb268]? = some (.cells #[.bool a1_0, .slice A1_1 l1_1.length c1_1] 24 (0, 0))) ∧ (w'.heap[gb269]? = some (.cells #[.bool false, .slice none 0 0] 24 (0, 0))) ∧ (w'.heap[s_.2.2]? = some (.cells #[.int .i64 0, .int .i64 0] 29 (0, 0))) ∧ (w.heap.size ≤ s_.2.2) ∧ (w0.heap.size ≤ s_.2.2) ∧ (g ≠ s_.2.2) ∧ (s_.2.2 ≠ g) ∧ (gb268 ≠ s_.2.2) ∧ (s_.2.2 ≠ gb268) ∧ (gb269 ≠ s_.2.2) ∧ (s_.2.2 ≠ gb269) ∧ (IsS81 w0 w' g s0_0 s0_1) ∧ (KeepBut w w' g none) ∧ (Below w0.heap.size w0 w')) ?_ ?_
   rotate_left
   ·intro hJ1_2_7
    refine join_ (σ := Value × Nat × Nat) 6 #[true, true, false, false, false, false, true, true, false, false] (fun s_ => [(14, .agg #[.bool t270, s_.1]), (5, .pointer (some ⟨s_.2.1, 0, none⟩)), (6, .pointer (some ⟨s_.2.2, 0, none⟩))]) (fun s_ w' => (w'.cell? ⟨gb268, 0, none⟩ = some (.bool a1_0) ∧ w'.cell? ⟨gb268, 1, none⟩ = some (.slice A1_1 l1_1.length c1_1)) ∧ (Kd.R (Kd.int .u32) 76 w' w.heap.size (fun _ => True) s_.1 t271) ∧ (w'.heap[gb268]? = some (.cells #[.bool a1_0, .slice A1_1 l1_1.length c1_1] 24 (0, 0))) ∧ (w'.heap[gb269]? = some (.cells #[.bool false, .slice none 0 0] 24 (0, 0))) ∧ (w'.heap[s_.2.1]? = some (.cells #[.bool false, .slice none 0 0] 24 (0, 0))) ∧ (w'.heap[s_.2.2]? = some (.cells #[.int .i64 0, .int .i64 0] 29 (0, 0))) ∧ (w.heap.size ≤ s_.2.1) ∧ (w0.heap.size ≤ s_.2.1) ∧ (g ≠ s_.2.1) ∧ (s_.2.1 ≠ g) ∧ (gb268 ≠ s_.2.1) ∧ (s_.2.1 ≠ gb268) ∧ (gb269 ≠ s_.2.1) ∧ (s_.2.1 ≠ gb269) ∧ (s_.2.2 ≠ s_.2.1) ∧ (s_.2.1 ≠ s_.2.2) ∧ (w.heap.size ≤ s_.2.2) ∧ (w0.heap.size ≤ s_.2.2) ∧ (g ≠ s_.2.2) ∧ (s_.2.2 ≠ g) ∧ (gb268 ≠ s_.2.2) ∧ (s_.2.2 ≠ gb268) ∧ (gb269 ≠ s_.2.2) ∧ (s_.2.2 ≠ gb269) ∧ (IsS81 w0 w' g s0_0 s0_1) ∧ (KeepBut w w' g none) ∧ (Below w0.heap.size w0 w')) ?_ ?_
    rotate_left
    ·intro hJ1_6_7
     refine join_ (σ := Value × Value) 4 #[true, true, true, true, true, true, false, false, false, false] (fun s_ => [(14, .agg #[.bool t270, s_.1]), (15, .tuple #[.agg #[.bool t274, s_.2], .agg #[.int .i64 t278, .int .i64 t279]]), (12, .tuple #[.agg #[.bool t274, s_.2], .agg #[.int .i64 t278, .int .i64 t279]]), (16, .agg #[.bool t274, s_.2]), (17, .agg #[.int .i64 t278, .int .i64 t279])]) (fun s_ w' => (w'.cell? ⟨gb268, 0, none⟩ = some (.bool a1_0) ∧ w'.cell? ⟨gb268, 1, none⟩ = some (.slice A1_1 l1_1.length c1_1)) ∧ (Kd.R (Kd.int .u32) 76 w' w.heap.size (fun _ => True) s_.1 t271) ∧ (Kd.V (Kd.int .u32) 76 w' w.heap.size (fun k_ => some k_ ≠ (s_.1 : Value).ownBlock ∧ k_ ≠ g ∧ k_ ≠ gb268 ∧ k_ ≠ gb269) s_.2 t275) ∧ (w'.heap[gb268]? = some (.cells #[.bool a1_0, .slice A1_1 l1_1.length c1_1] 24 (0, 0))) ∧ (w'.heap[gb269]? = some (.cells #[.bool false, .slice none 0 0] 24 (0, 0))) ∧ (IsS81 w0 w' g s0_0 s0_1) ∧ (KeepBut w w' g none) ∧ (Below w0.heap.size w0 w')) ?_ ?_
     rotate_left
     ·intro hJ1_2
      refine join_ (σ := Value × Nat) 7 #[true, true, false, false, false, false, true, false, false, false] (fun s_ => [(14, .agg #[.bool t270, s_.1]), (5, .pointer (some ⟨s_.2, 0, none⟩))]) (fun s_ w' => (w'.cell? ⟨gb268, 0, none⟩ = some (.bool a1_0) ∧ w'.cell? ⟨gb268, 1, none⟩ = some (.slice A1_1 l1_1.length c1_1)) ∧ (Kd.R (Kd.int .u32) 76 w' w.heap.size (fun _ => True) s_.1 t271) ∧ (w'.heap[gb268]? = some (.cells #[.bool a1_0, .slice A1_1 l1_1.length c1_1] 24 (0, 0))) ∧ (w'.heap[gb269]? = some (.cells #[.bool false, .slice none 0 0] 24 (0, 0))) ∧ (w'.heap[s_.2]? = some (.cells #[.bool false, .slice none 0 0] 24 (0, 0))) ∧ (w.heap.size ≤ s_.2) ∧ (w0.heap.size ≤ s_.2) ∧ (g ≠ s_.2) ∧ (s_.2 ≠ g) ∧ (gb268 ≠ s_.2) ∧ (s_.2 ≠ gb268) ∧ (gb269 ≠ s_.2) ∧ (s_.2 ≠ gb269) ∧ (IsS81 w0 w' g s0_0 s0_1) ∧ (KeepBut w w' g none) ∧ (Below w0.heap.size w0 w')) ?_ ?_
      rotate_left
      ·intro hJ1_6
       refine join_ (σ := Value × Nat) 7 #[true, true, false, false, false, false, false, true, false, false] (fun s_ => [(14, .agg #[.bool t270, s_.1]), (6, .pointer (some ⟨s_.2, 0, none⟩))]) (fun s_ w' => (w'.cell? ⟨gb268, 0, none⟩ = some (.bool a1_0) ∧ w'.cell? ⟨gb268, 1, none⟩ = some (.slice A1_1 l1_1.length c1_1)) ∧ (Kd.R (Kd.int .u32) 76 w' w.heap.size (fun _ => True) s_.1 t271) ∧ (w'.heap[gb268]? = some (.cells #[.bool a1_0, .slice A1_1 l1_1.length c1_1] 24 (0, 0))) ∧ (w'.heap[gb269]? = some (.cells #[.bool false, .slice none 0 0] 24 (0, 0))) ∧ (w'.heap[s_.2]? = some (.cells #[.int .i64 0, .int .i64 0] 29 (0, 0))) ∧ (w.heap.size ≤ s_.2) ∧ (w0.heap.size ≤ s_.2) ∧ (g ≠ s_.2) ∧ (s_.2 ≠ g) ∧ (gb268 ≠ s_.2) ∧ (s_.2 ≠ gb268) ∧ (gb269 ≠ s_.2) ∧ (s_.2 ≠ gb269) ∧ (IsS81 w0 w' g s0_0 s0_1) ∧ (KeepBut w w' g none) ∧ (Below w0.heap.size w0 w')) ?_ ?_
       rotate_left
       ·intro hJ1_7
        refine join_ (σ := Nat × Nat) 7 #[true, false, false, false, false, false, true, true, false, false] (fun s_ => [(5, .pointer (some ⟨s_.1, 0, none⟩)), (6, .pointer (some ⟨s_.2, 0, none⟩))]) (fun s_ w' => (w'.cell? ⟨gb268, 0, none⟩ = some (.bool a1_0) ∧ w'.cell? ⟨gb268, 1, none⟩ = some (.slice A1_1 l1_1.length c1_1)) ∧ (w'.heap[gb268]? = some (.cells #[.bool a1_0, .slice A1_1 l1_1.length c1_1] 24 (0, 0))) ∧ (w'.heap[gb269]? = some (.cells #[.bool false, .slice none 0 0] 24 (0, 0))) ∧ (w'.heap[s_.1]? = some (.cells #[.bool false, .slice none 0 0] 24 (0, 0))) ∧ (w'.heap[s_.2]? = some (.cells #[.int .i64 0, .int .i64 0] 29 (0, 0))) ∧ (w.heap.size ≤ s_.1) ∧ (w0.heap.size ≤ s_.1) ∧ (g ≠ s_.1) ∧ (s_.1 ≠ g) ∧ (gb268 ≠ s_.1) ∧ (s_.1 ≠ gb268) ∧ (gb269 ≠ s_.1) ∧ (s_.1 ≠ gb269) ∧ (s_.2 ≠ s_.1) ∧ (s_.1 ≠ s_.2) ∧ (w.heap.size ≤ s_.2) ∧ (w0.heap.size ≤ s_.2) ∧ (g ≠ s_.2) ∧ (s_.2 ≠ g) ∧ (gb268 ≠ s_.2) ∧ (s_.2 ≠ gb268) ∧ (gb269 ≠ s_.2) ∧ (s_.2 ≠ gb269) ∧ (IsS81 w0 w' g s0_0 s0_1) ∧ (KeepBut w w' g none) ∧ (Below w0.heap.size w0 w')) ?_ ?_
        rotate_left
        ·intro hJ6_7
         refine join_ (σ := Value) 8 #[true, true, false, false, false, false, false, false, false, false] (fun s_ => [(14, .agg #[.bool t270, s_])]) (fun s_ w' => (w'.cell? ⟨gb268, 0, none⟩ = some (.bool a1_0) ∧ w'.cell? ⟨gb268, 1, none⟩ = some (.slice A1_1 l1_1.length c1_1)) ∧ (Kd.R (Kd.int .u32) 76 w' w.heap.size (fun _ => True) s_ t271) ∧ (w'.heap[gb268]? = some (.cells #[.bool a1_0, .slice A1_1 l1_1.length c1_1] 24 (0, 0))) ∧ (w'.heap[gb269]? = some (.cells #[.bool false, .slice none 0 0] 24 (0, 0))) ∧ (IsS81 w0 w' g s0_0 s0_1) ∧ (KeepBut w w' g none) ∧ (Below w0.heap.size w0 w')) ?_ ?_
         rotate_left
         ·intro hJ1
          refine join_ (σ := Nat) 8 #[true, false, false, false, false, false, true, false, false, false] (fun s_ => [(5, .pointer (some ⟨s_, 0, none⟩))]) (fun s_ w' => (w'.cell? ⟨gb268, 0, none⟩ = some (.bool a1_0) ∧ w'.cell? ⟨gb268, 1, none⟩ = some (.slice A1_1 l1_1.length c1_1)) ∧ (w'.heap[gb268]? = some (.cells #[.bool a1_0, .slice A1_1 l1_1.length c1_1] 24 (0, 0))) ∧ (w'.heap[gb269]? = some (.cells #[.bool false, .slice none 0 0] 24 (0, 0))) ∧ (w'.heap[s_]? = some (.cells #[.bool false, .slice none 0 0] 24 (0, 0))) ∧ (w.heap.size ≤ s_) ∧ (w0.heap.size ≤ s_) ∧ (g ≠ s_) ∧ (s_ ≠ g) ∧ (gb268 ≠ s_) ∧ (s_ ≠ gb268) ∧ (gb269 ≠ s_) ∧ (s_ ≠ gb269) ∧ (IsS81 w0 w' g s0_0 s0_1) ∧ (KeepBut w w' g none) ∧ (Below w0.heap.size w0 w')) ?_ ?_
          rotate_left
          ·intro hJ6
           refine join_ (σ := Nat) 8 #[true, false, false, false, false, false, false, true, false, false] (fun s_ => [(6, .pointer (some ⟨s_, 0, none⟩))]) (fun s_ w' => (w'.cell? ⟨gb268, 0, none⟩ = some (.bool a1_0) ∧ w'.cell? ⟨gb268, 1, none⟩ = some (.slice A1_1 l1_1.length c1_1)) ∧ (w'.heap[gb268]? = some (.cells #[.bool a1_0, .slice A1_1 l1_1.length c1_1] 24 (0, 0))) ∧ (w'.heap[gb269]? = some (.cells #[.bool false, .slice none 0 0] 24 (0, 0))) ∧ (w'.heap[s_]? = some (.cells #[.int .i64 0, .int .i64 0] 29 (0, 0))) ∧ (w.heap.size ≤ s_) ∧ (w0.heap.size ≤ s_) ∧ (g ≠ s_) ∧ (s_ ≠ g) ∧ (gb268 ≠ s_) ∧ (s_ ≠ gb268) ∧ (gb269 ≠ s_) ∧ (s_ ≠ gb269) ∧ (IsS81 w0 w' g s0_0 s0_1) ∧ (KeepBut w w' g none) ∧ (Below w0.heap.size w0 w')) ?_ ?_
           rotate_left
           ·intro hJ7
            refine three_ (i := 1) (j := 6) (k := 7) (Ni := some 14) (Nj := some 5) (Nk := some 6) #[true, true, false, false, false, false, false, false, false, false] #[true, false, false, false, false, false, true, false, false, false] #[true, false, false, false, false, false, false, true, false, false] rfl rfl rfl rfl rfl rfl (three_of HT_.out (by kernel_rfl)) (by decide) (by decide) (by decide) (fun K hK => ?_) (fun K hK => ?_) (fun K hK => ?_)
            ·skip
             refine goes_ Try.func47 (by kernel_rfl) rfl #[.int .i64 1] (by rfl) rfl rfl (by (try simp only [zT, zC, zN]); first | done | rfl | (simp only [zR, zL]; rfl)) ?_
             with_reducible refine (integer_Of.calls k 1 t270 t271 _ A3.out).mono ?_
             rintro e w9 ⟨v272, rfl, ho0, hb⟩
             refine ⟨_, rfl, ?_⟩
             have HO273 := zM (Kd.R_lower ho0 (keep_size (w := w) (g := g) (row := none) (by repeat (first | (with_reducible first | exact HK.out | apply KeepBut.set_ | apply keep_drewN | apply keep_drew | apply keep_alloc | refine keep_far ?_ GW268.out _ | refine keep_far ?_ GW269.out _) | exact HK.out))))
             replace BK268 := pzb BK268 hb
             replace BK269 := pzb BK269 hb
             replace HK := zM (KeepBut.trans (by repeat (first | (with_reducible first | exact HK.out | apply KeepBut.set_ | apply keep_drewN | apply keep_drew | apply keep_alloc | refine keep_far ?_ GW268.out _ | refine keep_far ?_ GW269.out _) | exact HK.out)) (KeepBut.of_below hb g none) (.inl rfl))
             replace HB := zM (below_step (by repeat (first | (with_reducible first | exact HB.out | apply below_alloc | apply pw_below_drewN | apply below_drew1 | refine below_set ?_ (IsS81.ge HI0.out) | refine below_setA ?_ (by assumption)) | exact HB.out)) hb)
             replace HI0 := zM (IsS81.below (by repeat (first | (with_reducible first | exact HI0.out | apply IsS81.alloc | apply IsS81.drewN | apply IsS81.drew | apply IsS81.set_0 | apply IsS81.set_1 | refine IsS81.far ?_ NB0_268.out _ | refine IsS81.far ?_ NB0_269.out _) | exact HI0.out)) hb)
             (try clear hb)
             (try clear hb2)
             (try clear hk)
             (try clear hi)
             (try clear ho0)
             refine hK.out _ _ ⟨(blk_cell BK268.out 0).trans rfl, (blk_cell BK268.out 1).trans rfl⟩ (fun hHeld => ?_)
             clear hK K
             refine norm_ (a' := ?_) ?_ ?_
             rotate_left
             ·show Act.put _ (some 14) _ = _
              simp only [Act.put, zS, z0, z1, i64_w, i32_w]
              rfl
             exact norm_ (by first | (simp only [putAll, Act.put, zS, z0, z1]; done) | (simp only [putAll, Act.put, zS, z0, z1]; rfl)) (hJ1 (v272) _ ⟨hHeld, HO273.out, BK268.out, BK269.out, (by repeat (first | (with_reducible first | exact HI0.out | apply IsS81.alloc | apply IsS81.drewN | apply IsS81.drew | apply IsS81.set_0 | apply IsS81.set_1 | refine IsS81.far ?_ NB0_268.out _ | refine IsS81.far ?_ NB0_269.out _) | exact HI0.out)), (by repeat (first | (with_reducible first | exact HK.out | apply KeepBut.set_ | apply keep_drewN | apply keep_drew | apply keep_alloc | refine keep_far ?_ GW268.out _ | refine keep_far ?_ GW269.out _) | exact HK.out)), (by repeat (first | (with_reducible first | exact HB.out | apply below_alloc | apply pw_below_drewN | apply below_drew1 | refine below_set ?_ (IsS81.ge HI0.out) | refine below_setA ?_ (by assumption)) | exact HB.out))⟩)
            ·skip
             refine box_step ?hg (N := 5) ?hd (cs := #[.bool false, .slice none 0 0]) (t := 24) ?hr ?_; (case hd => rfl); (case hg => rfl); (case hr => first | (go_simp; done) | (go_simp; rfl))
             intro gb280 hg w9 hbox hb
             have BK280 := zM (hbox)
             have GW280 := zM ((by rw [hg]; exact (keep_size (w := w) (g := g) (row := none) (by repeat (first | (with_reducible first | exact HK.out | apply KeepBut.set_ | apply keep_drewN | apply keep_drew | apply keep_alloc | refine keep_far ?_ GW268.out _ | refine keep_far ?_ GW269.out _) | exact HK.out))) : w.heap.size ≤ gb280))
             have GE280 := zM ((Nat.le_trans HW0.out (by rw [hg]; exact (keep_size (w := w) (g := g) (row := none) (by repeat (first | (with_reducible first | exact HK.out | apply KeepBut.set_ | apply keep_drewN | apply keep_drew | apply keep_alloc | refine keep_far ?_ GW268.out _ | refine keep_far ?_ GW269.out _) | exact HK.out))) : w.heap.size ≤ gb280) : w0.heap.size ≤ gb280))
             have NB268_280 := pzf BK268 hg
             have NB280_268 := pzg BK268 hg
             have NB269_280 := pzf BK269 hg
             have NB280_269 := pzg BK269 hg
             have NB0_280 := zM ((by rw [hg]; exact Nat.ne_of_lt (IsS81.lt (show IsS81 w0 _ g s0_0 s0_1 from by repeat (first | (with_reducible first | exact HI0.out | apply IsS81.alloc | apply IsS81.drewN | apply IsS81.drew | apply IsS81.set_0 | apply IsS81.set_1 | refine IsS81.far ?_ NB0_268.out _ | refine IsS81.far ?_ NB0_269.out _) | exact HI0.out))) : g ≠ gb280))
             have NB280_0 := zM ((by rw [hg]; exact Nat.ne_of_gt (IsS81.lt (show IsS81 w0 _ g s0_0 s0_1 from by repeat (first | (with_reducible first | exact HI0.out | apply IsS81.alloc | apply IsS81.drewN | apply IsS81.drew | apply IsS81.set_0 | apply IsS81.set_1 | refine IsS81.far ?_ NB0_268.out _ | refine IsS81.far ?_ NB0_269.out _) | exact HI0.out))) : gb280 ≠ g))
             replace BK268 := pzb BK268 hb
             replace BK269 := pzb BK269 hb
             replace HK := zM (KeepBut.trans (by repeat (first | (with_reducible first | exact HK.out | apply KeepBut.set_ | apply keep_drewN | apply keep_drew | apply keep_alloc | refine keep_far ?_ GW268.out _ | refine keep_far ?_ GW269.out _) | exact HK.out)) (KeepBut.of_below hb g none) (.inl rfl))
             replace HB := zM (below_step (by repeat (first | (with_reducible first | exact HB.out | apply below_alloc | apply pw_below_drewN | apply below_drew1 | refine below_set ?_ (IsS81.ge HI0.out) | refine below_setA ?_ (by assumption)) | exact HB.out)) hb)
             replace HI0 := zM (IsS81.below (by repeat (first | (with_reducible first | exact HI0.out | apply IsS81.alloc | apply IsS81.drewN | apply IsS81.drew | apply IsS81.set_0 | apply IsS81.set_1 | refine IsS81.far ?_ NB0_268.out _ | refine IsS81.far ?_ NB0_269.out _) | exact HI0.out)) hb)
             clear hb hbox hg
             refine hK.out _ _ ⟨(blk_cell BK268.out 0).trans rfl, (blk_cell BK268.out 1).trans rfl⟩ (fun hHeld => ?_)
             clear hK K
             refine norm_ (a' := ?_) ?_ ?_
             rotate_left
             ·show Act.put _ (some 5) _ = _
              simp only [Act.put, zS, z0, z1, i64_w, i32_w]
              rfl
             exact norm_ (by first | (simp only [putAll, Act.put, zS, z0, z1]; done) | (simp only [putAll, Act.put, zS, z0, z1]; rfl)) (hJ6 (gb280) _ ⟨hHeld, BK268.out, BK269.out, BK280.out, GW280.out, GE280.out, NB0_280.out, NB280_0.out, NB268_280.out, NB280_268.out, NB269_280.out, NB280_269.out, (by repeat (first | (with_reducible first | exact HI0.out | apply IsS81.alloc | apply IsS81.drewN | apply IsS81.drew | apply IsS81.set_0 | apply IsS81.set_1 | refine IsS81.far ?_ NB0_268.out _ | refine IsS81.far ?_ NB0_269.out _ | refine IsS81.far ?_ NB0_280.out _) | exact HI0.out)), (by repeat (first | (with_reducible first | exact HK.out | apply KeepBut.set_ | apply keep_drewN | apply keep_drew | apply keep_alloc | refine keep_far ?_ GW268.out _ | refine keep_far ?_ GW269.out _ | refine keep_far ?_ GW280.out _) | exact HK.out)), (by repeat (first | (with_reducible first | exact HB.out | apply below_alloc | apply pw_below_drewN | apply below_drew1 | refine below_set ?_ (IsS81.ge HI0.out) | refine below_setA ?_ (by assumption)) | exact HB.out))⟩)
            ·skip
             refine box_step ?hg (N := 6) ?hd (cs := #[.int .i64 0, .int .i64 0]) (t := 29) ?hr ?_; (case hd => rfl); (case hg => rfl); (case hr => first | (go_simp; done) | (go_simp; rfl))
             intro gb281 hg w9 hbox hb
             have BK281 := zM (hbox)
             have GW281 := zM ((by rw [hg]; exact (keep_size (w := w) (g := g) (row := none) (by repeat (first | (with_reducible first | exact HK.out | apply KeepBut.set_ | apply keep_drewN | apply keep_drew | apply keep_alloc | refine keep_far ?_ GW268.out _ | refine keep_far ?_ GW269.out _) | exact HK.out))) : w.heap.size ≤ gb281))
             have GE281 := zM ((Nat.le_trans HW0.out (by rw [hg]; exact (keep_size (w := w) (g := g) (row := none) (by repeat (first | (with_reducible first | exact HK.out | apply KeepBut.set_ | apply keep_drewN | apply keep_drew | apply keep_alloc | refine keep_far ?_ GW268.out _ | refine keep_far ?_ GW269.out _) | exact HK.out))) : w.heap.size ≤ gb281) : w0.heap.size ≤ gb281))
             have NB268_281 := pzf BK268 hg
             have NB281_268 := pzg BK268 hg
             have NB269_281 := pzf BK269 hg
             have NB281_269 := pzg BK269 hg
             have NB0_281 := zM ((by rw [hg]; exact Nat.ne_of_lt (IsS81.lt (show IsS81 w0 _ g s0_0 s0_1 from by repeat (first | (with_reducible first | exact HI0.out | apply IsS81.alloc | apply IsS81.drewN | apply IsS81.drew | apply IsS81.set_0 | apply IsS81.set_1 | refine IsS81.far ?_ NB0_268.out _ | refine IsS81.far ?_ NB0_269.out _) | exact HI0.out))) : g ≠ gb281))
             have NB281_0 := zM ((by rw [hg]; exact Nat.ne_of_gt (IsS81.lt (show IsS81 w0 _ g s0_0 s0_1 from by repeat (first | (with_reducible first | exact HI0.out | apply IsS81.alloc | apply IsS81.drewN | apply IsS81.drew | apply IsS81.set_0 | apply IsS81.set_1 | refine IsS81.far ?_ NB0_268.out _ | refine IsS81.far ?_ NB0_269.out _) | exact HI0.out))) : gb281 ≠ g))
             replace BK268 := pzb BK268 hb
             replace BK269 := pzb BK269 hb
             replace HK := zM (KeepBut.trans (by repeat (first | (with_reducible first | exact HK.out | apply KeepBut.set_ | apply keep_drewN | apply keep_drew | apply keep_alloc | refine keep_far ?_ GW268.out _ | refine keep_far ?_ GW269.out _) | exact HK.out)) (KeepBut.of_below hb g none) (.inl rfl))
             replace HB := zM (below_step (by repeat (first | (with_reducible first | exact HB.out | apply below_alloc | apply pw_below_drewN | apply below_drew1 | refine below_set ?_ (IsS81.ge HI0.out) | refine below_setA ?_ (by assumption)) | exact HB.out)) hb)
             replace HI0 := zM (IsS81.below (by repeat (first | (with_reducible first | exact HI0.out | apply IsS81.alloc | apply IsS81.drewN | apply IsS81.drew | apply IsS81.set_0 | apply IsS81.set_1 | refine IsS81.far ?_ NB0_268.out _ | refine IsS81.far ?_ NB0_269.out _) | exact HI0.out)) hb)
             clear hb hbox hg
             refine hK.out _ _ ⟨(blk_cell BK268.out 0).trans rfl, (blk_cell BK268.out 1).trans rfl⟩ (fun hHeld => ?_)
             clear hK K
             refine norm_ (a' := ?_) ?_ ?_
             rotate_left
             ·show Act.put _ (some 6) _ = _
              simp only [Act.put, zS, z0, z1, i64_w, i32_w]
              rfl
             exact norm_ (by first | (simp only [putAll, Act.put, zS, z0, z1]; done) | (simp only [putAll, Act.put, zS, z0, z1]; rfl)) (hJ7 (gb281) _ ⟨hHeld, BK268.out, BK269.out, BK281.out, GW281.out, GE281.out, NB0_281.out, NB281_0.out, NB268_281.out, NB281_268.out, NB269_281.out, NB281_269.out, (by repeat (first | (with_reducible first | exact HI0.out | apply IsS81.alloc | apply IsS81.drewN | apply IsS81.drew | apply IsS81.set_0 | apply IsS81.set_1 | refine IsS81.far ?_ NB0_268.out _ | refine IsS81.far ?_ NB0_269.out _ | refine IsS81.far ?_ NB0_281.out _) | exact HI0.out)), (by repeat (first | (with_reducible first | exact HK.out | apply KeepBut.set_ | apply keep_drewN | apply keep_drew | apply keep_alloc | refine keep_far ?_ GW268.out _ | refine keep_far ?_ GW269.out _ | refine keep_far ?_ GW281.out _) | exact HK.out)), (by repeat (first | (with_reducible first | exact HB.out | apply below_alloc | apply pw_below_drewN | apply below_drew1 | refine below_set ?_ (IsS81.ge HI0.out) | refine below_setA ?_ (by assumption)) | exact HB.out))⟩)
           ·skip
            rintro gb281 w10 ⟨hS_, h0_, h1_, h2_, h3_, h4_, h5_, h6_, h7_, h8_, h9_, h10_, h11_, h12_, h13_⟩
            have n0_ : Aside0 (w10.heap[gb268]? = some (.cells #[.bool a1_0, .slice A1_1 l1_1.length c1_1] 24 (0, 0))) := ⟨h0_⟩
            have n1_ : Aside0 (w10.heap[gb269]? = some (.cells #[.bool false, .slice none 0 0] 24 (0, 0))) := ⟨h1_⟩
            have n2_ : Aside0 (w10.heap[gb281]? = some (.cells #[.int .i64 0, .int .i64 0] 29 (0, 0))) := ⟨h2_⟩
            have n3_ : Aside0 (w.heap.size ≤ gb281) := ⟨h3_⟩
            have n4_ : Aside0 (w0.heap.size ≤ gb281) := ⟨h4_⟩
            have n5_ : Aside0 (g ≠ gb281) := ⟨h5_⟩
            have n6_ : Aside0 (gb281 ≠ g) := ⟨h6_⟩
            have n7_ : Aside0 (gb268 ≠ gb281) := ⟨h7_⟩
            have n8_ : Aside0 (gb281 ≠ gb268) := ⟨h8_⟩
            have n9_ : Aside0 (gb269 ≠ gb281) := ⟨h9_⟩
            have n10_ : Aside0 (gb281 ≠ gb269) := ⟨h10_⟩
            have n11_ : Aside0 (IsS81 w0 w10 g s0_0 s0_1) := ⟨h11_⟩
            have n12_ : Aside0 (KeepBut w w10 g none) := ⟨h12_⟩
            have n13_ : Aside0 (Below w0.heap.size w0 w10) := ⟨h13_⟩
            clear BK268
            clear BK269
            clear HI0
            clear HK
            clear HB
            clear h0_ h1_ h2_ h3_ h4_ h5_ h6_ h7_ h8_ h9_ h10_ h11_ h12_ h13_
            have BK268 := n0_
            have BK269 := n1_
            have BK281 := n2_
            have GW281 := n3_
            have GE281 := n4_
            have NB0_281 := n5_
            have NB281_0 := n6_
            have NB268_281 := n7_
            have NB281_268 := n8_
            have NB269_281 := n9_
            have NB281_269 := n10_
            have HI0 := n11_
            have HK := n12_
            have HB := n13_
            clear n0_ n1_ n2_ n3_ n4_ n5_ n6_ n7_ n8_ n9_ n10_ n11_ n12_ n13_
            have hHeld : w10.cell? ⟨gb268, 0, none⟩ = some (.bool a1_0) ∧ w10.cell? ⟨gb268, 1, none⟩ = some (.slice A1_1 l1_1.length c1_1) := hS_
            refine norm_ (a' := ?_) ?_ ?_
            rotate_left
            ·simp only [putAll, Act.put, zS, z0, z1]
             rfl
            refine two_ (i := 1) (j := 6) (Ni := some 14) (Nj := some 5) #[true, true, false, false, false, false, false, true, false, false] #[true, false, false, false, false, false, true, true, false, false] rfl rfl rfl rfl (two_of HT_.out (by kernel_rfl)) (by decide) (by decide) (fun K hK => ?_) (fun K hK => ?_)
            ·skip
             refine goes_ Try.func47 (by kernel_rfl) rfl #[.int .i64 1] (by rfl) rfl rfl (by (try simp only [zT, zC, zN]); first | done | rfl | (simp only [zR, zL]; rfl)) ?_
             with_reducible refine (integer_Of.calls k 1 t270 t271 _ A3.out).mono ?_
             rintro e w11 ⟨v272, rfl, ho0, hb⟩
             refine ⟨_, rfl, ?_⟩
             have HO273 := zM (Kd.R_lower ho0 (keep_size (w := w) (g := g) (row := none) (by repeat (first | (with_reducible first | exact HK.out | apply KeepBut.set_ | apply keep_drewN | apply keep_drew | apply keep_alloc | refine keep_far ?_ GW268.out _ | refine keep_far ?_ GW269.out _ | refine keep_far ?_ GW281.out _) | exact HK.out))))
             replace BK268 := pzb BK268 hb
             replace BK269 := pzb BK269 hb
             replace BK281 := pzb BK281 hb
             replace HK := zM (KeepBut.trans (by repeat (first | (with_reducible first | exact HK.out | apply KeepBut.set_ | apply keep_drewN | apply keep_drew | apply keep_alloc | refine keep_far ?_ GW268.out _ | refine keep_far ?_ GW269.out _ | refine keep_far ?_ GW281.out _) | exact HK.out)) (KeepBut.of_below hb g none) (.inl rfl))
             replace HB := zM (below_step (by repeat (first | (with_reducible first | exact HB.out | apply below_alloc | apply pw_below_drewN | apply below_drew1 | refine below_set ?_ (IsS81.ge HI0.out) | refine below_setA ?_ (by assumption)) | exact HB.out)) hb)
             replace HI0 := zM (IsS81.below (by repeat (first | (with_reducible first | exact HI0.out | apply IsS81.alloc | apply IsS81.drewN | apply IsS81.drew | apply IsS81.set_0 | apply IsS81.set_1 | refine IsS81.far ?_ NB0_268.out _ | refine IsS81.far ?_ NB0_269.out _ | refine IsS81.far ?_ NB0_281.out _) | exact HI0.out)) hb)
             (try clear hb)
             (try clear hb2)
             (try clear hk)
             (try clear hi)
             (try clear ho0)
             refine hK.out _ _ ⟨(blk_cell BK268.out 0).trans rfl, (blk_cell BK268.out 1).trans rfl⟩ (fun hHeld => ?_)
             clear hK K
             refine norm_ (a' := ?_) ?_ ?_
             rotate_left
             ·show Act.put _ (some 14) _ = _
              simp only [Act.put, zS, z0, z1, i64_w, i32_w]
              rfl
             exact norm_ (by first | (simp only [putAll, Act.put, zS, z0, z1]; done) | (simp only [putAll, Act.put, zS, z0, z1]; rfl)) (hJ1_7 (_, gb281) _ ⟨hHeld, HO273.out, BK268.out, BK269.out, BK281.out, GW281.out, GE281.out, NB0_281.out, NB281_0.out, NB268_281.out, NB281_268.out, NB269_281.out, NB281_269.out, (by repeat (first | (with_reducible first | exact HI0.out | apply IsS81.alloc | apply IsS81.drewN | apply IsS81.drew | apply IsS81.set_0 | apply IsS81.set_1 | refine IsS81.far ?_ NB0_268.out _ | refine IsS81.far ?_ NB0_269.out _ | refine IsS81.far ?_ NB0_281.out _) | exact HI0.out)), (by repeat (first | (with_reducible first | exact HK.out | apply KeepBut.set_ | apply keep_drewN | apply keep_drew | apply keep_alloc | refine keep_far ?_ GW268.out _ | refine keep_far ?_ GW269.out _ | refine keep_far ?_ GW281.out _) | exact HK.out)), (by repeat (first | (with_reducible first | exact HB.out | apply below_alloc | apply pw_below_drewN | apply below_drew1 | refine below_set ?_ (IsS81.ge HI0.out) | refine below_setA ?_ (by assumption)) | exact HB.out))⟩)
            ·skip
             refine box_step ?hg (N := 5) ?hd (cs := #[.bool false, .slice none 0 0]) (t := 24) ?hr ?_; (case hd => rfl); (case hg => rfl); (case hr => first | (go_simp; done) | (go_simp; rfl))
             intro gb280 hg w11 hbox hb
             have BK280 := zM (hbox)
             have GW280 := zM ((by rw [hg]; exact (keep_size (w := w) (g := g) (row := none) (by repeat (first | (with_reducible first | exact HK.out | apply KeepBut.set_ | apply keep_drewN | apply keep_drew | apply keep_alloc | refine keep_far ?_ GW268.out _ | refine keep_far ?_ GW269.out _ | refine keep_far ?_ GW281.out _) | exact HK.out))) : w.heap.size ≤ gb280))
             have GE280 := zM ((Nat.le_trans HW0.out (by rw [hg]; exact (keep_size (w := w) (g := g) (row := none) (by repeat (first | (with_reducible first | exact HK.out | apply KeepBut.set_ | apply keep_drewN | apply keep_drew | apply keep_alloc | refine keep_far ?_ GW268.out _ | refine keep_far ?_ GW269.out _ | refine keep_far ?_ GW281.out _) | exact HK.out))) : w.heap.size ≤ gb280) : w0.heap.size ≤ gb280))
             have NB268_280 := pzf BK268 hg
             have NB280_268 := pzg BK268 hg
             have NB269_280 := pzf BK269 hg
             have NB280_269 := pzg BK269 hg
             have NB281_280 := pzf BK281 hg
             have NB280_281 := pzg BK281 hg
             have NB0_280 := zM ((by rw [hg]; exact Nat.ne_of_lt (IsS81.lt (show IsS81 w0 _ g s0_0 s0_1 from by repeat (first | (with_reducible first | exact HI0.out | apply IsS81.alloc | apply IsS81.drewN | apply IsS81.drew | apply IsS81.set_0 | apply IsS81.set_1 | refine IsS81.far ?_ NB0_268.out _ | refine IsS81.far ?_ NB0_269.out _ | refine IsS81.far ?_ NB0_281.out _) | exact HI0.out))) : g ≠ gb280))
             have NB280_0 := zM ((by rw [hg]; exact Nat.ne_of_gt (IsS81.lt (show IsS81 w0 _ g s0_0 s0_1 from by repeat (first | (with_reducible first | exact HI0.out | apply IsS81.alloc | apply IsS81.drewN | apply IsS81.drew | apply IsS81.set_0 | apply IsS81.set_1 | refine IsS81.far ?_ NB0_268.out _ | refine IsS81.far ?_ NB0_269.out _ | refine IsS81.far ?_ NB0_281.out _) | exact HI0.out))) : gb280 ≠ g))
             replace BK268 := pzb BK268 hb
             replace BK269 := pzb BK269 hb
             replace BK281 := pzb BK281 hb
             replace HK := zM (KeepBut.trans (by repeat (first | (with_reducible first | exact HK.out | apply KeepBut.set_ | apply keep_drewN | apply keep_drew | apply keep_alloc | refine keep_far ?_ GW268.out _ | refine keep_far ?_ GW269.out _ | refine keep_far ?_ GW281.out _) | exact HK.out)) (KeepBut.of_below hb g none) (.inl rfl))
             replace HB := zM (below_step (by repeat (first | (with_reducible first | exact HB.out | apply below_alloc | apply pw_below_drewN | apply below_drew1 | refine below_set ?_ (IsS81.ge HI0.out) | refine below_setA ?_ (by assumption)) | exact HB.out)) hb)
             replace HI0 := zM (IsS81.below (by repeat (first | (with_reducible first | exact HI0.out | apply IsS81.alloc | apply IsS81.drewN | apply IsS81.drew | apply IsS81.set_0 | apply IsS81.set_1 | refine IsS81.far ?_ NB0_268.out _ | refine IsS81.far ?_ NB0_269.out _ | refine IsS81.far ?_ NB0_281.out _) | exact HI0.out)) hb)
             clear hb hbox hg
             refine hK.out _ _ ⟨(blk_cell BK268.out 0).trans rfl, (blk_cell BK268.out 1).trans rfl⟩ (fun hHeld => ?_)
             clear hK K
             refine norm_ (a' := ?_) ?_ ?_
             rotate_left
             ·show Act.put _ (some 5) _ = _
              simp only [Act.put, zS, z0, z1, i64_w, i32_w]
              rfl
             exact norm_ (by first | (simp only [putAll, Act.put, zS, z0, z1]; done) | (simp only [putAll, Act.put, zS, z0, z1]; rfl)) (hJ6_7 (gb280, gb281) _ ⟨hHeld, BK268.out, BK269.out, BK280.out, BK281.out, GW280.out, GE280.out, NB0_280.out, NB280_0.out, NB268_280.out, NB280_268.out, NB269_280.out, NB280_269.out, NB281_280.out, NB280_281.out, GW281.out, GE281.out, NB0_281.out, NB281_0.out, NB268_281.out, NB281_268.out, NB269_281.out, NB281_269.out, (by repeat (first | (with_reducible first | exact HI0.out | apply IsS81.alloc | apply IsS81.drewN | apply IsS81.drew | apply IsS81.set_0 | apply IsS81.set_1 | refine IsS81.far ?_ NB0_268.out _ | refine IsS81.far ?_ NB0_269.out _ | refine IsS81.far ?_ NB0_281.out _ | refine IsS81.far ?_ NB0_280.out _) | exact HI0.out)), (by repeat (first | (with_reducible first | exact HK.out | apply KeepBut.set_ | apply keep_drewN | apply keep_drew | apply keep_alloc | refine keep_far ?_ GW268.out _ | refine keep_far ?_ GW269.out _ | refine keep_far ?_ GW281.out _ | refine keep_far ?_ GW280.out _) | exact HK.out)), (by repeat (first | (with_reducible first | exact HB.out | apply below_alloc | apply pw_below_drewN | apply below_drew1 | refine below_set ?_ (IsS81.ge HI0.out) | refine below_setA ?_ (by assumption)) | exact HB.out))⟩)
          ·skip
           rintro gb280 w10 ⟨hS_, h0_, h1_, h2_, h3_, h4_, h5_, h6_, h7_, h8_, h9_, h10_, h11_, h12_, h13_⟩
           have n0_ : Aside0 (w10.heap[gb268]? = some (.cells #[.bool a1_0, .slice A1_1 l1_1.length c1_1] 24 (0, 0))) := ⟨h0_⟩
           have n1_ : Aside0 (w10.heap[gb269]? = some (.cells #[.bool false, .slice none 0 0] 24 (0, 0))) := ⟨h1_⟩
           have n2_ : Aside0 (w10.heap[gb280]? = some (.cells #[.bool false, .slice none 0 0] 24 (0, 0))) := ⟨h2_⟩
           have n3_ : Aside0 (w.heap.size ≤ gb280) := ⟨h3_⟩
           have n4_ : Aside0 (w0.heap.size ≤ gb280) := ⟨h4_⟩
           have n5_ : Aside0 (g ≠ gb280) := ⟨h5_⟩
           have n6_ : Aside0 (gb280 ≠ g) := ⟨h6_⟩
           have n7_ : Aside0 (gb268 ≠ gb280) := ⟨h7_⟩
           have n8_ : Aside0 (gb280 ≠ gb268) := ⟨h8_⟩
           have n9_ : Aside0 (gb269 ≠ gb280) := ⟨h9_⟩
           have n10_ : Aside0 (gb280 ≠ gb269) := ⟨h10_⟩
           have n11_ : Aside0 (IsS81 w0 w10 g s0_0 s0_1) := ⟨h11_⟩
           have n12_ : Aside0 (KeepBut w w10 g none) := ⟨h12_⟩
           have n13_ : Aside0 (Below w0.heap.size w0 w10) := ⟨h13_⟩
           clear BK268
           clear BK269
           clear HI0
           clear HK
           clear HB
           clear h0_ h1_ h2_ h3_ h4_ h5_ h6_ h7_ h8_ h9_ h10_ h11_ h12_ h13_
           have BK268 := n0_
           have BK269 := n1_
           have BK280 := n2_
           have GW280 := n3_
           have GE280 := n4_
           have NB0_280 := n5_
           have NB280_0 := n6_
           have NB268_280 := n7_
           have NB280_268 := n8_
           have NB269_280 := n9_
           have NB280_269 := n10_
           have HI0 := n11_
           have HK := n12_
           have HB := n13_
           clear n0_ n1_ n2_ n3_ n4_ n5_ n6_ n7_ n8_ n9_ n10_ n11_ n12_ n13_
           have hHeld : w10.cell? ⟨gb268, 0, none⟩ = some (.bool a1_0) ∧ w10.cell? ⟨gb268, 1, none⟩ = some (.slice A1_1 l1_1.length c1_1) := hS_
           refine norm_ (a' := ?_) ?_ ?_
           rotate_left
           ·simp only [putAll, Act.put, zS, z0, z1]
            rfl
           refine two_ (i := 1) (j := 7) (Ni := some 14) (Nj := some 6) #[true, true, false, false, false, false, true, false, false, false] #[true, false, false, false, false, false, true, true, false, false] rfl rfl rfl rfl (two_of HT_.out (by kernel_rfl)) (by decide) (by decide) (fun K hK => ?_) (fun K hK => ?_)
           ·skip
            refine goes_ Try.func47 (by kernel_rfl) rfl #[.int .i64 1] (by rfl) rfl rfl (by (try simp only [zT, zC, zN]); first | done | rfl | (simp only [zR, zL]; rfl)) ?_
            with_reducible refine (integer_Of.calls k 1 t270 t271 _ A3.out).mono ?_
            rintro e w11 ⟨v272, rfl, ho0, hb⟩
            refine ⟨_, rfl, ?_⟩
            have HO273 := zM (Kd.R_lower ho0 (keep_size (w := w) (g := g) (row := none) (by repeat (first | (with_reducible first | exact HK.out | apply KeepBut.set_ | apply keep_drewN | apply keep_drew | apply keep_alloc | refine keep_far ?_ GW268.out _ | refine keep_far ?_ GW269.out _ | refine keep_far ?_ GW280.out _) | exact HK.out))))
            replace BK268 := pzb BK268 hb
            replace BK269 := pzb BK269 hb
            replace BK280 := pzb BK280 hb
            replace HK := zM (KeepBut.trans (by repeat (first | (with_reducible first | exact HK.out | apply KeepBut.set_ | apply keep_drewN | apply keep_drew | apply keep_alloc | refine keep_far ?_ GW268.out _ | refine keep_far ?_ GW269.out _ | refine keep_far ?_ GW280.out _) | exact HK.out)) (KeepBut.of_below hb g none) (.inl rfl))
            replace HB := zM (below_step (by repeat (first | (with_reducible first | exact HB.out | apply below_alloc | apply pw_below_drewN | apply below_drew1 | refine below_set ?_ (IsS81.ge HI0.out) | refine below_setA ?_ (by assumption)) | exact HB.out)) hb)
            replace HI0 := zM (IsS81.below (by repeat (first | (with_reducible first | exact HI0.out | apply IsS81.alloc | apply IsS81.drewN | apply IsS81.drew | apply IsS81.set_0 | apply IsS81.set_1 | refine IsS81.far ?_ NB0_268.out _ | refine IsS81.far ?_ NB0_269.out _ | refine IsS81.far ?_ NB0_280.out _) | exact HI0.out)) hb)
            (try clear hb)
            (try clear hb2)
            (try clear hk)
            (try clear hi)
            (try clear ho0)
            refine hK.out _ _ ⟨(blk_cell BK268.out 0).trans rfl, (blk_cell BK268.out 1).trans rfl⟩ (fun hHeld => ?_)
            clear hK K
            refine norm_ (a' := ?_) ?_ ?_
            rotate_left
            ·show Act.put _ (some 14) _ = _
             simp only [Act.put, zS, z0, z1, i64_w, i32_w]
             rfl
            exact norm_ (by first | (simp only [putAll, Act.put, zS, z0, z1]; done) | (simp only [putAll, Act.put, zS, z0, z1]; rfl)) (hJ1_6 (_, gb280) _ ⟨hHeld, HO273.out, BK268.out, BK269.out, BK280.out, GW280.out, GE280.out, NB0_280.out, NB280_0.out, NB268_280.out, NB280_268.out, NB269_280.out, NB280_269.out, (by repeat (first | (with_reducible first | exact HI0.out | apply IsS81.alloc | apply IsS81.drewN | apply IsS81.drew | apply IsS81.set_0 | apply IsS81.set_1 | refine IsS81.far ?_ NB0_268.out _ | refine IsS81.far ?_ NB0_269.out _ | refine IsS81.far ?_ NB0_280.out _) | exact HI0.out)), (by repeat (first | (with_reducible first | exact HK.out | apply KeepBut.set_ | apply keep_drewN | apply keep_drew | apply keep_alloc | refine keep_far ?_ GW268.out _ | refine keep_far ?_ GW269.out _ | refine keep_far ?_ GW280.out _) | exact HK.out)), (by repeat (first | (with_reducible first | exact HB.out | apply below_alloc | apply pw_below_drewN | apply below_drew1 | refine below_set ?_ (IsS81.ge HI0.out) | refine below_setA ?_ (by assumption)) | exact HB.out))⟩)
           ·skip
            refine box_step ?hg (N := 6) ?hd (cs := #[.int .i64 0, .int .i64 0]) (t := 29) ?hr ?_; (case hd => rfl); (case hg => rfl); (case hr => first | (go_simp; done) | (go_simp; rfl))
            intro gb281 hg w11 hbox hb
            have BK281 := zM (hbox)
            have GW281 := zM ((by rw [hg]; exact (keep_size (w := w) (g := g) (row := none) (by repeat (first | (with_reducible first | exact HK.out | apply KeepBut.set_ | apply keep_drewN | apply keep_drew | apply keep_alloc | refine keep_far ?_ GW268.out _ | refine keep_far ?_ GW269.out _ | refine keep_far ?_ GW280.out _) | exact HK.out))) : w.heap.size ≤ gb281))
            have GE281 := zM ((Nat.le_trans HW0.out (by rw [hg]; exact (keep_size (w := w) (g := g) (row := none) (by repeat (first | (with_reducible first | exact HK.out | apply KeepBut.set_ | apply keep_drewN | apply keep_drew | apply keep_alloc | refine keep_far ?_ GW268.out _ | refine keep_far ?_ GW269.out _ | refine keep_far ?_ GW280.out _) | exact HK.out))) : w.heap.size ≤ gb281) : w0.heap.size ≤ gb281))
            have NB268_281 := pzf BK268 hg
            have NB281_268 := pzg BK268 hg
            have NB269_281 := pzf BK269 hg
            have NB281_269 := pzg BK269 hg
            have NB280_281 := pzf BK280 hg
            have NB281_280 := pzg BK280 hg
            have NB0_281 := zM ((by rw [hg]; exact Nat.ne_of_lt (IsS81.lt (show IsS81 w0 _ g s0_0 s0_1 from by repeat (first | (with_reducible first | exact HI0.out | apply IsS81.alloc | apply IsS81.drewN | apply IsS81.drew | apply IsS81.set_0 | apply IsS81.set_1 | refine IsS81.far ?_ NB0_268.out _ | refine IsS81.far ?_ NB0_269.out _ | refine IsS81.far ?_ NB0_280.out _) | exact HI0.out))) : g ≠ gb281))
            have NB281_0 := zM ((by rw [hg]; exact Nat.ne_of_gt (IsS81.lt (show IsS81 w0 _ g s0_0 s0_1 from by repeat (first | (with_reducible first | exact HI0.out | apply IsS81.alloc | apply IsS81.drewN | apply IsS81.drew | apply IsS81.set_0 | apply IsS81.set_1 | refine IsS81.far ?_ NB0_268.out _ | refine IsS81.far ?_ NB0_269.out _ | refine IsS81.far ?_ NB0_280.out _) | exact HI0.out))) : gb281 ≠ g))
            replace BK268 := pzb BK268 hb
            replace BK269 := pzb BK269 hb
            replace BK280 := pzb BK280 hb
            replace HK := zM (KeepBut.trans (by repeat (first | (with_reducible first | exact HK.out | apply KeepBut.set_ | apply keep_drewN | apply keep_drew | apply keep_alloc | refine keep_far ?_ GW268.out _ | refine keep_far ?_ GW269.out _ | refine keep_far ?_ GW280.out _) | exact HK.out)) (KeepBut.of_below hb g none) (.inl rfl))
            replace HB := zM (below_step (by repeat (first | (with_reducible first | exact HB.out | apply below_alloc | apply pw_below_drewN | apply below_drew1 | refine below_set ?_ (IsS81.ge HI0.out) | refine below_setA ?_ (by assumption)) | exact HB.out)) hb)
            replace HI0 := zM (IsS81.below (by repeat (first | (with_reducible first | exact HI0.out | apply IsS81.alloc | apply IsS81.drewN | apply IsS81.drew | apply IsS81.set_0 | apply IsS81.set_1 | refine IsS81.far ?_ NB0_268.out _ | refine IsS81.far ?_ NB0_269.out _ | refine IsS81.far ?_ NB0_280.out _) | exact HI0.out)) hb)
            clear hb hbox hg
            refine hK.out _ _ ⟨(blk_cell BK268.out 0).trans rfl, (blk_cell BK268.out 1).trans rfl⟩ (fun hHeld => ?_)
            clear hK K
            refine norm_ (a' := ?_) ?_ ?_
            rotate_left
            ·show Act.put _ (some 6) _ = _
             simp only [Act.put, zS, z0, z1, i64_w, i32_w]
             rfl
            exact norm_ (by first | (simp only [putAll, Act.put, zS, z0, z1]; done) | (simp only [putAll, Act.put, zS, z0, z1]; rfl)) (hJ6_7 (gb280, gb281) _ ⟨hHeld, BK268.out, BK269.out, BK280.out, BK281.out, GW280.out, GE280.out, NB0_280.out, NB280_0.out, NB268_280.out, NB280_268.out, NB269_280.out, NB280_269.out, NB281_280.out, NB280_281.out, GW281.out, GE281.out, NB0_281.out, NB281_0.out, NB268_281.out, NB281_268.out, NB269_281.out, NB281_269.out, (by repeat (first | (with_reducible first | exact HI0.out | apply IsS81.alloc | apply IsS81.drewN | apply IsS81.drew | apply IsS81.set_0 | apply IsS81.set_1 | refine IsS81.far ?_ NB0_268.out _ | refine IsS81.far ?_ NB0_269.out _ | refine IsS81.far ?_ NB0_280.out _ | refine IsS81.far ?_ NB0_281.out _) | exact HI0.out)), (by repeat (first | (with_reducible first | exact HK.out | apply KeepBut.set_ | apply keep_drewN | apply keep_drew | apply keep_alloc | refine keep_far ?_ GW268.out _ | refine keep_far ?_ GW269.out _ | refine keep_far ?_ GW280.out _ | refine keep_far ?_ GW281.out _) | exact HK.out)), (by repeat (first | (with_reducible first | exact HB.out | apply below_alloc | apply pw_below_drewN | apply below_drew1 | refine below_set ?_ (IsS81.ge HI0.out) | refine below_setA ?_ (by assumption)) | exact HB.out))⟩)
         ·skip
          rintro v272 w10 ⟨hS_, h0_, h1_, h2_, h3_, h4_, h5_⟩
          have n0_ : Aside0 (Kd.R (Kd.int .u32) 76 w10 w.heap.size (fun _ => True) v272 t271) := ⟨h0_⟩
          have n1_ : Aside0 (w10.heap[gb268]? = some (.cells #[.bool a1_0, .slice A1_1 l1_1.length c1_1] 24 (0, 0))) := ⟨h1_⟩
          have n2_ : Aside0 (w10.heap[gb269]? = some (.cells #[.bool false, .slice none 0 0] 24 (0, 0))) := ⟨h2_⟩
          have n3_ : Aside0 (IsS81 w0 w10 g s0_0 s0_1) := ⟨h3_⟩
          have n4_ : Aside0 (KeepBut w w10 g none) := ⟨h4_⟩
          have n5_ : Aside0 (Below w0.heap.size w0 w10) := ⟨h5_⟩
          clear BK268
          clear BK269
          clear HI0
          clear HK
          clear HB
          clear h0_ h1_ h2_ h3_ h4_ h5_
          have HO273 := n0_
          have BK268 := n1_
          have BK269 := n2_
          have HI0 := n3_
          have HK := n4_
          have HB := n5_
          clear n0_ n1_ n2_ n3_ n4_ n5_
          have hHeld : w10.cell? ⟨gb268, 0, none⟩ = some (.bool a1_0) ∧ w10.cell? ⟨gb268, 1, none⟩ = some (.slice A1_1 l1_1.length c1_1) := hS_
          obtain ⟨Ao11, co11, eo11⟩ := Kd.R_slice HO273.out
          (first | subst eo11 | (injection eo11 with f1_ f2_ f3_; have f4_ := f1_.symm; have f5_ := f3_.symm; clear f1_ f2_ f3_; subst f4_; subst f5_))
          refine norm_ (a' := ?_) ?_ ?_
          rotate_left
          ·simp only [putAll, Act.put, zS, z0, z1]
           rfl
          refine three_ (i := 2) (j := 6) (k := 7) (Ni := some 15) (Nj := some 5) (Nk := some 6) #[true, true, true, false, false, false, false, false, false, false] #[true, true, false, false, false, false, true, false, false, false] #[true, true, false, false, false, false, false, true, false, false] rfl rfl rfl rfl rfl rfl (three_of HT_.out (by kernel_rfl)) (by decide) (by decide) (by decide) (fun K hK => ?_) (fun K hK => ?_) (fun K hK => ?_)
          ·skip
           refine goes_ Try.func45 (by kernel_rfl) rfl #[.agg #[.bool a1_0, .slice A1_1 l1_1.length c1_1], .agg #[.bool t270, .slice Ao11 t271.length co11]] (by rfl) rfl rfl (by (try simp only [zT, zC, zN]); first | done | rfl | (simp only [zR, zL]; rfl)) ?_
           with_reducible refine (integer_Sub.calls k a1_0 _ _ l1_1 t270 _ _ t271 t274 t275 t278 t279 _ ?side1 ?side2 ?side3 ?side4 A4.out).mono ?_
           (case side1 => exact Kd.C_keep 0 HR1_1.out (by repeat (first | (with_reducible first | exact HK.out | apply KeepBut.set_ | apply keep_drewN | apply keep_drew | apply keep_alloc | refine keep_far ?_ GW268.out _ | refine keep_far ?_ GW269.out _) | exact HK.out)) hf1_1)
           (case side2 => exact HC1_1.out)
           (case side3 => repeat (first | exact (Kd.R_reads' HO273.out).2.2 | (with_reducible refine Kd.C_alloc ?_ _) | (with_reducible refine Kd.C_drewN ?_ _) | (with_reducible refine Kd.C_drew ?_)))
           (case side4 => exact (Kd.R_reads' HO273.out).2.1)
           rintro e w12 ⟨v276, rfl, ho0, hb⟩
           refine ⟨_, rfl, ?_⟩
           have HO277 := zM (Kd.V_lower (Kd.V_mono (ok' := fun k_ => some k_ ≠ (.slice Ao11 t271.length co11 : Value).ownBlock ∧ k_ ≠ gb268 ∧ k_ ≠ gb269 ∧ k_ ≠ g) ho0 (fun k_ hk_ => ⟨(Kd.fresh' (Kd.R_lt HO273.out) k_ hk_), (Kd.freshB (g := gb268) (o := .cells #[.bool a1_0, .slice A1_1 l1_1.length c1_1] 24 (0, 0)) BK268.out k_ hk_), (Kd.freshB (g := gb269) (o := .cells #[.bool false, .slice none 0 0] 24 (0, 0)) BK269.out k_ hk_), (IsS81.fresh (by repeat (first | (with_reducible first | exact HI0.out | apply IsS81.alloc | apply IsS81.drewN | apply IsS81.drew | apply IsS81.set_0 | apply IsS81.set_1 | refine IsS81.far ?_ NB0_268.out _ | refine IsS81.far ?_ NB0_269.out _) | exact HI0.out)) k_ hk_)⟩)) (keep_size (w := w) (g := g) (row := none) (by repeat (first | (with_reducible first | exact HK.out | apply KeepBut.set_ | apply keep_drewN | apply keep_drew | apply keep_alloc | refine keep_far ?_ GW268.out _ | refine keep_far ?_ GW269.out _) | exact HK.out))))
           replace HO273 := zM (Kd.R_below HO273.out hb)
           replace BK268 := pzb BK268 hb
           replace BK269 := pzb BK269 hb
           replace HK := zM (KeepBut.trans (by repeat (first | (with_reducible first | exact HK.out | apply KeepBut.set_ | apply keep_drewN | apply keep_drew | apply keep_alloc | refine keep_far ?_ GW268.out _ | refine keep_far ?_ GW269.out _) | exact HK.out)) (KeepBut.of_below hb g none) (.inl rfl))
           replace HB := zM (below_step (by repeat (first | (with_reducible first | exact HB.out | apply below_alloc | apply pw_below_drewN | apply below_drew1 | refine below_set ?_ (IsS81.ge HI0.out) | refine below_setA ?_ (by assumption)) | exact HB.out)) hb)
           replace HI0 := zM (IsS81.below (by repeat (first | (with_reducible first | exact HI0.out | apply IsS81.alloc | apply IsS81.drewN | apply IsS81.drew | apply IsS81.set_0 | apply IsS81.set_1 | refine IsS81.far ?_ NB0_268.out _ | refine IsS81.far ?_ NB0_269.out _) | exact HI0.out)) hb)
           (try clear hb)
           (try clear hb2)
           (try clear hk)
           (try clear hi)
           (try clear ho0)
           refine hK.out _ _ ⟨(blk_cell BK268.out 0).trans rfl, (blk_cell BK268.out 1).trans rfl⟩ (fun hHeld => ?_)
           clear hK K
           refine norm_ (a' := ?_) ?_ ?_
           rotate_left
           ·show Act.put _ (some 15) _ = _
            simp only [Act.put, zS, z0, z1, i64_w, i32_w]
            rfl
           refine pure_ (i := 3) (N := some 12) (v := ?_) (a' := ?_) #[true, true, true, true, false, false, false, false, false, false] rfl rfl (any_of HT_.out (by kernel_rfl)) (fun _ _ _ h => h) (Or.inl ⟨by rfl, ?_⟩) ?_ ?_
           rotate_left
           ·intro w'
            go_simp
            with_reducible rfl
           rotate_left
           ·simp only [Act.put, zS, z0, z1, i64_w, i32_w]
            rfl
           refine pure_ (i := 4) (N := some 16) (v := ?_) (a' := ?_) #[true, true, true, true, true, false, false, false, false, false] rfl rfl (any_of HT_.out (by kernel_rfl)) (fun _ _ _ h => h) (Or.inl ⟨by rfl, ?_⟩) ?_ ?_
           rotate_left
           ·intro w'
            go_simp
            with_reducible rfl
           rotate_left
           ·simp only [Act.put, zS, z0, z1, i64_w, i32_w]
            rfl
           refine pure_ (i := 5) (N := some 17) (v := ?_) (a' := ?_) #[true, true, true, true, true, true, false, false, false, false] rfl rfl (any_of HT_.out (by kernel_rfl)) (fun _ _ _ h => h) (Or.inl ⟨by rfl, ?_⟩) ?_ ?_
           rotate_left
           ·intro w'
            go_simp
            with_reducible rfl
           rotate_left
           ·simp only [Act.put, zS, z0, z1, i64_w, i32_w]
            rfl
           exact norm_ (by first | (simp only [putAll, Act.put, zS, z0, z1]; done) | (simp only [putAll, Act.put, zS, z0, z1]; rfl)) (hJ1_2 (.slice Ao11 t271.length co11, v276) _ ⟨hHeld, HO273.out, (by (with_reducible repeat (first | apply Kd.V_alloc | apply Kd.V_drewN | apply Kd.V_drew)); exact Kd.V_mono HO277.out (fun _ hk => ⟨hk.1, ⟨hk.2.2.2, ⟨hk.2.1, hk.2.2.1⟩⟩⟩)), BK268.out, BK269.out, (by repeat (first | (with_reducible first | exact HI0.out | apply IsS81.alloc | apply IsS81.drewN | apply IsS81.drew | apply IsS81.set_0 | apply IsS81.set_1 | refine IsS81.far ?_ NB0_268.out _ | refine IsS81.far ?_ NB0_269.out _) | exact HI0.out)), (by repeat (first | (with_reducible first | exact HK.out | apply KeepBut.set_ | apply keep_drewN | apply keep_drew | apply keep_alloc | refine keep_far ?_ GW268.out _ | refine keep_far ?_ GW269.out _) | exact HK.out)), (by repeat (first | (with_reducible first | exact HB.out | apply below_alloc | apply pw_below_drewN | apply below_drew1 | refine below_set ?_ (IsS81.ge HI0.out) | refine below_setA ?_ (by assumption)) | exact HB.out))⟩)
          ·skip
           refine box_step ?hg (N := 5) ?hd (cs := #[.bool false, .slice none 0 0]) (t := 24) ?hr ?_; (case hd => rfl); (case hg => rfl); (case hr => first | (go_simp; done) | (go_simp; rfl))
           intro gb280 hg w11 hbox hb
           have BK280 := zM (hbox)
           have GW280 := zM ((by rw [hg]; exact (keep_size (w := w) (g := g) (row := none) (by repeat (first | (with_reducible first | exact HK.out | apply KeepBut.set_ | apply keep_drewN | apply keep_drew | apply keep_alloc | refine keep_far ?_ GW268.out _ | refine keep_far ?_ GW269.out _) | exact HK.out))) : w.heap.size ≤ gb280))
           have GE280 := zM ((Nat.le_trans HW0.out (by rw [hg]; exact (keep_size (w := w) (g := g) (row := none) (by repeat (first | (with_reducible first | exact HK.out | apply KeepBut.set_ | apply keep_drewN | apply keep_drew | apply keep_alloc | refine keep_far ?_ GW268.out _ | refine keep_far ?_ GW269.out _) | exact HK.out))) : w.heap.size ≤ gb280) : w0.heap.size ≤ gb280))
           have NB268_280 := pzf BK268 hg
           have NB280_268 := pzg BK268 hg
           have NB269_280 := pzf BK269 hg
           have NB280_269 := pzg BK269 hg
           have NB0_280 := zM ((by rw [hg]; exact Nat.ne_of_lt (IsS81.lt (show IsS81 w0 _ g s0_0 s0_1 from by repeat (first | (with_reducible first | exact HI0.out | apply IsS81.alloc | apply IsS81.drewN | apply IsS81.drew | apply IsS81.set_0 | apply IsS81.set_1 | refine IsS81.far ?_ NB0_268.out _ | refine IsS81.far ?_ NB0_269.out _) | exact HI0.out))) : g ≠ gb280))
           have NB280_0 := zM ((by rw [hg]; exact Nat.ne_of_gt (IsS81.lt (show IsS81 w0 _ g s0_0 s0_1 from by repeat (first | (with_reducible first | exact HI0.out | apply IsS81.alloc | apply IsS81.drewN | apply IsS81.drew | apply IsS81.set_0 | apply IsS81.set_1 | refine IsS81.far ?_ NB0_268.out _ | refine IsS81.far ?_ NB0_269.out _) | exact HI0.out))) : gb280 ≠ g))
           replace HO273 := zM (Kd.R_below HO273.out hb)
           replace BK268 := pzb BK268 hb
           replace BK269 := pzb BK269 hb
           replace HK := zM (KeepBut.trans (by repeat (first | (with_reducible first | exact HK.out | apply KeepBut.set_ | apply keep_drewN | apply keep_drew | apply keep_alloc | refine keep_far ?_ GW268.out _ | refine keep_far ?_ GW269.out _) | exact HK.out)) (KeepBut.of_below hb g none) (.inl rfl))
           replace HB := zM (below_step (by repeat (first | (with_reducible first | exact HB.out | apply below_alloc | apply pw_below_drewN | apply below_drew1 | refine below_set ?_ (IsS81.ge HI0.out) | refine below_setA ?_ (by assumption)) | exact HB.out)) hb)
           replace HI0 := zM (IsS81.below (by repeat (first | (with_reducible first | exact HI0.out | apply IsS81.alloc | apply IsS81.drewN | apply IsS81.drew | apply IsS81.set_0 | apply IsS81.set_1 | refine IsS81.far ?_ NB0_268.out _ | refine IsS81.far ?_ NB0_269.out _) | exact HI0.out)) hb)
           clear hb hbox hg
           refine hK.out _ _ ⟨(blk_cell BK268.out 0).trans rfl, (blk_cell BK268.out 1).trans rfl⟩ (fun hHeld => ?_)
           clear hK K
           refine norm_ (a' := ?_) ?_ ?_
           rotate_left
           ·show Act.put _ (some 5) _ = _
            simp only [Act.put, zS, z0, z1, i64_w, i32_w]
            rfl
           exact norm_ (by first | (simp only [putAll, Act.put, zS, z0, z1]; done) | (simp only [putAll, Act.put, zS, z0, z1]; rfl)) (hJ1_6 (_, gb280) _ ⟨hHeld, HO273.out, BK268.out, BK269.out, BK280.out, GW280.out, GE280.out, NB0_280.out, NB280_0.out, NB268_280.out, NB280_268.out, NB269_280.out, NB280_269.out, (by repeat (first | (with_reducible first | exact HI0.out | apply IsS81.alloc | apply IsS81.drewN | apply IsS81.drew | apply IsS81.set_0 | apply IsS81.set_1 | refine IsS81.far ?_ NB0_268.out _ | refine IsS81.far ?_ NB0_269.out _ | refine IsS81.far ?_ NB0_280.out _) | exact HI0.out)), (by repeat (first | (with_reducible first | exact HK.out | apply KeepBut.set_ | apply keep_drewN | apply keep_drew | apply keep_alloc | refine keep_far ?_ GW268.out _ | refine keep_far ?_ GW269.out _ | refine keep_far ?_ GW280.out _) | exact HK.out)), (by repeat (first | (with_reducible first | exact HB.out | apply below_alloc | apply pw_below_drewN | apply below_drew1 | refine below_set ?_ (IsS81.ge HI0.out) | refine below_setA ?_ (by assumption)) | exact HB.out))⟩)
          ·skip
           refine box_step ?hg (N := 6) ?hd (cs := #[.int .i64 0, .int .i64 0]) (t := 29) ?hr ?_; (case hd => rfl); (case hg => rfl); (case hr => first | (go_simp; done) | (go_simp; rfl))
           intro gb281 hg w11 hbox hb
           have BK281 := zM (hbox)
           have GW281 := zM ((by rw [hg]; exact (keep_size (w := w) (g := g) (row := none) (by repeat (first | (with_reducible first | exact HK.out | apply KeepBut.set_ | apply keep_drewN | apply keep_drew | apply keep_alloc | refine keep_far ?_ GW268.out _ | refine keep_far ?_ GW269.out _) | exact HK.out))) : w.heap.size ≤ gb281))
           have GE281 := zM ((Nat.le_trans HW0.out (by rw [hg]; exact (keep_size (w := w) (g := g) (row := none) (by repeat (first | (with_reducible first | exact HK.out | apply KeepBut.set_ | apply keep_drewN | apply keep_drew | apply keep_alloc | refine keep_far ?_ GW268.out _ | refine keep_far ?_ GW269.out _) | exact HK.out))) : w.heap.size ≤ gb281) : w0.heap.size ≤ gb281))
           have NB268_281 := pzf BK268 hg
           have NB281_268 := pzg BK268 hg
           have NB269_281 := pzf BK269 hg
           have NB281_269 := pzg BK269 hg
           have NB0_281 := zM ((by rw [hg]; exact Nat.ne_of_lt (IsS81.lt (show IsS81 w0 _ g s0_0 s0_1 from by repeat (first | (with_reducible first | exact HI0.out | apply IsS81.alloc | apply IsS81.drewN | apply IsS81.drew | apply IsS81.set_0 | apply IsS81.set_1 | refine IsS81.far ?_ NB0_268.out _ | refine IsS81.far ?_ NB0_269.out _) | exact HI0.out))) : g ≠ gb281))
           have NB281_0 := zM ((by rw [hg]; exact Nat.ne_of_gt (IsS81.lt (show IsS81 w0 _ g s0_0 s0_1 from by repeat (first | (with_reducible first | exact HI0.out | apply IsS81.alloc | apply IsS81.drewN | apply IsS81.drew | apply IsS81.set_0 | apply IsS81.set_1 | refine IsS81.far ?_ NB0_268.out _ | refine IsS81.far ?_ NB0_269.out _) | exact HI0.out))) : gb281 ≠ g))
           replace HO273 := zM (Kd.R_below HO273.out hb)
           replace BK268 := pzb BK268 hb
           replace BK269 := pzb BK269 hb
           replace HK := zM (KeepBut.trans (by repeat (first | (with_reducible first | exact HK.out | apply KeepBut.set_ | apply keep_drewN | apply keep_drew | apply keep_alloc | refine keep_far ?_ GW268.out _ | refine keep_far ?_ GW269.out _) | exact HK.out)) (KeepBut.of_below hb g none) (.inl rfl))
           replace HB := zM (below_step (by repeat (first | (with_reducible first | exact HB.out | apply below_alloc | apply pw_below_drewN | apply below_drew1 | refine below_set ?_ (IsS81.ge HI0.out) | refine below_setA ?_ (by assumption)) | exact HB.out)) hb)
           replace HI0 := zM (IsS81.below (by repeat (first | (with_reducible first | exact HI0.out | apply IsS81.alloc | apply IsS81.drewN | apply IsS81.drew | apply IsS81.set_0 | apply IsS81.set_1 | refine IsS81.far ?_ NB0_268.out _ | refine IsS81.far ?_ NB0_269.out _) | exact HI0.out)) hb)
           clear hb hbox hg
           refine hK.out _ _ ⟨(blk_cell BK268.out 0).trans rfl, (blk_cell BK268.out 1).trans rfl⟩ (fun hHeld => ?_)
           clear hK K
           refine norm_ (a' := ?_) ?_ ?_
           rotate_left
           ·show Act.put _ (some 6) _ = _
            simp only [Act.put, zS, z0, z1, i64_w, i32_w]
            rfl
           exact norm_ (by first | (simp only [putAll, Act.put, zS, z0, z1]; done) | (simp only [putAll, Act.put, zS, z0, z1]; rfl)) (hJ1_7 (_, gb281) _ ⟨hHeld, HO273.out, BK268.out, BK269.out, BK281.out, GW281.out, GE281.out, NB0_281.out, NB281_0.out, NB268_281.out, NB281_268.out, NB269_281.out, NB281_269.out, (by repeat (first | (with_reducible first | exact HI0.out | apply IsS81.alloc | apply IsS81.drewN | apply IsS81.drew | apply IsS81.set_0 | apply IsS81.set_1 | refine IsS81.far ?_ NB0_268.out _ | refine IsS81.far ?_ NB0_269.out _ | refine IsS81.far ?_ NB0_281.out _) | exact HI0.out)), (by repeat (first | (with_reducible first | exact HK.out | apply KeepBut.set_ | apply keep_drewN | apply keep_drew | apply keep_alloc | refine keep_far ?_ GW268.out _ | refine keep_far ?_ GW269.out _ | refine keep_far ?_ GW281.out _) | exact HK.out)), (by repeat (first | (with_reducible first | exact HB.out | apply below_alloc | apply pw_below_drewN | apply below_drew1 | refine below_set ?_ (IsS81.ge HI0.out) | refine below_setA ?_ (by assumption)) | exact HB.out))⟩)
        ·skip
         rintro ⟨gb280, gb281⟩ w11 ⟨hS_, h0_, h1_, h2_, h3_, h4_, h5_, h6_, h7_, h8_, h9_, h10_, h11_, h12_, h13_, h14_, h15_, h16_, h17_, h18_, h19_, h20_, h21_, h22_, h23_, h24_⟩
         have n0_ : Aside0 (w11.heap[gb268]? = some (.cells #[.bool a1_0, .slice A1_1 l1_1.length c1_1] 24 (0, 0))) := ⟨h0_⟩
         have n1_ : Aside0 (w11.heap[gb269]? = some (.cells #[.bool false, .slice none 0 0] 24 (0, 0))) := ⟨h1_⟩
         have n2_ : Aside0 (w11.heap[gb280]? = some (.cells #[.bool false, .slice none 0 0] 24 (0, 0))) := ⟨h2_⟩
         have n3_ : Aside0 (w11.heap[gb281]? = some (.cells #[.int .i64 0, .int .i64 0] 29 (0, 0))) := ⟨h3_⟩
         have n4_ : Aside0 (w.heap.size ≤ gb280) := ⟨h4_⟩
         have n5_ : Aside0 (w0.heap.size ≤ gb280) := ⟨h5_⟩
         have n6_ : Aside0 (g ≠ gb280) := ⟨h6_⟩
         have n7_ : Aside0 (gb280 ≠ g) := ⟨h7_⟩
         have n8_ : Aside0 (gb268 ≠ gb280) := ⟨h8_⟩
         have n9_ : Aside0 (gb280 ≠ gb268) := ⟨h9_⟩
         have n10_ : Aside0 (gb269 ≠ gb280) := ⟨h10_⟩
         have n11_ : Aside0 (gb280 ≠ gb269) := ⟨h11_⟩
         have n12_ : Aside0 (gb281 ≠ gb280) := ⟨h12_⟩
         have n13_ : Aside0 (gb280 ≠ gb281) := ⟨h13_⟩
         have n14_ : Aside0 (w.heap.size ≤ gb281) := ⟨h14_⟩
         have n15_ : Aside0 (w0.heap.size ≤ gb281) := ⟨h15_⟩
         have n16_ : Aside0 (g ≠ gb281) := ⟨h16_⟩
         have n17_ : Aside0 (gb281 ≠ g) := ⟨h17_⟩
         have n18_ : Aside0 (gb268 ≠ gb281) := ⟨h18_⟩
         have n19_ : Aside0 (gb281 ≠ gb268) := ⟨h19_⟩
         have n20_ : Aside0 (gb269 ≠ gb281) := ⟨h20_⟩
         have n21_ : Aside0 (gb281 ≠ gb269) := ⟨h21_⟩
         have n22_ : Aside0 (IsS81 w0 w11 g s0_0 s0_1) := ⟨h22_⟩
         have n23_ : Aside0 (KeepBut w w11 g none) := ⟨h23_⟩
         have n24_ : Aside0 (Below w0.heap.size w0 w11) := ⟨h24_⟩
         clear BK268
         clear BK269
         clear HI0
         clear HK
         clear HB
         clear h0_ h1_ h2_ h3_ h4_ h5_ h6_ h7_ h8_ h9_ h10_ h11_ h12_ h13_ h14_ h15_ h16_ h17_ h18_ h19_ h20_ h21_ h22_ h23_ h24_
         have BK268 := n0_
         have BK269 := n1_
         have BK280 := n2_
         have BK281 := n3_
         have GW280 := n4_
         have GE280 := n5_
         have NB0_280 := n6_
         have NB280_0 := n7_
         have NB268_280 := n8_
         have NB280_268 := n9_
         have NB269_280 := n10_
         have NB280_269 := n11_
         have NB281_280 := n12_
         have NB280_281 := n13_
         have GW281 := n14_
         have GE281 := n15_
         have NB0_281 := n16_
         have NB281_0 := n17_
         have NB268_281 := n18_
         have NB281_268 := n19_
         have NB269_281 := n20_
         have NB281_269 := n21_
         have HI0 := n22_
         have HK := n23_
         have HB := n24_
         clear n0_ n1_ n2_ n3_ n4_ n5_ n6_ n7_ n8_ n9_ n10_ n11_ n12_ n13_ n14_ n15_ n16_ n17_ n18_ n19_ n20_ n21_ n22_ n23_ n24_
         have hHeld : w11.cell? ⟨gb268, 0, none⟩ = some (.bool a1_0) ∧ w11.cell? ⟨gb268, 1, none⟩ = some (.slice A1_1 l1_1.length c1_1) := hS_
         refine norm_ (a' := ?_) ?_ ?_
         rotate_left
         ·simp only [putAll, Act.put, zS, z0, z1]
          rfl
         refine one_ (i := 1) (N := some 14) #[true, true, false, false, false, false, true, true, false, false] rfl rfl (one_of HT_.out (by kernel_rfl)) (by decide) (fun K hK => ?_)
         refine goes_ Try.func47 (by kernel_rfl) rfl #[.int .i64 1] (by rfl) rfl rfl (by (try simp only [zT, zC, zN]); first | done | rfl | (simp only [zR, zL]; rfl)) ?_
         with_reducible refine (integer_Of.calls k 1 t270 t271 _ A3.out).mono ?_
         rintro e w12 ⟨v272, rfl, ho0, hb⟩
         refine ⟨_, rfl, ?_⟩
         have HO273 := zM (Kd.R_lower ho0 (keep_size (w := w) (g := g) (row := none) (by repeat (first | (with_reducible first | exact HK.out | apply KeepBut.set_ | apply keep_drewN | apply keep_drew | apply keep_alloc | refine keep_far ?_ GW268.out _ | refine keep_far ?_ GW269.out _ | refine keep_far ?_ GW280.out _ | refine keep_far ?_ GW281.out _) | exact HK.out))))
         replace BK268 := pzb BK268 hb
         replace BK269 := pzb BK269 hb
         replace BK280 := pzb BK280 hb
         replace BK281 := pzb BK281 hb
         replace HK := zM (KeepBut.trans (by repeat (first | (with_reducible first | exact HK.out | apply KeepBut.set_ | apply keep_drewN | apply keep_drew | apply keep_alloc | refine keep_far ?_ GW268.out _ | refine keep_far ?_ GW269.out _ | refine keep_far ?_ GW280.out _ | refine keep_far ?_ GW281.out _) | exact HK.out)) (KeepBut.of_below hb g none) (.inl rfl))
         replace HB := zM (below_step (by repeat (first | (with_reducible first | exact HB.out | apply below_alloc | apply pw_below_drewN | apply below_drew1 | refine below_set ?_ (IsS81.ge HI0.out) | refine below_setA ?_ (by assumption)) | exact HB.out)) hb)
         replace HI0 := zM (IsS81.below (by repeat (first | (with_reducible first | exact HI0.out | apply IsS81.alloc | apply IsS81.drewN | apply IsS81.drew | apply IsS81.set_0 | apply IsS81.set_1 | refine IsS81.far ?_ NB0_268.out _ | refine IsS81.far ?_ NB0_269.out _ | refine IsS81.far ?_ NB0_280.out _ | refine IsS81.far ?_ NB0_281.out _) | exact HI0.out)) hb)
         (try clear hb)
         (try clear hb2)
         (try clear hk)
         (try clear hi)
         (try clear ho0)
         refine hK.out _ _ ⟨(blk_cell BK268.out 0).trans rfl, (blk_cell BK268.out 1).trans rfl⟩ (fun hHeld => ?_)
         clear hK K
         refine norm_ (a' := ?_) ?_ ?_
         rotate_left
         ·show Act.put _ (some 14) _ = _
          simp only [Act.put, zS, z0, z1, i64_w, i32_w]
          rfl
         exact norm_ (by first | (simp only [putAll, Act.put, zS, z0, z1]; done) | (simp only [putAll, Act.put, zS, z0, z1]; rfl)) (hJ1_6_7 (_, gb280, gb281) _ ⟨hHeld, HO273.out, BK268.out, BK269.out, BK280.out, BK281.out, GW280.out, GE280.out, NB0_280.out, NB280_0.out, NB268_280.out, NB280_268.out, NB269_280.out, NB280_269.out, NB281_280.out, NB280_281.out, GW281.out, GE281.out, NB0_281.out, NB281_0.out, NB268_281.out, NB281_268.out, NB269_281.out, NB281_269.out, (by repeat (first | (with_reducible first | exact HI0.out | apply IsS81.alloc | apply IsS81.drewN | apply IsS81.drew | apply IsS81.set_0 | apply IsS81.set_1 | refine IsS81.far ?_ NB0_268.out _ | refine IsS81.far ?_ NB0_269.out _ | refine IsS81.far ?_ NB0_280.out _ | refine IsS81.far ?_ NB0_281.out _) | exact HI0.out)), (by repeat (first | (with_reducible first | exact HK.out | apply KeepBut.set_ | apply keep_drewN | apply keep_drew | apply keep_alloc | refine keep_far ?_ GW268.out _ | refine keep_far ?_ GW269.out _ | refine keep_far ?_ GW280.out _ | refine keep_far ?_ GW281.out _) | exact HK.out)), (by repeat (first | (with_reducible first | exact HB.out | apply below_alloc | apply pw_below_drewN | apply below_drew1 | refine below_set ?_ (IsS81.ge HI0.out) | refine below_setA ?_ (by assumption)) | exact HB.out))⟩)
       ·skip
        rintro ⟨v272, gb281⟩ w11 ⟨hS_, h0_, h1_, h2_, h3_, h4_, h5_, h6_, h7_, h8_, h9_, h10_, h11_, h12_, h13_, h14_⟩
        have n0_ : Aside0 (Kd.R (Kd.int .u32) 76 w11 w.heap.size (fun _ => True) v272 t271) := ⟨h0_⟩
        have n1_ : Aside0 (w11.heap[gb268]? = some (.cells #[.bool a1_0, .slice A1_1 l1_1.length c1_1] 24 (0, 0))) := ⟨h1_⟩
        have n2_ : Aside0 (w11.heap[gb269]? = some (.cells #[.bool false, .slice none 0 0] 24 (0, 0))) := ⟨h2_⟩
        have n3_ : Aside0 (w11.heap[gb281]? = some (.cells #[.int .i64 0, .int .i64 0] 29 (0, 0))) := ⟨h3_⟩
        have n4_ : Aside0 (w.heap.size ≤ gb281) := ⟨h4_⟩
        have n5_ : Aside0 (w0.heap.size ≤ gb281) := ⟨h5_⟩
        have n6_ : Aside0 (g ≠ gb281) := ⟨h6_⟩
        have n7_ : Aside0 (gb281 ≠ g) := ⟨h7_⟩
        have n8_ : Aside0 (gb268 ≠ gb281) := ⟨h8_⟩
        have n9_ : Aside0 (gb281 ≠ gb268) := ⟨h9_⟩
        have n10_ : Aside0 (gb269 ≠ gb281) := ⟨h10_⟩
        have n11_ : Aside0 (gb281 ≠ gb269) := ⟨h11_⟩
        have n12_ : Aside0 (IsS81 w0 w11 g s0_0 s0_1) := ⟨h12_⟩
        have n13_ : Aside0 (KeepBut w w11 g none) := ⟨h13_⟩
        have n14_ : Aside0 (Below w0.heap.size w0 w11) := ⟨h14_⟩
        clear BK268
        clear BK269
        clear HI0
        clear HK
        clear HB
        clear h0_ h1_ h2_ h3_ h4_ h5_ h6_ h7_ h8_ h9_ h10_ h11_ h12_ h13_ h14_
        have HO273 := n0_
        have BK268 := n1_
        have BK269 := n2_
        have BK281 := n3_
        have GW281 := n4_
        have GE281 := n5_
        have NB0_281 := n6_
        have NB281_0 := n7_
        have NB268_281 := n8_
        have NB281_268 := n9_
        have NB269_281 := n10_
        have NB281_269 := n11_
        have HI0 := n12_
        have HK := n13_
        have HB := n14_
        clear n0_ n1_ n2_ n3_ n4_ n5_ n6_ n7_ n8_ n9_ n10_ n11_ n12_ n13_ n14_
        have hHeld : w11.cell? ⟨gb268, 0, none⟩ = some (.bool a1_0) ∧ w11.cell? ⟨gb268, 1, none⟩ = some (.slice A1_1 l1_1.length c1_1) := hS_
        obtain ⟨Ao12, co12, eo12⟩ := Kd.R_slice HO273.out
        (first | subst eo12 | (injection eo12 with f1_ f2_ f3_; have f4_ := f1_.symm; have f5_ := f3_.symm; clear f1_ f2_ f3_; subst f4_; subst f5_))
        refine norm_ (a' := ?_) ?_ ?_
        rotate_left
        ·simp only [putAll, Act.put, zS, z0, z1]
         rfl
        refine two_ (i := 2) (j := 6) (Ni := some 15) (Nj := some 5) #[true, true, true, false, false, false, false, true, false, false] #[true, true, false, false, false, false, true, true, false, false] rfl rfl rfl rfl (two_of HT_.out (by kernel_rfl)) (by decide) (by decide) (fun K hK => ?_) (fun K hK => ?_)
        ·skip
         refine goes_ Try.func45 (by kernel_rfl) rfl #[.agg #[.bool a1_0, .slice A1_1 l1_1.length c1_1], .agg #[.bool t270, .slice Ao12 t271.length co12]] (by rfl) rfl rfl (by (try simp only [zT, zC, zN]); first | done | rfl | (simp only [zR, zL]; rfl)) ?_
         with_reducible refine (integer_Sub.calls k a1_0 _ _ l1_1 t270 _ _ t271 t274 t275 t278 t279 _ ?side1 ?side2 ?side3 ?side4 A4.out).mono ?_
         (case side1 => exact Kd.C_keep 0 HR1_1.out (by repeat (first | (with_reducible first | exact HK.out | apply KeepBut.set_ | apply keep_drewN | apply keep_drew | apply keep_alloc | refine keep_far ?_ GW268.out _ | refine keep_far ?_ GW269.out _ | refine keep_far ?_ GW281.out _) | exact HK.out)) hf1_1)
         (case side2 => exact HC1_1.out)
         (case side3 => repeat (first | exact (Kd.R_reads' HO273.out).2.2 | (with_reducible refine Kd.C_alloc ?_ _) | (with_reducible refine Kd.C_drewN ?_ _) | (with_reducible refine Kd.C_drew ?_)))
         (case side4 => exact (Kd.R_reads' HO273.out).2.1)
         rintro e w13 ⟨v276, rfl, ho0, hb⟩
         refine ⟨_, rfl, ?_⟩
         have HO277 := zM (Kd.V_lower (Kd.V_mono (ok' := fun k_ => some k_ ≠ (.slice Ao12 t271.length co12 : Value).ownBlock ∧ k_ ≠ gb268 ∧ k_ ≠ gb269 ∧ k_ ≠ gb281 ∧ k_ ≠ g) ho0 (fun k_ hk_ => ⟨(Kd.fresh' (Kd.R_lt HO273.out) k_ hk_), (Kd.freshB (g := gb268) (o := .cells #[.bool a1_0, .slice A1_1 l1_1.length c1_1] 24 (0, 0)) BK268.out k_ hk_), (Kd.freshB (g := gb269) (o := .cells #[.bool false, .slice none 0 0] 24 (0, 0)) BK269.out k_ hk_), (Kd.freshB (g := gb281) (o := .cells #[.int .i64 0, .int .i64 0] 29 (0, 0)) BK281.out k_ hk_), (IsS81.fresh (by repeat (first | (with_reducible first | exact HI0.out | apply IsS81.alloc | apply IsS81.drewN | apply IsS81.drew | apply IsS81.set_0 | apply IsS81.set_1 | refine IsS81.far ?_ NB0_268.out _ | refine IsS81.far ?_ NB0_269.out _ | refine IsS81.far ?_ NB0_281.out _) | exact HI0.out)) k_ hk_)⟩)) (keep_size (w := w) (g := g) (row := none) (by repeat (first | (with_reducible first | exact HK.out | apply KeepBut.set_ | apply keep_drewN | apply keep_drew | apply keep_alloc | refine keep_far ?_ GW268.out _ | refine keep_far ?_ GW269.out _ | refine keep_far ?_ GW281.out _) | exact HK.out))))
         replace HO273 := zM (Kd.R_below HO273.out hb)
         replace BK268 := pzb BK268 hb
         replace BK269 := pzb BK269 hb
         replace BK281 := pzb BK281 hb
         replace HK := zM (KeepBut.trans (by repeat (first | (with_reducible first | exact HK.out | apply KeepBut.set_ | apply keep_drewN | apply keep_drew | apply keep_alloc | refine keep_far ?_ GW268.out _ | refine keep_far ?_ GW269.out _ | refine keep_far ?_ GW281.out _) | exact HK.out)) (KeepBut.of_below hb g none) (.inl rfl))
         replace HB := zM (below_step (by repeat (first | (with_reducible first | exact HB.out | apply below_alloc | apply pw_below_drewN | apply below_drew1 | refine below_set ?_ (IsS81.ge HI0.out) | refine below_setA ?_ (by assumption)) | exact HB.out)) hb)
         replace HI0 := zM (IsS81.below (by repeat (first | (with_reducible first | exact HI0.out | apply IsS81.alloc | apply IsS81.drewN | apply IsS81.drew | apply IsS81.set_0 | apply IsS81.set_1 | refine IsS81.far ?_ NB0_268.out _ | refine IsS81.far ?_ NB0_269.out _ | refine IsS81.far ?_ NB0_281.out _) | exact HI0.out)) hb)
         (try clear hb)
         (try clear hb2)
         (try clear hk)
         (try clear hi)
         (try clear ho0)
         refine hK.out _ _ ⟨(blk_cell BK268.out 0).trans rfl, (blk_cell BK268.out 1).trans rfl⟩ (fun hHeld => ?_)
         clear hK K
         refine norm_ (a' := ?_) ?_ ?_
         rotate_left
         ·show Act.put _ (some 15) _ = _
          simp only [Act.put, zS, z0, z1, i64_w, i32_w]
          rfl
         refine pure_ (i := 3) (N := some 12) (v := ?_) (a' := ?_) #[true, true, true, true, false, false, false, true, false, false] rfl rfl (any_of HT_.out (by kernel_rfl)) (fun _ _ _ h => h) (Or.inl ⟨by rfl, ?_⟩) ?_ ?_
         rotate_left
         ·intro w'
          go_simp
          with_reducible rfl
         rotate_left
         ·simp only [Act.put, zS, z0, z1, i64_w, i32_w]
          rfl
         refine pure_ (i := 4) (N := some 16) (v := ?_) (a' := ?_) #[true, true, true, true, true, false, false, true, false, false] rfl rfl (any_of HT_.out (by kernel_rfl)) (fun _ _ _ h => h) (Or.inl ⟨by rfl, ?_⟩) ?_ ?_
         rotate_left
         ·intro w'
          go_simp
          with_reducible rfl
         rotate_left
         ·simp only [Act.put, zS, z0, z1, i64_w, i32_w]
          rfl
         refine pure_ (i := 5) (N := some 17) (v := ?_) (a' := ?_) #[true, true, true, true, true, true, false, true, false, false] rfl rfl (any_of HT_.out (by kernel_rfl)) (fun _ _ _ h => h) (Or.inl ⟨by rfl, ?_⟩) ?_ ?_
         rotate_left
         ·intro w'
          go_simp
          with_reducible rfl
         rotate_left
         ·simp only [Act.put, zS, z0, z1, i64_w, i32_w]
          rfl
         exact norm_ (by first | (simp only [putAll, Act.put, zS, z0, z1]; done) | (simp only [putAll, Act.put, zS, z0, z1]; rfl)) (hJ1_2_7 (.slice Ao12 t271.length co12, v276, gb281) _ ⟨hHeld, HO273.out, (by (with_reducible repeat (first | apply Kd.V_alloc | apply Kd.V_drewN | apply Kd.V_drew)); exact Kd.V_mono HO277.out (fun _ hk => ⟨hk.1, ⟨hk.2.2.2.2, ⟨hk.2.1, ⟨hk.2.2.1, hk.2.2.2.1⟩⟩⟩⟩)), BK268.out, BK269.out, BK281.out, GW281.out, GE281.out, NB0_281.out, NB281_0.out, NB268_281.out, NB281_268.out, NB269_281.out, NB281_269.out, (by repeat (first | (with_reducible first | exact HI0.out | apply IsS81.alloc | apply IsS81.drewN | apply IsS81.drew | apply IsS81.set_0 | apply IsS81.set_1 | refine IsS81.far ?_ NB0_268.out _ | refine IsS81.far ?_ NB0_269.out _ | refine IsS81.far ?_ NB0_281.out _) | exact HI0.out)), (by repeat (first | (with_reducible first | exact HK.out | apply KeepBut.set_ | apply keep_drewN | apply keep_drew | apply keep_alloc | refine keep_far ?_ GW268.out _ | refine keep_far ?_ GW269.out _ | refine keep_far ?_ GW281.out _) | exact HK.out)), (by repeat (first | (with_reducible first | exact HB.out | apply below_alloc | apply pw_below_drewN | apply below_drew1 | refine below_set ?_ (IsS81.ge HI0.out) | refine below_setA ?_ (by assumption)) | exact HB.out))⟩)
        ·skip
         refine box_step ?hg (N := 5) ?hd (cs := #[.bool false, .slice none 0 0]) (t := 24) ?hr ?_; (case hd => rfl); (case hg => rfl); (case hr => first | (go_simp; done) | (go_simp; rfl))
         intro gb280 hg w12 hbox hb
         have BK280 := zM (hbox)
         have GW280 := zM ((by rw [hg]; exact (keep_size (w := w) (g := g) (row := none) (by repeat (first | (with_reducible first | exact HK.out | apply KeepBut.set_ | apply keep_drewN | apply keep_drew | apply keep_alloc | refine keep_far ?_ GW268.out _ | refine keep_far ?_ GW269.out _ | refine keep_far ?_ GW281.out _) | exact HK.out))) : w.heap.size ≤ gb280))
         have GE280 := zM ((Nat.le_trans HW0.out (by rw [hg]; exact (keep_size (w := w) (g := g) (row := none) (by repeat (first | (with_reducible first | exact HK.out | apply KeepBut.set_ | apply keep_drewN | apply keep_drew | apply keep_alloc | refine keep_far ?_ GW268.out _ | refine keep_far ?_ GW269.out _ | refine keep_far ?_ GW281.out _) | exact HK.out))) : w.heap.size ≤ gb280) : w0.heap.size ≤ gb280))
         have NB268_280 := pzf BK268 hg
         have NB280_268 := pzg BK268 hg
         have NB269_280 := pzf BK269 hg
         have NB280_269 := pzg BK269 hg
         have NB281_280 := pzf BK281 hg
         have NB280_281 := pzg BK281 hg
         have NB0_280 := zM ((by rw [hg]; exact Nat.ne_of_lt (IsS81.lt (show IsS81 w0 _ g s0_0 s0_1 from by repeat (first | (with_reducible first | exact HI0.out | apply IsS81.alloc | apply IsS81.drewN | apply IsS81.drew | apply IsS81.set_0 | apply IsS81.set_1 | refine IsS81.far ?_ NB0_268.out _ | refine IsS81.far ?_ NB0_269.out _ | refine IsS81.far ?_ NB0_281.out _) | exact HI0.out))) : g ≠ gb280))
         have NB280_0 := zM ((by rw [hg]; exact Nat.ne_of_gt (IsS81.lt (show IsS81 w0 _ g s0_0 s0_1 from by repeat (first | (with_reducible first | exact HI0.out | apply IsS81.alloc | apply IsS81.drewN | apply IsS81.drew | apply IsS81.set_0 | apply IsS81.set_1 | refine IsS81.far ?_ NB0_268.out _ | refine IsS81.far ?_ NB0_269.out _ | refine IsS81.far ?_ NB0_281.out _) | exact HI0.out))) : gb280 ≠ g))
         replace HO273 := zM (Kd.R_below HO273.out hb)
         replace BK268 := pzb BK268 hb
         replace BK269 := pzb BK269 hb
         replace BK281 := pzb BK281 hb
         replace HK := zM (KeepBut.trans (by repeat (first | (with_reducible first | exact HK.out | apply KeepBut.set_ | apply keep_drewN | apply keep_drew | apply keep_alloc | refine keep_far ?_ GW268.out _ | refine keep_far ?_ GW269.out _ | refine keep_far ?_ GW281.out _) | exact HK.out)) (KeepBut.of_below hb g none) (.inl rfl))
         replace HB := zM (below_step (by repeat (first | (with_reducible first | exact HB.out | apply below_alloc | apply pw_below_drewN | apply below_drew1 | refine below_set ?_ (IsS81.ge HI0.out) | refine below_setA ?_ (by assumption)) | exact HB.out)) hb)
         replace HI0 := zM (IsS81.below (by repeat (first | (with_reducible first | exact HI0.out | apply IsS81.alloc | apply IsS81.drewN | apply IsS81.drew | apply IsS81.set_0 | apply IsS81.set_1 | refine IsS81.far ?_ NB0_268.out _ | refine IsS81.far ?_ NB0_269.out _ | refine IsS81.far ?_ NB0_281.out _) | exact HI0.out)) hb)
         clear hb hbox hg
         refine hK.out _ _ ⟨(blk_cell BK268.out 0).trans rfl, (blk_cell BK268.out 1).trans rfl⟩ (fun hHeld => ?_)
         clear hK K
         refine norm_ (a' := ?_) ?_ ?_
         rotate_left
         ·show Act.put _ (some 5) _ = _
          simp only [Act.put, zS, z0, z1, i64_w, i32_w]
          rfl
         exact norm_ (by first | (simp only [putAll, Act.put, zS, z0, z1]; done) | (simp only [putAll, Act.put, zS, z0, z1]; rfl)) (hJ1_6_7 (_, gb280, gb281) _ ⟨hHeld, HO273.out, BK268.out, BK269.out, BK280.out, BK281.out, GW280.out, GE280.out, NB0_280.out, NB280_0.out, NB268_280.out, NB280_268.out, NB269_280.out, NB280_269.out, NB281_280.out, NB280_281.out, GW281.out, GE281.out, NB0_281.out, NB281_0.out, NB268_281.out, NB281_268.out, NB269_281.out, NB281_269.out, (by repeat (first | (with_reducible first | exact HI0.out | apply IsS81.alloc | apply IsS81.drewN | apply IsS81.drew | apply IsS81.set_0 | apply IsS81.set_1 | refine IsS81.far ?_ NB0_268.out _ | refine IsS81.far ?_ NB0_269.out _ | refine IsS81.far ?_ NB0_281.out _ | refine IsS81.far ?_ NB0_280.out _) | exact HI0.out)), (by repeat (first | (with_reducible first | exact HK.out | apply KeepBut.set_ | apply keep_drewN | apply keep_drew | apply keep_alloc | refine keep_far ?_ GW268.out _ | refine keep_far ?_ GW269.out _ | refine keep_far ?_ GW281.out _ | refine keep_far ?_ GW280.out _) | exact HK.out)), (by repeat (first | (with_reducible first | exact HB.out | apply below_alloc | apply pw_below_drewN | apply below_drew1 | refine below_set ?_ (IsS81.ge HI0.out) | refine below_setA ?_ (by assumption)) | exact HB.out))⟩)
      ·skip
       rintro ⟨v272, gb280⟩ w11 ⟨hS_, h0_, h1_, h2_, h3_, h4_, h5_, h6_, h7_, h8_, h9_, h10_, h11_, h12_, h13_, h14_⟩
       have n0_ : Aside0 (Kd.R (Kd.int .u32) 76 w11 w.heap.size (fun _ => True) v272 t271) := ⟨h0_⟩
       have n1_ : Aside0 (w11.heap[gb268]? = some (.cells #[.bool a1_0, .slice A1_1 l1_1.length c1_1] 24 (0, 0))) := ⟨h1_⟩
       have n2_ : Aside0 (w11.heap[gb269]? = some (.cells #[.bool false, .slice none 0 0] 24 (0, 0))) := ⟨h2_⟩
       have n3_ : Aside0 (w11.heap[gb280]? = some (.cells #[.bool false, .slice none 0 0] 24 (0, 0))) := ⟨h3_⟩
       have n4_ : Aside0 (w.heap.size ≤ gb280) := ⟨h4_⟩
       have n5_ : Aside0 (w0.heap.size ≤ gb280) := ⟨h5_⟩
       have n6_ : Aside0 (g ≠ gb280) := ⟨h6_⟩
       have n7_ : Aside0 (gb280 ≠ g) := ⟨h7_⟩
       have n8_ : Aside0 (gb268 ≠ gb280) := ⟨h8_⟩
       have n9_ : Aside0 (gb280 ≠ gb268) := ⟨h9_⟩
       have n10_ : Aside0 (gb269 ≠ gb280) := ⟨h10_⟩
       have n11_ : Aside0 (gb280 ≠ gb269) := ⟨h11_⟩
       have n12_ : Aside0 (IsS81 w0 w11 g s0_0 s0_1) := ⟨h12_⟩
       have n13_ : Aside0 (KeepBut w w11 g none) := ⟨h13_⟩
       have n14_ : Aside0 (Below w0.heap.size w0 w11) := ⟨h14_⟩
       clear BK268
       clear BK269
       clear HI0
       clear HK
       clear HB
       clear h0_ h1_ h2_ h3_ h4_ h5_ h6_ h7_ h8_ h9_ h10_ h11_ h12_ h13_ h14_
       have HO273 := n0_
       have BK268 := n1_
       have BK269 := n2_
       have BK280 := n3_
       have GW280 := n4_
       have GE280 := n5_
       have NB0_280 := n6_
       have NB280_0 := n7_
       have NB268_280 := n8_
       have NB280_268 := n9_
       have NB269_280 := n10_
       have NB280_269 := n11_
       have HI0 := n12_
       have HK := n13_
       have HB := n14_
       clear n0_ n1_ n2_ n3_ n4_ n5_ n6_ n7_ n8_ n9_ n10_ n11_ n12_ n13_ n14_
       have hHeld : w11.cell? ⟨gb268, 0, none⟩ = some (.bool a1_0) ∧ w11.cell? ⟨gb268, 1, none⟩ = some (.slice A1_1 l1_1.length c1_1) := hS_
       obtain ⟨Ao12, co12, eo12⟩ := Kd.R_slice HO273.out
       (first | subst eo12 | (injection eo12 with f1_ f2_ f3_; have f4_ := f1_.symm; have f5_ := f3_.symm; clear f1_ f2_ f3_; subst f4_; subst f5_))
       refine norm_ (a' := ?_) ?_ ?_
       rotate_left
       ·simp only [putAll, Act.put, zS, z0, z1]
        rfl
       refine two_ (i := 2) (j := 7) (Ni := some 15) (Nj := some 6) #[true, true, true, false, false, false, true, false, false, false] #[true, true, false, false, false, false, true, true, false, false] rfl rfl rfl rfl (two_of HT_.out (by kernel_rfl)) (by decide) (by decide) (fun K hK => ?_) (fun K hK => ?_)
       ·skip
        refine goes_ Try.func45 (by kernel_rfl) rfl #[.agg #[.bool a1_0, .slice A1_1 l1_1.length c1_1], .agg #[.bool t270, .slice Ao12 t271.length co12]] (by rfl) rfl rfl (by (try simp only [zT, zC, zN]); first | done | rfl | (simp only [zR, zL]; rfl)) ?_
        with_reducible refine (integer_Sub.calls k a1_0 _ _ l1_1 t270 _ _ t271 t274 t275 t278 t279 _ ?side1 ?side2 ?side3 ?side4 A4.out).mono ?_
        (case side1 => exact Kd.C_keep 0 HR1_1.out (by repeat (first | (with_reducible first | exact HK.out | apply KeepBut.set_ | apply keep_drewN | apply keep_drew | apply keep_alloc | refine keep_far ?_ GW268.out _ | refine keep_far ?_ GW269.out _ | refine keep_far ?_ GW280.out _) | exact HK.out)) hf1_1)
        (case side2 => exact HC1_1.out)
        (case side3 => repeat (first | exact (Kd.R_reads' HO273.out).2.2 | (with_reducible refine Kd.C_alloc ?_ _) | (with_reducible refine Kd.C_drewN ?_ _) | (with_reducible refine Kd.C_drew ?_)))
        (case side4 => exact (Kd.R_reads' HO273.out).2.1)
        rintro e w13 ⟨v276, rfl, ho0, hb⟩
        refine ⟨_, rfl, ?_⟩
        have HO277 := zM (Kd.V_lower (Kd.V_mono (ok' := fun k_ => some k_ ≠ (.slice Ao12 t271.length co12 : Value).ownBlock ∧ k_ ≠ gb268 ∧ k_ ≠ gb269 ∧ k_ ≠ gb280 ∧ k_ ≠ g) ho0 (fun k_ hk_ => ⟨(Kd.fresh' (Kd.R_lt HO273.out) k_ hk_), (Kd.freshB (g := gb268) (o := .cells #[.bool a1_0, .slice A1_1 l1_1.length c1_1] 24 (0, 0)) BK268.out k_ hk_), (Kd.freshB (g := gb269) (o := .cells #[.bool false, .slice none 0 0] 24 (0, 0)) BK269.out k_ hk_), (Kd.freshB (g := gb280) (o := .cells #[.bool false, .slice none 0 0] 24 (0, 0)) BK280.out k_ hk_), (IsS81.fresh (by repeat (first | (with_reducible first | exact HI0.out | apply IsS81.alloc | apply IsS81.drewN | apply IsS81.drew | apply IsS81.set_0 | apply IsS81.set_1 | refine IsS81.far ?_ NB0_268.out _ | refine IsS81.far ?_ NB0_269.out _ | refine IsS81.far ?_ NB0_280.out _) | exact HI0.out)) k_ hk_)⟩)) (keep_size (w := w) (g := g) (row := none) (by repeat (first | (with_reducible first | exact HK.out | apply KeepBut.set_ | apply keep_drewN | apply keep_drew | apply keep_alloc | refine keep_far ?_ GW268.out _ | refine keep_far ?_ GW269.out _ | refine keep_far ?_ GW280.out _) | exact HK.out))))
        replace HO273 := zM (Kd.R_below HO273.out hb)
        replace BK268 := pzb BK268 hb
        replace BK269 := pzb BK269 hb
        replace BK280 := pzb BK280 hb
        replace HK := zM (KeepBut.trans (by repeat (first | (with_reducible first | exact HK.out | apply KeepBut.set_ | apply keep_drewN | apply keep_drew | apply keep_alloc | refine keep_far ?_ GW268.out _ | refine keep_far ?_ GW269.out _ | refine keep_far ?_ GW280.out _) | exact HK.out)) (KeepBut.of_below hb g none) (.inl rfl))
        replace HB := zM (below_step (by repeat (first | (with_reducible first | exact HB.out | apply below_alloc | apply pw_below_drewN | apply below_drew1 | refine below_set ?_ (IsS81.ge HI0.out) | refine below_setA ?_ (by assumption)) | exact HB.out)) hb)
        replace HI0 := zM (IsS81.below (by repeat (first | (with_reducible first | exact HI0.out | apply IsS81.alloc | apply IsS81.drewN | apply IsS81.drew | apply IsS81.set_0 | apply IsS81.set_1 | refine IsS81.far ?_ NB0_268.out _ | refine IsS81.far ?_ NB0_269.out _ | refine IsS81.far ?_ NB0_280.out _) | exact HI0.out)) hb)
        (try clear hb)
        (try clear hb2)
        (try clear hk)
        (try clear hi)
        (try clear ho0)
        refine hK.out _ _ ⟨(blk_cell BK268.out 0).trans rfl, (blk_cell BK268.out 1).trans rfl⟩ (fun hHeld => ?_)
        clear hK K
        refine norm_ (a' := ?_) ?_ ?_
        rotate_left
        ·show Act.put _ (some 15) _ = _
         simp only [Act.put, zS, z0, z1, i64_w, i32_w]
         rfl
        refine pure_ (i := 3) (N := some 12) (v := ?_) (a' := ?_) #[true, true, true, true, false, false, true, false, false, false] rfl rfl (any_of HT_.out (by kernel_rfl)) (fun _ _ _ h => h) (Or.inl ⟨by rfl, ?_⟩) ?_ ?_
        rotate_left
        ·intro w'
         go_simp
         with_reducible rfl
        rotate_left
        ·simp only [Act.put, zS, z0, z1, i64_w, i32_w]
         rfl
        refine pure_ (i := 4) (N := some 16) (v := ?_) (a' := ?_) #[true, true, true, true, true, false, true, false, false, false] rfl rfl (any_of HT_.out (by kernel_rfl)) (fun _ _ _ h => h) (Or.inl ⟨by rfl, ?_⟩) ?_ ?_
        rotate_left
        ·intro w'
         go_simp
         with_reducible rfl
        rotate_left
        ·simp only [Act.put, zS, z0, z1, i64_w, i32_w]
         rfl
        refine pure_ (i := 5) (N := some 17) (v := ?_) (a' := ?_) #[true, true, true, true, true, true, true, false, false, false] rfl rfl (any_of HT_.out (by kernel_rfl)) (fun _ _ _ h => h) (Or.inl ⟨by rfl, ?_⟩) ?_ ?_
        rotate_left
        ·intro w'
         go_simp
         with_reducible rfl
        rotate_left
        ·simp only [Act.put, zS, z0, z1, i64_w, i32_w]
         rfl
        exact norm_ (by first | (simp only [putAll, Act.put, zS, z0, z1]; done) | (simp only [putAll, Act.put, zS, z0, z1]; rfl)) (hJ1_2_6 (.slice Ao12 t271.length co12, v276, gb280) _ ⟨hHeld, HO273.out, (by (with_reducible repeat (first | apply Kd.V_alloc | apply Kd.V_drewN | apply Kd.V_drew)); exact Kd.V_mono HO277.out (fun _ hk => ⟨hk.1, ⟨hk.2.2.2.2, ⟨hk.2.1, ⟨hk.2.2.1, hk.2.2.2.1⟩⟩⟩⟩)), BK268.out, BK269.out, BK280.out, GW280.out, GE280.out, NB0_280.out, NB280_0.out, NB268_280.out, NB280_268.out, NB269_280.out, NB280_269.out, (by repeat (first | (with_reducible first | exact HI0.out | apply IsS81.alloc | apply IsS81.drewN | apply IsS81.drew | apply IsS81.set_0 | apply IsS81.set_1 | refine IsS81.far ?_ NB0_268.out _ | refine IsS81.far ?_ NB0_269.out _ | refine IsS81.far ?_ NB0_280.out _) | exact HI0.out)), (by repeat (first | (with_reducible first | exact HK.out | apply KeepBut.set_ | apply keep_drewN | apply keep_drew | apply keep_alloc | refine keep_far ?_ GW268.out _ | refine keep_far ?_ GW269.out _ | refine keep_far ?_ GW280.out _) | exact HK.out)), (by repeat (first | (with_reducible first | exact HB.out | apply below_alloc | apply pw_below_drewN | apply below_drew1 | refine below_set ?_ (IsS81.ge HI0.out) | refine below_setA ?_ (by assumption)) | exact HB.out))⟩)
       ·skip
        refine box_step ?hg (N := 6) ?hd (cs := #[.int .i64 0, .int .i64 0]) (t := 29) ?hr ?_; (case hd => rfl); (case hg => rfl); (case hr => first | (go_simp; done) | (go_simp; rfl))
        intro gb281 hg w12 hbox hb
        have BK281 := zM (hbox)
        have GW281 := zM ((by rw [hg]; exact (keep_size (w := w) (g := g) (row := none) (by repeat (first | (with_reducible first | exact HK.out | apply KeepBut.set_ | apply keep_drewN | apply keep_drew | apply keep_alloc | refine keep_far ?_ GW268.out _ | refine keep_far ?_ GW269.out _ | refine keep_far ?_ GW280.out _) | exact HK.out))) : w.heap.size ≤ gb281))
        have GE281 := zM ((Nat.le_trans HW0.out (by rw [hg]; exact (keep_size (w := w) (g := g) (row := none) (by repeat (first | (with_reducible first | exact HK.out | apply KeepBut.set_ | apply keep_drewN | apply keep_drew | apply keep_alloc | refine keep_far ?_ GW268.out _ | refine keep_far ?_ GW269.out _ | refine keep_far ?_ GW280.out _) | exact HK.out))) : w.heap.size ≤ gb281) : w0.heap.size ≤ gb281))
        have NB268_281 := pzf BK268 hg
        have NB281_268 := pzg BK268 hg
        have NB269_281 := pzf BK269 hg
        have NB281_269 := pzg BK269 hg
        have NB280_281 := pzf BK280 hg
        have NB281_280 := pzg BK280 hg
        have NB0_281 := zM ((by rw [hg]; exact Nat.ne_of_lt (IsS81.lt (show IsS81 w0 _ g s0_0 s0_1 from by repeat (first | (with_reducible first | exact HI0.out | apply IsS81.alloc | apply IsS81.drewN | apply IsS81.drew | apply IsS81.set_0 | apply IsS81.set_1 | refine IsS81.far ?_ NB0_268.out _ | refine IsS81.far ?_ NB0_269.out _ | refine IsS81.far ?_ NB0_280.out _) | exact HI0.out))) : g ≠ gb281))
        have NB281_0 := zM ((by rw [hg]; exact Nat.ne_of_gt (IsS81.lt (show IsS81 w0 _ g s0_0 s0_1 from by repeat (first | (with_reducible first | exact HI0.out | apply IsS81.alloc | apply IsS81.drewN | apply IsS81.drew | apply IsS81.set_0 | apply IsS81.set_1 | refine IsS81.far ?_ NB0_268.out _ | refine IsS81.far ?_ NB0_269.out _ | refine IsS81.far ?_ NB0_280.out _) | exact HI0.out))) : gb281 ≠ g))
        replace HO273 := zM (Kd.R_below HO273.out hb)
        replace BK268 := pzb BK268 hb
        replace BK269 := pzb BK269 hb
        replace BK280 := pzb BK280 hb
        replace HK := zM (KeepBut.trans (by repeat (first | (with_reducible first | exact HK.out | apply KeepBut.set_ | apply keep_drewN | apply keep_drew | apply keep_alloc | refine keep_far ?_ GW268.out _ | refine keep_far ?_ GW269.out _ | refine keep_far ?_ GW280.out _) | exact HK.out)) (KeepBut.of_below hb g none) (.inl rfl))
        replace HB := zM (below_step (by repeat (first | (with_reducible first | exact HB.out | apply below_alloc | apply pw_below_drewN | apply below_drew1 | refine below_set ?_ (IsS81.ge HI0.out) | refine below_setA ?_ (by assumption)) | exact HB.out)) hb)
        replace HI0 := zM (IsS81.below (by repeat (first | (with_reducible first | exact HI0.out | apply IsS81.alloc | apply IsS81.drewN | apply IsS81.drew | apply IsS81.set_0 | apply IsS81.set_1 | refine IsS81.far ?_ NB0_268.out _ | refine IsS81.far ?_ NB0_269.out _ | refine IsS81.far ?_ NB0_280.out _) | exact HI0.out)) hb)
        clear hb hbox hg
        refine hK.out _ _ ⟨(blk_cell BK268.out 0).trans rfl, (blk_cell BK268.out 1).trans rfl⟩ (fun hHeld => ?_)
        clear hK K
        refine norm_ (a' := ?_) ?_ ?_
        rotate_left
        ·show Act.put _ (some 6) _ = _
         simp only [Act.put, zS, z0, z1, i64_w, i32_w]
         rfl
        exact norm_ (by first | (simp only [putAll, Act.put, zS, z0, z1]; done) | (simp only [putAll, Act.put, zS, z0, z1]; rfl)) (hJ1_6_7 (_, gb280, gb281) _ ⟨hHeld, HO273.out, BK268.out, BK269.out, BK280.out, BK281.out, GW280.out, GE280.out, NB0_280.out, NB280_0.out, NB268_280.out, NB280_268.out, NB269_280.out, NB280_269.out, NB281_280.out, NB280_281.out, GW281.out, GE281.out, NB0_281.out, NB281_0.out, NB268_281.out, NB281_268.out, NB269_281.out, NB281_269.out, (by repeat (first | (with_reducible first | exact HI0.out | apply IsS81.alloc | apply IsS81.drewN | apply IsS81.drew | apply IsS81.set_0 | apply IsS81.set_1 | refine IsS81.far ?_ NB0_268.out _ | refine IsS81.far ?_ NB0_269.out _ | refine IsS81.far ?_ NB0_280.out _ | refine IsS81.far ?_ NB0_281.out _) | exact HI0.out)), (by repeat (first | (with_reducible first | exact HK.out | apply KeepBut.set_ | apply keep_drewN | apply keep_drew | apply keep_alloc | refine keep_far ?_ GW268.out _ | refine keep_far ?_ GW269.out _ | refine keep_far ?_ GW280.out _ | refine keep_far ?_ GW281.out _) | exact HK.out)), (by repeat (first | (with_reducible first | exact HB.out | apply below_alloc | apply pw_below_drewN | apply below_drew1 | refine below_set ?_ (IsS81.ge HI0.out) | refine below_setA ?_ (by assumption)) | exact HB.out))⟩)
     ·skip
      rintro ⟨v272, v276⟩ w12 ⟨hS_, h0_, h1_, h2_, h3_, h4_, h5_, h6_⟩
      have n0_ : Aside0 (Kd.R (Kd.int .u32) 76 w12 w.heap.size (fun _ => True) v272 t271) := ⟨h0_⟩
      have n1_ : Aside0 (Kd.V (Kd.int .u32) 76 w12 w.heap.size (fun k_ => some k_ ≠ (v272 : Value).ownBlock ∧ k_ ≠ g ∧ k_ ≠ gb268 ∧ k_ ≠ gb269) v276 t275) := ⟨h1_⟩
      have n2_ : Aside0 (w12.heap[gb268]? = some (.cells #[.bool a1_0, .slice A1_1 l1_1.length c1_1] 24 (0, 0))) := ⟨h2_⟩
      have n3_ : Aside0 (w12.heap[gb269]? = some (.cells #[.bool false, .slice none 0 0] 24 (0, 0))) := ⟨h3_⟩
      have n4_ : Aside0 (IsS81 w0 w12 g s0_0 s0_1) := ⟨h4_⟩
      have n5_ : Aside0 (KeepBut w w12 g none) := ⟨h5_⟩
      have n6_ : Aside0 (Below w0.heap.size w0 w12) := ⟨h6_⟩
      clear BK268
      clear BK269
      clear HI0
      clear HK
      clear HB
      clear h0_ h1_ h2_ h3_ h4_ h5_ h6_
      have HO273 := n0_
      have HO277 := n1_
      have BK268 := n2_
      have BK269 := n3_
      have HI0 := n4_
      have HK := n5_
      have HB := n6_
      clear n0_ n1_ n2_ n3_ n4_ n5_ n6_
      have hHeld : w12.cell? ⟨gb268, 0, none⟩ = some (.bool a1_0) ∧ w12.cell? ⟨gb268, 1, none⟩ = some (.slice A1_1 l1_1.length c1_1) := hS_
      refine norm_ (a' := ?_) ?_ ?_
      rotate_left
      ·simp only [putAll, Act.put, zS, z0, z1]
       rfl
      refine two_ (i := 6) (j := 7) (Ni := some 5) (Nj := some 6) #[true, true, true, true, true, true, true, false, false, false] #[true, true, true, true, true, true, false, true, false, false] rfl rfl rfl rfl (two_of HT_.out (by kernel_rfl)) (by decide) (by decide) (fun K hK => ?_) (fun K hK => ?_)
      ·skip
       refine box_step ?hg (N := 5) ?hd (cs := #[.bool false, .slice none 0 0]) (t := 24) ?hr ?_; (case hd => rfl); (case hg => rfl); (case hr => first | (go_simp; done) | (go_simp; rfl))
       intro gb280 hg w13 hbox hb
       have BK280 := zM (hbox)
       have GW280 := zM ((by rw [hg]; exact (keep_size (w := w) (g := g) (row := none) (by repeat (first | (with_reducible first | exact HK.out | apply KeepBut.set_ | apply keep_drewN | apply keep_drew | apply keep_alloc | refine keep_far ?_ GW268.out _ | refine keep_far ?_ GW269.out _) | exact HK.out))) : w.heap.size ≤ gb280))
       have GE280 := zM ((Nat.le_trans HW0.out (by rw [hg]; exact (keep_size (w := w) (g := g) (row := none) (by repeat (first | (with_reducible first | exact HK.out | apply KeepBut.set_ | apply keep_drewN | apply keep_drew | apply keep_alloc | refine keep_far ?_ GW268.out _ | refine keep_far ?_ GW269.out _) | exact HK.out))) : w.heap.size ≤ gb280) : w0.heap.size ≤ gb280))
       have NB268_280 := pzf BK268 hg
       have NB280_268 := pzg BK268 hg
       have NB269_280 := pzf BK269 hg
       have NB280_269 := pzg BK269 hg
       have NB0_280 := zM ((by rw [hg]; exact Nat.ne_of_lt (IsS81.lt (show IsS81 w0 _ g s0_0 s0_1 from by repeat (first | (with_reducible first | exact HI0.out | apply IsS81.alloc | apply IsS81.drewN | apply IsS81.drew | apply IsS81.set_0 | apply IsS81.set_1 | refine IsS81.far ?_ NB0_268.out _ | refine IsS81.far ?_ NB0_269.out _) | exact HI0.out))) : g ≠ gb280))
       have NB280_0 := zM ((by rw [hg]; exact Nat.ne_of_gt (IsS81.lt (show IsS81 w0 _ g s0_0 s0_1 from by repeat (first | (with_reducible first | exact HI0.out | apply IsS81.alloc | apply IsS81.drewN | apply IsS81.drew | apply IsS81.set_0 | apply IsS81.set_1 | refine IsS81.far ?_ NB0_268.out _ | refine IsS81.far ?_ NB0_269.out _) | exact HI0.out))) : gb280 ≠ g))
       replace HO273 := zM (Kd.R_below HO273.out hb)
       replace HO277 := zM (Kd.V_below (Kd.V_elderB HO277.out gb280 (Nat.le_of_eq hg.symm)) hb)
       replace BK268 := pzb BK268 hb
       replace BK269 := pzb BK269 hb
       replace HK := zM (KeepBut.trans (by repeat (first | (with_reducible first | exact HK.out | apply KeepBut.set_ | apply keep_drewN | apply keep_drew | apply keep_alloc | refine keep_far ?_ GW268.out _ | refine keep_far ?_ GW269.out _) | exact HK.out)) (KeepBut.of_below hb g none) (.inl rfl))
       replace HB := zM (below_step (by repeat (first | (with_reducible first | exact HB.out | apply below_alloc | apply pw_below_drewN | apply below_drew1 | refine below_set ?_ (IsS81.ge HI0.out) | refine below_setA ?_ (by assumption)) | exact HB.out)) hb)
       replace HI0 := zM (IsS81.below (by repeat (first | (with_reducible first | exact HI0.out | apply IsS81.alloc | apply IsS81.drewN | apply IsS81.drew | apply IsS81.set_0 | apply IsS81.set_1 | refine IsS81.far ?_ NB0_268.out _ | refine IsS81.far ?_ NB0_269.out _) | exact HI0.out)) hb)
       clear hb hbox hg
       refine hK.out _ _ ⟨(blk_cell BK268.out 0).trans rfl, (blk_cell BK268.out 1).trans rfl⟩ (fun hHeld => ?_)
       clear hK K
       refine norm_ (a' := ?_) ?_ ?_
       rotate_left
       ·show Act.put _ (some 5) _ = _
        simp only [Act.put, zS, z0, z1, i64_w, i32_w]
        rfl
       exact norm_ (by first | (simp only [putAll, Act.put, zS, z0, z1]; done) | (simp only [putAll, Act.put, zS, z0, z1]; rfl)) (hJ1_2_6 (_, v276, gb280) _ ⟨hHeld, HO273.out, (by (with_reducible repeat (first | apply Kd.V_alloc | apply Kd.V_drewN | apply Kd.V_drew)); exact Kd.V_mono HO277.out (fun _ hk => ⟨hk.1.1, ⟨hk.1.2.1, ⟨hk.1.2.2.1, ⟨hk.1.2.2.2, hk.2⟩⟩⟩⟩)), BK268.out, BK269.out, BK280.out, GW280.out, GE280.out, NB0_280.out, NB280_0.out, NB268_280.out, NB280_268.out, NB269_280.out, NB280_269.out, (by repeat (first | (with_reducible first | exact HI0.out | apply IsS81.alloc | apply IsS81.drewN | apply IsS81.drew | apply IsS81.set_0 | apply IsS81.set_1 | refine IsS81.far ?_ NB0_268.out _ | refine IsS81.far ?_ NB0_269.out _ | refine IsS81.far ?_ NB0_280.out _) | exact HI0.out)), (by repeat (first | (with_reducible first | exact HK.out | apply KeepBut.set_ | apply keep_drewN | apply keep_drew | apply keep_alloc | refine keep_far ?_ GW268.out _ | refine keep_far ?_ GW269.out _ | refine keep_far ?_ GW280.out _) | exact HK.out)), (by repeat (first | (with_reducible first | exact HB.out | apply below_alloc | apply pw_below_drewN | apply below_drew1 | refine below_set ?_ (IsS81.ge HI0.out) | refine below_setA ?_ (by assumption)) | exact HB.out))⟩)
      ·skip
       refine box_step ?hg (N := 6) ?hd (cs := #[.int .i64 0, .int .i64 0]) (t := 29) ?hr ?_; (case hd => rfl); (case hg => rfl); (case hr => first | (go_simp; done) | (go_simp; rfl))
       intro gb281 hg w13 hbox hb
       have BK281 := zM (hbox)
       have GW281 := zM ((by rw [hg]; exact (keep_size (w := w) (g := g) (row := none) (by repeat (first | (with_reducible first | exact HK.out | apply KeepBut.set_ | apply keep_drewN | apply keep_drew | apply keep_alloc | refine keep_far ?_ GW268.out _ | refine keep_far ?_ GW269.out _) | exact HK.out))) : w.heap.size ≤ gb281))
       have GE281 := zM ((Nat.le_trans HW0.out (by rw [hg]; exact (keep_size (w := w) (g := g) (row := none) (by repeat (first | (with_reducible first | exact HK.out | apply KeepBut.set_ | apply keep_drewN | apply keep_drew | apply keep_alloc | refine keep_far ?_ GW268.out _ | refine keep_far ?_ GW269.out _) | exact HK.out))) : w.heap.size ≤ gb281) : w0.heap.size ≤ gb281))
       have NB268_281 := pzf BK268 hg
       have NB281_268 := pzg BK268 hg
       have NB269_281 := pzf BK269 hg
       have NB281_269 := pzg BK269 hg
       have NB0_281 := zM ((by rw [hg]; exact Nat.ne_of_lt (IsS81.lt (show IsS81 w0 _ g s0_0 s0_1 from by repeat (first | (with_reducible first | exact HI0.out | apply IsS81.alloc | apply IsS81.drewN | apply IsS81.drew | apply IsS81.set_0 | apply IsS81.set_1 | refine IsS81.far ?_ NB0_268.out _ | refine IsS81.far ?_ NB0_269.out _) | exact HI0.out))) : g ≠ gb281))
       have NB281_0 := zM ((by rw [hg]; exact Nat.ne_of_gt (IsS81.lt (show IsS81 w0 _ g s0_0 s0_1 from by repeat (first | (with_reducible first | exact HI0.out | apply IsS81.alloc | apply IsS81.drewN | apply IsS81.drew | apply IsS81.set_0 | apply IsS81.set_1 | refine IsS81.far ?_ NB0_268.out _ | refine IsS81.far ?_ NB0_269.out _) | exact HI0.out))) : gb281 ≠ g))
       replace HO273 := zM (Kd.R_below HO273.out hb)
       replace HO277 := zM (Kd.V_below (Kd.V_elderB HO277.out gb281 (Nat.le_of_eq hg.symm)) hb)
       replace BK268 := pzb BK268 hb
       replace BK269 := pzb BK269 hb
       replace HK := zM (KeepBut.trans (by repeat (first | (with_reducible first | exact HK.out | apply KeepBut.set_ | apply keep_drewN | apply keep_drew | apply keep_alloc | refine keep_far ?_ GW268.out _ | refine keep_far ?_ GW269.out _) | exact HK.out)) (KeepBut.of_below hb g none) (.inl rfl))
       replace HB := zM (below_step (by repeat (first | (with_reducible first | exact HB.out | apply below_alloc | apply pw_below_drewN | apply below_drew1 | refine below_set ?_ (IsS81.ge HI0.out) | refine below_setA ?_ (by assumption)) | exact HB.out)) hb)
       replace HI0 := zM (IsS81.below (by repeat (first | (with_reducible first | exact HI0.out | apply IsS81.alloc | apply IsS81.drewN | apply IsS81.drew | apply IsS81.set_0 | apply IsS81.set_1 | refine IsS81.far ?_ NB0_268.out _ | refine IsS81.far ?_ NB0_269.out _) | exact HI0.out)) hb)
       clear hb hbox hg
       refine hK.out _ _ ⟨(blk_cell BK268.out 0).trans rfl, (blk_cell BK268.out 1).trans rfl⟩ (fun hHeld => ?_)
       clear hK K
       refine norm_ (a' := ?_) ?_ ?_
       rotate_left
       ·show Act.put _ (some 6) _ = _
        simp only [Act.put, zS, z0, z1, i64_w, i32_w]
        rfl
       exact norm_ (by first | (simp only [putAll, Act.put, zS, z0, z1]; done) | (simp only [putAll, Act.put, zS, z0, z1]; rfl)) (hJ1_2_7 (_, v276, gb281) _ ⟨hHeld, HO273.out, (by (with_reducible repeat (first | apply Kd.V_alloc | apply Kd.V_drewN | apply Kd.V_drew)); exact Kd.V_mono HO277.out (fun _ hk => ⟨hk.1.1, ⟨hk.1.2.1, ⟨hk.1.2.2.1, ⟨hk.1.2.2.2, hk.2⟩⟩⟩⟩)), BK268.out, BK269.out, BK281.out, GW281.out, GE281.out, NB0_281.out, NB281_0.out, NB268_281.out, NB281_268.out, NB269_281.out, NB281_269.out, (by repeat (first | (with_reducible first | exact HI0.out | apply IsS81.alloc | apply IsS81.drewN | apply IsS81.drew | apply IsS81.set_0 | apply IsS81.set_1 | refine IsS81.far ?_ NB0_268.out _ | refine IsS81.far ?_ NB0_269.out _ | refine IsS81.far ?_ NB0_281.out _) | exact HI0.out)), (by repeat (first | (with_reducible first | exact HK.out | apply KeepBut.set_ | apply keep_drewN | apply keep_drew | apply keep_alloc | refine keep_far ?_ GW268.out _ | refine keep_far ?_ GW269.out _ | refine keep_far ?_ GW281.out _) | exact HK.out)), (by repeat (first | (with_reducible first | exact HB.out | apply below_alloc | apply pw_below_drewN | apply below_drew1 | refine below_set ?_ (IsS81.ge HI0.out) | refine below_setA ?_ (by assumption)) | exact HB.out))⟩)
    ·skip
     rintro ⟨v272, gb280, gb281⟩ w12 ⟨hS_, h0_, h1_, h2_, h3_, h4_, h5_, h6_, h7_, h8_, h9_, h10_, h11_, h12_, h13_, h14_, h15_, h16_, h17_, h18_, h19_, h20_, h21_, h22_, h23_, h24_, h25_⟩
     have n0_ : Aside0 (Kd.R (Kd.int .u32) 76 w12 w.heap.size (fun _ => True) v272 t271) := ⟨h0_⟩
     have n1_ : Aside0 (w12.heap[gb268]? = some (.cells #[.bool a1_0, .slice A1_1 l1_1.length c1_1] 24 (0, 0))) := ⟨h1_⟩
     have n2_ : Aside0 (w12.heap[gb269]? = some (.cells #[.bool false, .slice none 0 0] 24 (0, 0))) := ⟨h2_⟩
     have n3_ : Aside0 (w12.heap[gb280]? = some (.cells #[.bool false, .slice none 0 0] 24 (0, 0))) := ⟨h3_⟩
     have n4_ : Aside0 (w12.heap[gb281]? = some (.cells #[.int .i64 0, .int .i64 0] 29 (0, 0))) := ⟨h4_⟩
     have n5_ : Aside0 (w.heap.size ≤ gb280) := ⟨h5_⟩
     have n6_ : Aside0 (w0.heap.size ≤ gb280) := ⟨h6_⟩
     have n7_ : Aside0 (g ≠ gb280) := ⟨h7_⟩
     have n8_ : Aside0 (gb280 ≠ g) := ⟨h8_⟩
     have n9_ : Aside0 (gb268 ≠ gb280) := ⟨h9_⟩
     have n10_ : Aside0 (gb280 ≠ gb268) := ⟨h10_⟩
     have n11_ : Aside0 (gb269 ≠ gb280) := ⟨h11_⟩
     have n12_ : Aside0 (gb280 ≠ gb269) := ⟨h12_⟩
     have n13_ : Aside0 (gb281 ≠ gb280) := ⟨h13_⟩
     have n14_ : Aside0 (gb280 ≠ gb281) := ⟨h14_⟩
     have n15_ : Aside0 (w.heap.size ≤ gb281) := ⟨h15_⟩
     have n16_ : Aside0 (w0.heap.size ≤ gb281) := ⟨h16_⟩
     have n17_ : Aside0 (g ≠ gb281) := ⟨h17_⟩
     have n18_ : Aside0 (gb281 ≠ g) := ⟨h18_⟩
     have n19_ : Aside0 (gb268 ≠ gb281) := ⟨h19_⟩
     have n20_ : Aside0 (gb281 ≠ gb268) := ⟨h20_⟩
     have n21_ : Aside0 (gb269 ≠ gb281) := ⟨h21_⟩
     have n22_ : Aside0 (gb281 ≠ gb269) := ⟨h22_⟩
     have n23_ : Aside0 (IsS81 w0 w12 g s0_0 s0_1) := ⟨h23_⟩
     have n24_ : Aside0 (KeepBut w w12 g none) := ⟨h24_⟩
     have n25_ : Aside0 (Below w0.heap.size w0 w12) := ⟨h25_⟩
     clear BK268
     clear BK269
     clear HI0
     clear HK
     clear HB
     clear h0_ h1_ h2_ h3_ h4_ h5_ h6_ h7_ h8_ h9_ h10_ h11_ h12_ h13_ h14_ h15_ h16_ h17_ h18_ h19_ h20_ h21_ h22_ h23_ h24_ h25_
     have HO273 := n0_
     have BK268 := n1_
     have BK269 := n2_
     have BK280 := n3_
     have BK281 := n4_
     have GW280 := n5_
     have GE280 := n6_
     have NB0_280 := n7_
     have NB280_0 := n8_
     have NB268_280 := n9_
     have NB280_268 := n10_
     have NB269_280 := n11_
     have NB280_269 := n12_
     have NB281_280 := n13_
     have NB280_281 := n14_
     have GW281 := n15_
     have GE281 := n16_
     have NB0_281 := n17_
     have NB281_0 := n18_
     have NB268_281 := n19_
     have NB281_268 := n20_
     have NB269_281 := n21_
     have NB281_269 := n22_
     have HI0 := n23_
     have HK := n24_
     have HB := n25_
     clear n0_ n1_ n2_ n3_ n4_ n5_ n6_ n7_ n8_ n9_ n10_ n11_ n12_ n13_ n14_ n15_ n16_ n17_ n18_ n19_ n20_ n21_ n22_ n23_ n24_ n25_
     have hHeld : w12.cell? ⟨gb268, 0, none⟩ = some (.bool a1_0) ∧ w12.cell? ⟨gb268, 1, none⟩ = some (.slice A1_1 l1_1.length c1_1) := hS_
     obtain ⟨Ao13, co13, eo13⟩ := Kd.R_slice HO273.out
     (first | subst eo13 | (injection eo13 with f1_ f2_ f3_; have f4_ := f1_.symm; have f5_ := f3_.symm; clear f1_ f2_ f3_; subst f4_; subst f5_))
     refine norm_ (a' := ?_) ?_ ?_
     rotate_left
     ·simp only [putAll, Act.put, zS, z0, z1]
      rfl
     refine one_ (i := 2) (N := some 15) #[true, true, true, false, false, false, true, true, false, false] rfl rfl (one_of HT_.out (by kernel_rfl)) (by decide) (fun K hK => ?_)
     refine goes_ Try.func45 (by kernel_rfl) rfl #[.agg #[.bool a1_0, .slice A1_1 l1_1.length c1_1], .agg #[.bool t270, .slice Ao13 t271.length co13]] (by rfl) rfl rfl (by (try simp only [zT, zC, zN]); first | done | rfl | (simp only [zR, zL]; rfl)) ?_
     with_reducible refine (integer_Sub.calls k a1_0 _ _ l1_1 t270 _ _ t271 t274 t275 t278 t279 _ ?side1 ?side2 ?side3 ?side4 A4.out).mono ?_
     (case side1 => exact Kd.C_keep 0 HR1_1.out (by repeat (first | (with_reducible first | exact HK.out | apply KeepBut.set_ | apply keep_drewN | apply keep_drew | apply keep_alloc | refine keep_far ?_ GW268.out _ | refine keep_far ?_ GW269.out _ | refine keep_far ?_ GW280.out _ | refine keep_far ?_ GW281.out _) | exact HK.out)) hf1_1)
     (case side2 => exact HC1_1.out)
     (case side3 => repeat (first | exact (Kd.R_reads' HO273.out).2.2 | (with_reducible refine Kd.C_alloc ?_ _) | (with_reducible refine Kd.C_drewN ?_ _) | (with_reducible refine Kd.C_drew ?_)))
     (case side4 => exact (Kd.R_reads' HO273.out).2.1)
     rintro e w14 ⟨v276, rfl, ho0, hb⟩
     refine ⟨_, rfl, ?_⟩
     have HO277 := zM (Kd.V_lower (Kd.V_mono (ok' := fun k_ => some k_ ≠ (.slice Ao13 t271.length co13 : Value).ownBlock ∧ k_ ≠ gb268 ∧ k_ ≠ gb269 ∧ k_ ≠ gb280 ∧ k_ ≠ gb281 ∧ k_ ≠ g) ho0 (fun k_ hk_ => ⟨(Kd.fresh' (Kd.R_lt HO273.out) k_ hk_), (Kd.freshB (g := gb268) (o := .cells #[.bool a1_0, .slice A1_1 l1_1.length c1_1] 24 (0, 0)) BK268.out k_ hk_), (Kd.freshB (g := gb269) (o := .cells #[.bool false, .slice none 0 0] 24 (0, 0)) BK269.out k_ hk_), (Kd.freshB (g := gb280) (o := .cells #[.bool false, .slice none 0 0] 24 (0, 0)) BK280.out k_ hk_), (Kd.freshB (g := gb281) (o := .cells #[.int .i64 0, .int .i64 0] 29 (0, 0)) BK281.out k_ hk_), (IsS81.fresh (by repeat (first | (with_reducible first | exact HI0.out | apply IsS81.alloc | apply IsS81.drewN | apply IsS81.drew | apply IsS81.set_0 | apply IsS81.set_1 | refine IsS81.far ?_ NB0_268.out _ | refine IsS81.far ?_ NB0_269.out _ | refine IsS81.far ?_ NB0_280.out _ | refine IsS81.far ?_ NB0_281.out _) | exact HI0.out)) k_ hk_)⟩)) (keep_size (w := w) (g := g) (row := none) (by repeat (first | (with_reducible first | exact HK.out | apply KeepBut.set_ | apply keep_drewN | apply keep_drew | apply keep_alloc | refine keep_far ?_ GW268.out _ | refine keep_far ?_ GW269.out _ | refine keep_far ?_ GW280.out _ | refine keep_far ?_ GW281.out _) | exact HK.out))))
     replace HO273 := zM (Kd.R_below HO273.out hb)
     replace BK268 := pzb BK268 hb
     replace BK269 := pzb BK269 hb
     replace BK280 := pzb BK280 hb
     replace BK281 := pzb BK281 hb
     replace HK := zM (KeepBut.trans (by repeat (first | (with_reducible first | exact HK.out | apply KeepBut.set_ | apply keep_drewN | apply keep_drew | apply keep_alloc | refine keep_far ?_ GW268.out _ | refine keep_far ?_ GW269.out _ | refine keep_far ?_ GW280.out _ | refine keep_far ?_ GW281.out _) | exact HK.out)) (KeepBut.of_below hb g none) (.inl rfl))
     replace HB := zM (below_step (by repeat (first | (with_reducible first | exact HB.out | apply below_alloc | apply pw_below_drewN | apply below_drew1 | refine below_set ?_ (IsS81.ge HI0.out) | refine below_setA ?_ (by assumption)) | exact HB.out)) hb)
     replace HI0 := zM (IsS81.below (by repeat (first | (with_reducible first | exact HI0.out | apply IsS81.alloc | apply IsS81.drewN | apply IsS81.drew | apply IsS81.set_0 | apply IsS81.set_1 | refine IsS81.far ?_ NB0_268.out _ | refine IsS81.far ?_ NB0_269.out _ | refine IsS81.far ?_ NB0_280.out _ | refine IsS81.far ?_ NB0_281.out _) | exact HI0.out)) hb)
     (try clear hb)
     (try clear hb2)
     (try clear hk)
     (try clear hi)
     (try clear ho0)
     refine hK.out _ _ ⟨(blk_cell BK268.out 0).trans rfl, (blk_cell BK268.out 1).trans rfl⟩ (fun hHeld => ?_)
     clear hK K
     refine norm_ (a' := ?_) ?_ ?_
     rotate_left
     ·show Act.put _ (some 15) _ = _
      simp only [Act.put, zS, z0, z1, i64_w, i32_w]
      rfl
     refine pure_ (i := 3) (N := some 12) (v := ?_) (a' := ?_) #[true, true, true, true, false, false, true, true, false, false] rfl rfl (any_of HT_.out (by kernel_rfl)) (fun _ _ _ h => h) (Or.inl ⟨by rfl, ?_⟩) ?_ ?_
     rotate_left
     ·intro w'
      go_simp
      with_reducible rfl
     rotate_left
     ·simp only [Act.put, zS, z0, z1, i64_w, i32_w]
      rfl
     refine pure_ (i := 4) (N := some 16) (v := ?_) (a' := ?_) #[true, true, true, true, true, false, true, true, false, false] rfl rfl (any_of HT_.out (by kernel_rfl)) (fun _ _ _ h => h) (Or.inl ⟨by rfl, ?_⟩) ?_ ?_
     rotate_left
     ·intro w'
      go_simp
      with_reducible rfl
     rotate_left
     ·simp only [Act.put, zS, z0, z1, i64_w, i32_w]
      rfl
     refine pure_ (i := 5) (N := some 17) (v := ?_) (a' := ?_) #[true, true, true, true, true, true, true, true, false, false] rfl rfl (any_of HT_.out (by kernel_rfl)) (fun _ _ _ h => h) (Or.inl ⟨by rfl, ?_⟩) ?_ ?_
     rotate_left
     ·intro w'
      go_simp
      with_reducible rfl
     rotate_left
     ·simp only [Act.put, zS, z0, z1, i64_w, i32_w]
      rfl
     exact norm_ (by first | (simp only [putAll, Act.put, zS, z0, z1]; done) | (simp only [putAll, Act.put, zS, z0, z1]; rfl)) (hJ1_2_6_7 (.slice Ao13 t271.length co13, v276, gb280, gb281) _ ⟨hHeld, HO273.out, (by (with_reducible repeat (first | apply Kd.V_alloc | apply Kd.V_drewN | apply Kd.V_drew)); exact Kd.V_mono HO277.out (fun _ hk => ⟨hk.1, ⟨hk.2.2.2.2.2, ⟨hk.2.1, ⟨hk.2.2.1, ⟨hk.2.2.2.1, hk.2.2.2.2.1⟩⟩⟩⟩⟩)), BK268.out, BK269.out, BK280.out, BK281.out, GW280.out, GE280.out, NB0_280.out, NB280_0.out, NB268_280.out, NB280_268.out, NB269_280.out, NB280_269.out, NB281_280.out, NB280_281.out, GW281.out, GE281.out, NB0_281.out, NB281_0.out, NB268_281.out, NB281_268.out, NB269_281.out, NB281_269.out, (by repeat (first | (with_reducible first | exact HI0.out | apply IsS81.alloc | apply IsS81.drewN | apply IsS81.drew | apply IsS81.set_0 | apply IsS81.set_1 | refine IsS81.far ?_ NB0_268.out _ | refine IsS81.far ?_ NB0_269.out _ | refine IsS81.far ?_ NB0_280.out _ | refine IsS81.far ?_ NB0_281.out _) | exact HI0.out)), (by repeat (first | (with_reducible first | exact HK.out | apply KeepBut.set_ | apply keep_drewN | apply keep_drew | apply keep_alloc | refine keep_far ?_ GW268.out _ | refine keep_far ?_ GW269.out _ | refine keep_far ?_ GW280.out _ | refine keep_far ?_ GW281.out _) | exact HK.out)), (by repeat (first | (with_reducible first | exact HB.out | apply below_alloc | apply pw_below_drewN | apply below_drew1 | refine below_set ?_ (IsS81.ge HI0.out) | refine below_setA ?_ (by assumption)) | exact HB.out))⟩)
   ·skip
    rintro ⟨v272, v276, gb281⟩ w13 ⟨hS_, h0_, h1_, h2_, h3_, h4_, h5_, h6_, h7_, h8_, h9_, h10_, h11_, h12_, h13_, h14_, h15_⟩
    have n0_ : Aside0 (Kd.R (Kd.int .u32) 76 w13 w.heap.size (fun _ => True) v272 t271) := ⟨h0_⟩
    have n1_ : Aside0 (Kd.V (Kd.int .u32) 76 w13 w.heap.size (fun k_ => some k_ ≠ (v272 : Value).ownBlock ∧ k_ ≠ g ∧ k_ ≠ gb268 ∧ k_ ≠ gb269 ∧ k_ ≠ gb281) v276 t275) := ⟨h1_⟩
    have n2_ : Aside0 (w13.heap[gb268]? = some (.cells #[.bool a1_0, .slice A1_1 l1_1.length c1_1] 24 (0, 0))) := ⟨h2_⟩
    have n3_ : Aside0 (w13.heap[gb269]? = some (.cells #[.bool false, .slice none 0 0] 24 (0, 0))) := ⟨h3_⟩
    have n4_ : Aside0 (w13.heap[gb281]? = some (.cells #[.int .i64 0, .int .i64 0] 29 (0, 0))) := ⟨h4_⟩
    have n5_ : Aside0 (w.heap.size ≤ gb281) := ⟨h5_⟩
    have n6_ : Aside0 (w0.heap.size ≤ gb281) := ⟨h6_⟩
    have n7_ : Aside0 (g ≠ gb281) := ⟨h7_⟩
    have n8_ : Aside0 (gb281 ≠ g) := ⟨h8_⟩
    have n9_ : Aside0 (gb268 ≠ gb281) := ⟨h9_⟩
    have n10_ : Aside0 (gb281 ≠ gb268) := ⟨h10_⟩
    have n11_ : Aside0 (gb269 ≠ gb281) := ⟨h11_⟩
    have n12_ : Aside0 (gb281 ≠ gb269) := ⟨h12_⟩
    have n13_ : Aside0 (IsS81 w0 w13 g s0_0 s0_1) := ⟨h13_⟩
    have n14_ : Aside0 (KeepBut w w13 g none) := ⟨h14_⟩
    have n15_ : Aside0 (Below w0.heap.size w0 w13) := ⟨h15_⟩
    clear BK268
    clear BK269
    clear HI0
    clear HK
    clear HB
    clear h0_ h1_ h2_ h3_ h4_ h5_ h6_ h7_ h8_ h9_ h10_ h11_ h12_ h13_ h14_ h15_
    have HO273 := n0_
    have HO277 := n1_
    have BK268 := n2_
    have BK269 := n3_
    have BK281 := n4_
    have GW281 := n5_
    have GE281 := n6_
    have NB0_281 := n7_
    have NB281_0 := n8_
    have NB268_281 := n9_
    have NB281_268 := n10_
    have NB269_281 := n11_
    have NB281_269 := n12_
    have HI0 := n13_
    have HK := n14_
    have HB := n15_
    clear n0_ n1_ n2_ n3_ n4_ n5_ n6_ n7_ n8_ n9_ n10_ n11_ n12_ n13_ n14_ n15_
    have hHeld : w13.cell? ⟨gb268, 0, none⟩ = some (.bool a1_0) ∧ w13.cell? ⟨gb268, 1, none⟩ = some (.slice A1_1 l1_1.length c1_1) := hS_
    refine norm_ (a' := ?_) ?_ ?_
    rotate_left
    ·simp only [putAll, Act.put, zS, z0, z1]
     rfl
    refine one_ (i := 6) (N := some 5) #[true, true, true, true, true, true, true, true, false, false] rfl rfl (one_of HT_.out (by kernel_rfl)) (by decide) (fun K hK => ?_)
    refine box_step ?hg (N := 5) ?hd (cs := #[.bool false, .slice none 0 0]) (t := 24) ?hr ?_; (case hd => rfl); (case hg => rfl); (case hr => first | (go_simp; done) | (go_simp; rfl))
    intro gb280 hg w14 hbox hb
    have BK280 := zM (hbox)
    have GW280 := zM ((by rw [hg]; exact (keep_size (w := w) (g := g) (row := none) (by repeat (first | (with_reducible first | exact HK.out | apply KeepBut.set_ | apply keep_drewN | apply keep_drew | apply keep_alloc | refine keep_far ?_ GW268.out _ | refine keep_far ?_ GW269.out _ | refine keep_far ?_ GW281.out _) | exact HK.out))) : w.heap.size ≤ gb280))
    have GE280 := zM ((Nat.le_trans HW0.out (by rw [hg]; exact (keep_size (w := w) (g := g) (row := none) (by repeat (first | (with_reducible first | exact HK.out | apply KeepBut.set_ | apply keep_drewN | apply keep_drew | apply keep_alloc | refine keep_far ?_ GW268.out _ | refine keep_far ?_ GW269.out _ | refine keep_far ?_ GW281.out _) | exact HK.out))) : w.heap.size ≤ gb280) : w0.heap.size ≤ gb280))
    have NB268_280 := pzf BK268 hg
    have NB280_268 := pzg BK268 hg
    have NB269_280 := pzf BK269 hg
    have NB280_269 := pzg BK269 hg
    have NB281_280 := pzf BK281 hg
    have NB280_281 := pzg BK281 hg
    have NB0_280 := zM ((by rw [hg]; exact Nat.ne_of_lt (IsS81.lt (show IsS81 w0 _ g s0_0 s0_1 from by repeat (first | (with_reducible first | exact HI0.out | apply IsS81.alloc | apply IsS81.drewN | apply IsS81.drew | apply IsS81.set_0 | apply IsS81.set_1 | refine IsS81.far ?_ NB0_268.out _ | refine IsS81.far ?_ NB0_269.out _ | refine IsS81.far ?_ NB0_281.out _) | exact HI0.out))) : g ≠ gb280))
    have NB280_0 := zM ((by rw [hg]; exact Nat.ne_of_gt (IsS81.lt (show IsS81 w0 _ g s0_0 s0_1 from by repeat (first | (with_reducible first | exact HI0.out | apply IsS81.alloc | apply IsS81.drewN | apply IsS81.drew | apply IsS81.set_0 | apply IsS81.set_1 | refine IsS81.far ?_ NB0_268.out _ | refine IsS81.far ?_ NB0_269.out _ | refine IsS81.far ?_ NB0_281.out _) | exact HI0.out))) : gb280 ≠ g))
    replace HO273 := zM (Kd.R_below HO273.out hb)
    replace HO277 := zM (Kd.V_below (Kd.V_elderB HO277.out gb280 (Nat.le_of_eq hg.symm)) hb)
    replace BK268 := pzb BK268 hb
    replace BK269 := pzb BK269 hb
    replace BK281 := pzb BK281 hb
    replace HK := zM (KeepBut.trans (by repeat (first | (with_reducible first | exact HK.out | apply KeepBut.set_ | apply keep_drewN | apply keep_drew | apply keep_alloc | refine keep_far ?_ GW268.out _ | refine keep_far ?_ GW269.out _ | refine keep_far ?_ GW281.out _) | exact HK.out)) (KeepBut.of_below hb g none) (.inl rfl))
    replace HB := zM (below_step (by repeat (first | (with_reducible first | exact HB.out | apply below_alloc | apply pw_below_drewN | apply below_drew1 | refine below_set ?_ (IsS81.ge HI0.out) | refine below_setA ?_ (by assumption)) | exact HB.out)) hb)
    replace HI0 := zM (IsS81.below (by repeat (first | (with_reducible first | exact HI0.out | apply IsS81.alloc | apply IsS81.drewN | apply IsS81.drew | apply IsS81.set_0 | apply IsS81.set_1 | refine IsS81.far ?_ NB0_268.out _ | refine IsS81.far ?_ NB0_269.out _ | refine IsS81.far ?_ NB0_281.out _) | exact HI0.out)) hb)
    clear hb hbox hg
    refine hK.out _ _ ⟨(blk_cell BK268.out 0).trans rfl, (blk_cell BK268.out 1).trans rfl⟩ (fun hHeld => ?_)
    clear hK K
    refine norm_ (a' := ?_) ?_ ?_
    rotate_left
    ·show Act.put _ (some 5) _ = _
     simp only [Act.put, zS, z0, z1, i64_w, i32_w]
     rfl
    exact norm_ (by first | (simp only [putAll, Act.put, zS, z0, z1]; done) | (simp only [putAll, Act.put, zS, z0, z1]; rfl)) (hJ1_2_6_7 (_, v276, gb280, gb281) _ ⟨hHeld, HO273.out, (by (with_reducible repeat (first | apply Kd.V_alloc | apply Kd.V_drewN | apply Kd.V_drew)); exact Kd.V_mono HO277.out (fun _ hk => ⟨hk.1.1, ⟨hk.1.2.1, ⟨hk.1.2.2.1, ⟨hk.1.2.2.2.1, ⟨hk.2, hk.1.2.2.2.2⟩⟩⟩⟩⟩)), BK268.out, BK269.out, BK280.out, BK281.out, GW280.out, GE280.out, NB0_280.out, NB280_0.out, NB268_280.out, NB280_268.out, NB269_280.out, NB280_269.out, NB281_280.out, NB280_281.out, GW281.out, GE281.out, NB0_281.out, NB281_0.out, NB268_281.out, NB281_268.out, NB269_281.out, NB281_269.out, (by repeat (first | (with_reducible first | exact HI0.out | apply IsS81.alloc | apply IsS81.drewN | apply IsS81.drew | apply IsS81.set_0 | apply IsS81.set_1 | refine IsS81.far ?_ NB0_268.out _ | refine IsS81.far ?_ NB0_269.out _ | refine IsS81.far ?_ NB0_281.out _ | refine IsS81.far ?_ NB0_280.out _) | exact HI0.out)), (by repeat (first | (with_reducible first | exact HK.out | apply KeepBut.set_ | apply keep_drewN | apply keep_drew | apply keep_alloc | refine keep_far ?_ GW268.out _ | refine keep_far ?_ GW269.out _ | refine keep_far ?_ GW281.out _ | refine keep_far ?_ GW280.out _) | exact HK.out)), (by repeat (first | (with_reducible first | exact HB.out | apply below_alloc | apply pw_below_drewN | apply below_drew1 | refine below_set ?_ (IsS81.ge HI0.out) | refine below_setA ?_ (by assumption)) | exact HB.out))⟩)
  ·skip
   rintro ⟨v272, v276, gb280⟩ w13 ⟨hS_, h0_, h1_, h2_, h3_, h4_, h5_, h6_, h7_, h8_, h9_, h10_, h11_, h12_, h13_, h14_, h15_⟩
   have n0_ : Aside0 (Kd.R (Kd.int .u32) 76 w13 w.heap.size (fun _ => True) v272 t271) := ⟨h0_⟩
   have n1_ : Aside0 (Kd.V (Kd.int .u32) 76 w13 w.heap.size (fun k_ => some k_ ≠ (v272 : Value).ownBlock ∧ k_ ≠ g ∧ k_ ≠ gb268 ∧ k_ ≠ gb269 ∧ k_ ≠ gb280) v276 t275) := ⟨h1_⟩
   have n2_ : Aside0 (w13.heap[gb268]? = some (.cells #[.bool a1_0, .slice A1_1 l1_1.length c1_1] 24 (0, 0))) := ⟨h2_⟩
   have n3_ : Aside0 (w13.heap[gb269]? = some (.cells #[.bool false, .slice none 0 0] 24 (0, 0))) := ⟨h3_⟩
   have n4_ : Aside0 (w13.heap[gb280]? = some (.cells #[.bool false, .slice none 0 0] 24 (0, 0))) := ⟨h4_⟩
   have n5_ : Aside0 (w.heap.size ≤ gb280) := ⟨h5_⟩
   have n6_ : Aside0 (w0.heap.size ≤ gb280) := ⟨h6_⟩
   have n7_ : Aside0 (g ≠ gb280) := ⟨h7_⟩
   have n8_ : Aside0 (gb280 ≠ g) := ⟨h8_⟩
   have n9_ : Aside0 (gb268 ≠ gb280) := ⟨h9_⟩
   have n10_ : Aside0 (gb280 ≠ gb268) := ⟨h10_⟩
   have n11_ : Aside0 (gb269 ≠ gb280) := ⟨h11_⟩
   have n12_ : Aside0 (gb280 ≠ gb269) := ⟨h12_⟩
   have n13_ : Aside0 (IsS81 w0 w13 g s0_0 s0_1) := ⟨h13_⟩
   have n14_ : Aside0 (KeepBut w w13 g none) := ⟨h14_⟩
   have n15_ : Aside0 (Below w0.heap.size w0 w13) := ⟨h15_⟩
   clear BK268
   clear BK269
   clear HI0
   clear HK
   clear HB
   clear h0_ h1_ h2_ h3_ h4_ h5_ h6_ h7_ h8_ h9_ h10_ h11_ h12_ h13_ h14_ h15_
   have HO273 := n0_
   have HO277 := n1_
   have BK268 := n2_
   have BK269 := n3_
   have BK280 := n4_
   have GW280 := n5_
   have GE280 := n6_
   have NB0_280 := n7_
   have NB280_0 := n8_
   have NB268_280 := n9_
   have NB280_268 := n10_
   have NB269_280 := n11_
   have NB280_269 := n12_
   have HI0 := n13_
   have HK := n14_
   have HB := n15_
   clear n0_ n1_ n2_ n3_ n4_ n5_ n6_ n7_ n8_ n9_ n10_ n11_ n12_ n13_ n14_ n15_
   have hHeld : w13.cell? ⟨gb268, 0, none⟩ = some (.bool a1_0) ∧ w13.cell? ⟨gb268, 1, none⟩ = some (.slice A1_1 l1_1.length c1_1) := hS_
   refine norm_ (a' := ?_) ?_ ?_
   rotate_left
   ·simp only [putAll, Act.put, zS, z0, z1]
    rfl
   refine one_ (i := 7) (N := some 6) #[true, true, true, true, true, true, true, true, false, false] rfl rfl (one_of HT_.out (by kernel_rfl)) (by decide) (fun K hK => ?_)
   refine box_step ?hg (N := 6) ?hd (cs := #[.int .i64 0, .int .i64 0]) (t := 29) ?hr ?_; (case hd => rfl); (case hg => rfl); (case hr => first | (go_simp; done) | (go_simp; rfl))
   intro gb281 hg w14 hbox hb
   have BK281 := zM (hbox)
   have GW281 := zM ((by rw [hg]; exact (keep_size (w := w) (g := g) (row := none) (by repeat (first | (with_reducible first | exact HK.out | apply KeepBut.set_ | apply keep_drewN | apply keep_drew | apply keep_alloc | refine keep_far ?_ GW268.out _ | refine keep_far ?_ GW269.out _ | refine keep_far ?_ GW280.out _) | exact HK.out))) : w.heap.size ≤ gb281))
   have GE281 := zM ((Nat.le_trans HW0.out (by rw [hg]; exact (keep_size (w := w) (g := g) (row := none) (by repeat (first | (with_reducible first | exact HK.out | apply KeepBut.set_ | apply keep_drewN | apply keep_drew | apply keep_alloc | refine keep_far ?_ GW268.out _ | refine keep_far ?_ GW269.out _ | refine keep_far ?_ GW280.out _) | exact HK.out))) : w.heap.size ≤ gb281) : w0.heap.size ≤ gb281))
   have NB268_281 := pzf BK268 hg
   have NB281_268 := pzg BK268 hg
   have NB269_281 := pzf BK269 hg
   have NB281_269 := pzg BK269 hg
   have NB280_281 := pzf BK280 hg
   have NB281_280 := pzg BK280 hg
   have NB0_281 := zM ((by rw [hg]; exact Nat.ne_of_lt (IsS81.lt (show IsS81 w0 _ g s0_0 s0_1 from by repeat (first | (with_reducible first | exact HI0.out | apply IsS81.alloc | apply IsS81.drewN | apply IsS81.drew | apply IsS81.set_0 | apply IsS81.set_1 | refine IsS81.far ?_ NB0_268.out _ | refine IsS81.far ?_ NB0_269.out _ | refine IsS81.far ?_ NB0_280.out _) | exact HI0.out))) : g ≠ gb281))
   have NB281_0 := zM ((by rw [hg]; exact Nat.ne_of_gt (IsS81.lt (show IsS81 w0 _ g s0_0 s0_1 from by repeat (first | (with_reducible first | exact HI0.out | apply IsS81.alloc | apply IsS81.drewN | apply IsS81.drew | apply IsS81.set_0 | apply IsS81.set_1 | refine IsS81.far ?_ NB0_268.out _ | refine IsS81.far ?_ NB0_269.out _ | refine IsS81.far ?_ NB0_280.out _) | exact HI0.out))) : gb281 ≠ g))
   replace HO273 := zM (Kd.R_below HO273.out hb)
   replace HO277 := zM (Kd.V_below (Kd.V_elderB HO277.out gb281 (Nat.le_of_eq hg.symm)) hb)
   replace BK268 := pzb BK268 hb
   replace BK269 := pzb BK269 hb
   replace BK280 := pzb BK280 hb
   replace HK := zM (KeepBut.trans (by repeat (first | (with_reducible first | exact HK.out | apply KeepBut.set_ | apply keep_drewN | apply keep_drew | apply keep_alloc | refine keep_far ?_ GW268.out _ | refine keep_far ?_ GW269.out _ | refine keep_far ?_ GW280.out _) | exact HK.out)) (KeepBut.of_below hb g none) (.inl rfl))
   replace HB := zM (below_step (by repeat (first | (with_reducible first | exact HB.out | apply below_alloc | apply pw_below_drewN | apply below_drew1 | refine below_set ?_ (IsS81.ge HI0.out) | refine below_setA ?_ (by assumption)) | exact HB.out)) hb)
   replace HI0 := zM (IsS81.below (by repeat (first | (with_reducible first | exact HI0.out | apply IsS81.alloc | apply IsS81.drewN | apply IsS81.drew | apply IsS81.set_0 | apply IsS81.set_1 | refine IsS81.far ?_ NB0_268.out _ | refine IsS81.far ?_ NB0_269.out _ | refine IsS81.far ?_ NB0_280.out _) | exact HI0.out)) hb)
   clear hb hbox hg
   refine hK.out _ _ ⟨(blk_cell BK268.out 0).trans rfl, (blk_cell BK268.out 1).trans rfl⟩ (fun hHeld => ?_)
   clear hK K
   refine norm_ (a' := ?_) ?_ ?_
   rotate_left
   ·show Act.put _ (some 6) _ = _
    simp only [Act.put, zS, z0, z1, i64_w, i32_w]
    rfl
   exact norm_ (by first | (simp only [putAll, Act.put, zS, z0, z1]; done) | (simp only [putAll, Act.put, zS, z0, z1]; rfl)) (hJ1_2_6_7 (_, v276, gb280, gb281) _ ⟨hHeld, HO273.out, (by (with_reducible repeat (first | apply Kd.V_alloc | apply Kd.V_drewN | apply Kd.V_drew)); exact Kd.V_mono HO277.out (fun _ hk => ⟨hk.1.1, ⟨hk.1.2.1, ⟨hk.1.2.2.1, ⟨hk.1.2.2.2.1, ⟨hk.1.2.2.2.2, hk.2⟩⟩⟩⟩⟩)), BK268.out, BK269.out, BK280.out, BK281.out, GW280.out, GE280.out, NB0_280.out, NB280_0.out, NB268_280.out, NB280_268.out, NB269_280.out, NB280_269.out, NB281_280.out, NB280_281.out, GW281.out, GE281.out, NB0_281.out, NB281_0.out, NB268_281.out, NB281_268.out, NB269_281.out, NB281_269.out, (by repeat (first | (with_reducible first | exact HI0.out | apply IsS81.alloc | apply IsS81.drewN | apply IsS81.drew | apply IsS81.set_0 | apply IsS81.set_1 | refine IsS81.far ?_ NB0_268.out _ | refine IsS81.far ?_ NB0_269.out _ | refine IsS81.far ?_ NB0_280.out _ | refine IsS81.far ?_ NB0_281.out _) | exact HI0.out)), (by repeat (first | (with_reducible first | exact HK.out | apply KeepBut.set_ | apply keep_drewN | apply keep_drew | apply keep_alloc | refine keep_far ?_ GW268.out _ | refine keep_far ?_ GW269.out _ | refine keep_far ?_ GW280.out _ | refine keep_far ?_ GW281.out _) | exact HK.out)), (by repeat (first | (with_reducible first | exact HB.out | apply below_alloc | apply pw_below_drewN | apply below_drew1 | refine below_set ?_ (IsS81.ge HI0.out) | refine below_setA ?_ (by assumption)) | exact HB.out))⟩)
 rintro ⟨v272, v276, gb280, gb281⟩ w14 ⟨hS_, h0_, h1_, h2_, h3_, h4_, h5_, h6_, h7_, h8_, h9_, h10_, h11_, h12_, h13_, h14_, h15_, h16_, h17_, h18_, h19_, h20_, h21_, h22_, h23_, h24_, h25_, h26_⟩
 have n0_ : Aside0 (Kd.R (Kd.int .u32) 76 w14 w.heap.size (fun _ => True) v272 t271) := ⟨h0_⟩
 have n1_ : Aside0 (Kd.V (Kd.int .u32) 76 w14 w.heap.size (fun k_ => some k_ ≠ (v272 : Value).ownBlock ∧ k_ ≠ g ∧ k_ ≠ gb268 ∧ k_ ≠ gb269 ∧ k_ ≠ gb280 ∧ k_ ≠ gb281) v276 t275) := ⟨h1_⟩
 have n2_ : Aside0 (w14.heap[gb268]? = some (.cells #[.bool a1_0, .slice A1_1 l1_1.length c1_1] 24 (0, 0))) := ⟨h2_⟩
 have n3_ : Aside0 (w14.heap[gb269]? = some (.cells #[.bool false, .slice none 0 0] 24 (0, 0))) := ⟨h3_⟩
 have n4_ : Aside0 (w14.heap[gb280]? = some (.cells #[.bool false, .slice none 0 0] 24 (0, 0))) := ⟨h4_⟩
 have n5_ : Aside0 (w14.heap[gb281]? = some (.cells #[.int .i64 0, .int .i64 0] 29 (0, 0))) := ⟨h5_⟩
 have n6_ : Aside0 (w.heap.size ≤ gb280) := ⟨h6_⟩
 have n7_ : Aside0 (w0.heap.size ≤ gb280) := ⟨h7_⟩
 have n8_ : Aside0 (g ≠ gb280) := ⟨h8_⟩
 have n9_ : Aside0 (gb280 ≠ g) := ⟨h9_⟩
 have n10_ : Aside0 (gb268 ≠ gb280) := ⟨h10_⟩
 have n11_ : Aside0 (gb280 ≠ gb268) := ⟨h11_⟩
 have n12_ : Aside0 (gb269 ≠ gb280) := ⟨h12_⟩
 have n13_ : Aside0 (gb280 ≠ gb269) := ⟨h13_⟩
 have n14_ : Aside0 (gb281 ≠ gb280) := ⟨h14_⟩
 have n15_ : Aside0 (gb280 ≠ gb281) := ⟨h15_⟩
 have n16_ : Aside0 (w.heap.size ≤ gb281) := ⟨h16_⟩
 have n17_ : Aside0 (w0.heap.size ≤ gb281) := ⟨h17_⟩
 have n18_ : Aside0 (g ≠ gb281) := ⟨h18_⟩
 have n19_ : Aside0 (gb281 ≠ g) := ⟨h19_⟩
 have n20_ : Aside0 (gb268 ≠ gb281) := ⟨h20_⟩
 have n21_ : Aside0 (gb281 ≠ gb268) := ⟨h21_⟩
 have n22_ : Aside0 (gb269 ≠ gb281) := ⟨h22_⟩
 have n23_ : Aside0 (gb281 ≠ gb269) := ⟨h23_⟩
 have n24_ : Aside0 (IsS81 w0 w14 g s0_0 s0_1) := ⟨h24_⟩
 have n25_ : Aside0 (KeepBut w w14 g none) := ⟨h25_⟩
 have n26_ : Aside0 (Below w0.heap.size w0 w14) := ⟨h26_⟩
 clear BK268
 clear BK269
 clear HI0
 clear HK
 clear HB
 clear h0_ h1_ h2_ h3_ h4_ h5_ h6_ h7_ h8_ h9_ h10_ h11_ h12_ h13_ h14_ h15_ h16_ h17_ h18_ h19_ h20_ h21_ h22_ h23_ h24_ h25_ h26_
 have HO273 := n0_
 have HO277 := n1_
 have BK268 := n2_
 have BK269 := n3_
 have BK280 := n4_
 have BK281 := n5_
 have GW280 := n6_
 have GE280 := n7_
 have NB0_280 := n8_
 have NB280_0 := n9_
 have NB268_280 := n10_
 have NB280_268 := n11_
 have NB269_280 := n12_
 have NB280_269 := n13_
 have NB281_280 := n14_
 have NB280_281 := n15_
 have GW281 := n16_
 have GE281 := n17_
 have NB0_281 := n18_
 have NB281_0 := n19_
 have NB268_281 := n20_
 have NB281_268 := n21_
 have NB269_281 := n22_
 have NB281_269 := n23_
 have HI0 := n24_
 have HK := n25_
 have HB := n26_
 clear n0_ n1_ n2_ n3_ n4_ n5_ n6_ n7_ n8_ n9_ n10_ n11_ n12_ n13_ n14_ n15_ n16_ n17_ n18_ n19_ n20_ n21_ n22_ n23_ n24_ n25_ n26_
 have hHeld : w14.cell? ⟨gb268, 0, none⟩ = some (.bool a1_0) ∧ w14.cell? ⟨gb268, 1, none⟩ = some (.slice A1_1 l1_1.length c1_1) := hS_
 obtain ⟨Ao16, co16, eo16⟩ := Kd.V_slice HO277.out
 (first | subst eo16 | (injection eo16 with f1_ f2_ f3_; have f4_ := f1_.symm; have f5_ := f3_.symm; clear f1_ f2_ f3_; subst f4_; subst f5_))
 refine norm_ (a' := ?_) ?_ ?_
 rotate_left
 ·simp only [putAll, Act.put, zS, z0, z1]
  rfl
 refine one_ (i := 8) (N := none) #[true, true, true, true, true, true, true, true, true, false] rfl rfl (one_of HT_.out (by kernel_rfl)) (by decide) (fun K hK => ?_)
 have hs15 : w14.cell? ⟨gb280, 0, none⟩ = some (.bool false) := (blk_cell BK280.out 0).trans rfl
 have hfs15 := zF BK280.out 0
 have hns15_0 := NB268_280.out
 have hns15_1 := NB269_280.out
 have hns15_3 := NB281_280.out
 have hms15_0 := NB280_268.out
 have hms15_1 := NB280_269.out
 have hms15_3 := NB280_281.out
 have hs17 : w14.cell? ⟨gb280, 1, none⟩ = some (.slice none 0 0) := (blk_cell BK280.out 1).trans rfl
 have hfs17 := zF BK280.out 1
 have hns17_0 := NB268_280.out
 have hns17_1 := NB269_280.out
 have hns17_3 := NB281_280.out
 have hms17_0 := NB280_268.out
 have hms17_1 := NB280_269.out
 have hms17_3 := NB280_281.out
 refine skip_ (w1 := ?_) (by rfl) rfl ?_ ?_
 rotate_left
 ·go_simp
  rfl
 refine hK.out _ _ ⟨((cell_far (p := ⟨gb280, _, none⟩) NB268_280.out _).trans (((cell_far (p := ⟨gb280, _, none⟩) NB268_280.out _).trans (hHeld.1)))), ((cell_far (p := ⟨gb280, _, none⟩) NB268_280.out _).trans (((cell_far (p := ⟨gb280, _, none⟩) NB268_280.out _).trans (hHeld.2))))⟩ (fun hHeld => ?_)
 clear hK K
 refine one_ (i := 9) (N := none) #[true, true, true, true, true, true, true, true, true, true] rfl rfl (one_of HT_.out (by kernel_rfl)) (by decide) (fun K hK => ?_)
 have hs18 : w14.cell? ⟨gb281, 0, none⟩ = some (.int .i64 0) := (blk_cell BK281.out 0).trans rfl
 have hfs18 := zF BK281.out 0
 have hns18_0 := NB268_281.out
 have hns18_1 := NB269_281.out
 have hns18_2 := NB280_281.out
 have hms18_0 := NB281_268.out
 have hms18_1 := NB281_269.out
 have hms18_2 := NB281_280.out
 have hs19 : w14.cell? ⟨gb281, 1, none⟩ = some (.int .i64 0) := (blk_cell BK281.out 1).trans rfl
 have hfs19 := zF BK281.out 1
 have hns19_0 := NB268_281.out
 have hns19_1 := NB269_281.out
 have hns19_2 := NB280_281.out
 have hms19_0 := NB281_268.out
 have hms19_1 := NB281_269.out
 have hms19_2 := NB281_280.out
 refine skip_ (w1 := ?_) (by rfl) rfl ?_ ?_
 rotate_left
 ·go_simp
  rfl
 refine hK.out _ _ ⟨((cell_far (p := ⟨gb281, _, none⟩) NB268_281.out _).trans (((cell_far (p := ⟨gb281, _, none⟩) NB268_281.out _).trans (hHeld.1)))), ((cell_far (p := ⟨gb281, _, none⟩) NB268_281.out _).trans (((cell_far (p := ⟨gb281, _, none⟩) NB268_281.out _).trans (hHeld.2))))⟩ (fun hHeld => ?_)
 clear hK K
 refine done_ (done_of HT_.out (by kernel_rfl)) ?_
 have hnb20 := NB280_268.out
 have hnc20 := NB268_280.out
 have hnb21 := NB280_269.out
 have hnc21 := NB269_280.out
 have hnb22 := NB280_281.out
 have hnc22 := NB281_280.out
 have hcz24_0 := pzc (v := .bool false) BK280 0 rfl
 have hcz24_1 := pzc (v := .slice none 0 0) BK280 1 rfl
 have hfz24_0 := zF BK280.out 0
 have hfz24_1 := zF BK280.out 1
 try go_wp2_with (first | ((with_reducible refine gate_callee (f := 60) rfl ?_); refine goesL_ (some 20) rfl rfl Try.func60 (by kernel_rfl) rfl #[.agg #[.bool t274, .slice Ao16 t275.length co16]] rfl (by (try simp only [zT, zC, zN]); first | done | rfl | (simp only [zR, zL]; rfl)) ?_; (with_reducible refine (integer_Bits.calls k t274 _ _ t275 t282 t283 t284 _ ?side1 ?side2 A5.out).mono ?_); (case side1 => refine (Kd.V_reads' (e := 76) (base := w.heap.size) (ok := fun k_ => (some k_ ≠ (v272 : Value).ownBlock ∧ (k_ ≠ g ∧ (k_ ≠ gb268 ∧ (k_ ≠ gb269 ∧ (k_ ≠ gb280 ∧ k_ ≠ gb281)))))) (n := t275.length) (c := co16) ?_).2.2; exact (by (with_reducible repeat (first | apply Kd.V_alloc | apply Kd.V_drewN | apply Kd.V_drew)); exact (Kd.V_mono (Kd.V_mono (Kd.V_far (p := ⟨gb281, 1, none⟩) (Kd.V_far (p := ⟨gb281, 0, none⟩) (Kd.V_far (p := ⟨gb280, 1, none⟩) (Kd.V_far (p := ⟨gb280, 0, none⟩) (Kd.V_mono (Kd.V_mono HO277.out (fun k_ hk => (⟨hk, hk.2.2.2.2.1⟩ : _ ∧ k_ ≠ gb280))) (fun k_ hk => (⟨hk, hk.1.2.2.2.2.2⟩ : _ ∧ k_ ≠ gb281))) (fun _ hk => hk.1.2) (.bool t274)) (fun _ hk => hk.1.2) (.slice Ao16 t275.length co16)) (fun _ hk => hk.2) (.int .i64 t278)) (fun _ hk => hk.2) (.int .i64 t279)) (fun _ h_ => h_.1)) (fun _ h_ => h_.1)))); (case side2 => exact (Kd.V_reads' HO277.out).2.1); rintro e w25 ⟨rfl, hb⟩; refine ⟨_, rfl, ?_⟩; have n0_ := zM (Kd.R_below (by (with_reducible repeat (first | apply Kd.R_alloc | apply Kd.R_drewN | apply Kd.R_drew)); exact (Kd.R_mono (Kd.R_mono (Kd.R_far (p := ⟨gb281, 1, none⟩) (Kd.R_far (p := ⟨gb281, 0, none⟩) (Kd.R_far (p := ⟨gb280, 1, none⟩) (Kd.R_far (p := ⟨gb280, 0, none⟩) (Kd.R_types (Kd.R_types HO273.out BK280.out (by decide)) BK281.out (by decide)) (fun _ hk => hk.1.2) (.bool t274)) (fun _ hk => hk.1.2) (.slice Ao16 t275.length co16)) (fun _ hk => hk.2) (.int .i64 t278)) (fun _ hk => hk.2) (.int .i64 t279)) (fun _ h_ => h_.1)) (fun _ h_ => h_.1))) hb); have n1_ := zM (Kd.V_below (by (with_reducible repeat (first | apply Kd.V_alloc | apply Kd.V_drewN | apply Kd.V_drew)); exact (Kd.V_mono (Kd.V_mono (Kd.V_far (p := ⟨gb281, 1, none⟩) (Kd.V_far (p := ⟨gb281, 0, none⟩) (Kd.V_far (p := ⟨gb280, 1, none⟩) (Kd.V_far (p := ⟨gb280, 0, none⟩) (Kd.V_mono (Kd.V_mono HO277.out (fun k_ hk => (⟨hk, hk.2.2.2.2.1⟩ : _ ∧ k_ ≠ gb280))) (fun k_ hk => (⟨hk, hk.1.2.2.2.2.2⟩ : _ ∧ k_ ≠ gb281))) (fun _ hk => hk.1.2) (.bool t274)) (fun _ hk => hk.1.2) (.slice Ao16 t275.length co16)) (fun _ hk => hk.2) (.int .i64 t278)) (fun _ hk => hk.2) (.int .i64 t279)) (fun _ h_ => h_.1)) (fun _ h_ => h_.1))) hb); have n2_ := zM (IsS81.below (show IsS81 w0 ((((w14.setCell ⟨gb280, 0, none⟩ (.bool t274)).setCell ⟨gb280, 1, none⟩ (.slice Ao16 t275.length co16)).setCell ⟨gb281, 0, none⟩ (.int .i64 t278)).setCell ⟨gb281, 1, none⟩ (.int .i64 t279)) g s0_0 s0_1 from by repeat (first | (with_reducible first | exact HI0.out | apply IsS81.alloc | apply IsS81.drewN | apply IsS81.drew | apply IsS81.set_0 | apply IsS81.set_1 | refine IsS81.far ?_ NB0_268.out _ | refine IsS81.far ?_ NB0_269.out _ | refine IsS81.far ?_ NB0_280.out _ | refine IsS81.far ?_ NB0_281.out _) | exact HI0.out)) hb); have n3_ := zM (blk_below (g := gb268) (o := .cells #[.bool a1_0, .slice A1_1 l1_1.length c1_1] 24 (0, 0)) (by (with_reducible repeat (first | apply pzN | apply pzd | apply pza)); refine blk_far ?_ NB268_281.out _; (with_reducible repeat (first | apply pzN | apply pzd | apply pza)); refine blk_far ?_ NB268_281.out _; (with_reducible repeat (first | apply pzN | apply pzd | apply pza)); refine blk_far ?_ NB268_280.out _; (with_reducible repeat (first | apply pzN | apply pzd | apply pza)); refine blk_far ?_ NB268_280.out _; (with_reducible repeat (first | apply pzN | apply pzd | apply pza)); exact BK268.out) hb); have n4_ := zM (blk_below (g := gb269) (o := .cells #[.bool false, .slice none 0 0] 24 (0, 0)) (by (with_reducible repeat (first | apply pzN | apply pzd | apply pza)); refine blk_far ?_ NB269_281.out _; (with_reducible repeat (first | apply pzN | apply pzd | apply pza)); refine blk_far ?_ NB269_281.out _; (with_reducible repeat (first | apply pzN | apply pzd | apply pza)); refine blk_far ?_ NB269_280.out _; (with_reducible repeat (first | apply pzN | apply pzd | apply pza)); refine blk_far ?_ NB269_280.out _; (with_reducible repeat (first | apply pzN | apply pzd | apply pza)); exact BK269.out) hb); have n5_ := zM (blk_below (g := gb280) (o := .cells #[.bool t274, .slice Ao16 t275.length co16] 24 (0, 0)) (by (with_reducible repeat (first | apply pzN | apply pzd | apply pza)); refine blk_far ?_ NB280_281.out _; (with_reducible repeat (first | apply pzN | apply pzd | apply pza)); refine blk_far ?_ NB280_281.out _; (with_reducible repeat (first | apply pzN | apply pzd | apply pza)); refine blk_put (cs := #[.bool t274, .slice none 0 0]) ?_ 1 _ rfl; (with_reducible repeat (first | apply pzN | apply pzd | apply pza)); refine blk_put (cs := #[.bool false, .slice none 0 0]) ?_ 0 _ rfl; (with_reducible repeat (first | apply pzN | apply pzd | apply pza)); exact BK280.out) hb); have n6_ := zM (blk_below (g := gb281) (o := .cells #[.int .i64 t278, .int .i64 t279] 29 (0, 0)) (by (with_reducible repeat (first | apply pzN | apply pzd | apply pza)); refine blk_put (cs := #[.int .i64 t278, .int .i64 0]) ?_ 1 _ rfl; (with_reducible repeat (first | apply pzN | apply pzd | apply pza)); refine blk_put (cs := #[.int .i64 0, .int .i64 0]) ?_ 0 _ rfl; (with_reducible repeat (first | apply pzN | apply pzd | apply pza)); refine blk_far ?_ NB281_280.out _; (with_reducible repeat (first | apply pzN | apply pzd | apply pza)); refine blk_far ?_ NB281_280.out _; (with_reducible repeat (first | apply pzN | apply pzd | apply pza)); exact BK281.out) hb); have n7_ := zM (KeepBut.trans (by repeat (first | (with_reducible first | exact HK.out | apply KeepBut.set_ | apply keep_drewN | apply keep_drew | apply keep_alloc | refine keep_far ?_ GW268.out _ | refine keep_far ?_ GW269.out _ | refine keep_far ?_ GW280.out _ | refine keep_far ?_ GW281.out _) | exact HK.out)) (KeepBut.of_below hb g none) (.inl rfl)); have n8_ := zM (below_step (by repeat (first | (with_reducible first | exact HB.out | apply below_alloc | apply pw_below_drewN | apply below_drew1 | refine below_set ?_ (IsS81.ge HI0.out) | refine below_setA ?_ (by assumption)) | exact HB.out)) hb); clear HO273; clear HO277; clear HI0; clear BK268; clear BK269; clear BK280; clear BK281; clear HK; clear HB; have HO273 := n0_; have HO277 := n1_; have HI0 := n2_; have BK268 := n3_; have BK269 := n4_; have BK280 := n5_; have BK281 := n6_; have HK := n7_; have HB := n8_; clear n0_ n1_ n2_ n3_ n4_ n5_ n6_ n7_ n8_; (try clear hb); (try clear hb2); (try clear hk); (try clear hi)) | ((with_reducible refine gate_dst (N := 8) rfl ?_); refine box_event ?hg (N := 8) ?hd (cs := #[.int .i64 0, .int .i64 0]) (t := 29) ?hr ?_; (case hd => rfl); (case hg => rfl); (case hr => first | (go_simp; done) | (go_simp; rfl)); intro gb285 hg w26 hbox hb; have BK285 := zM (hbox); have GW285 := zM ((by rw [hg]; exact (keep_size (w := w) (g := g) (row := none) (by repeat (first | (with_reducible first | exact HK.out | apply KeepBut.set_ | apply keep_drewN | apply keep_drew | apply keep_alloc | refine keep_far ?_ GW268.out _ | refine keep_far ?_ GW269.out _ | refine keep_far ?_ GW280.out _ | refine keep_far ?_ GW281.out _) | exact HK.out))) : w.heap.size ≤ gb285)); have GE285 := zM ((Nat.le_trans HW0.out (by rw [hg]; exact (keep_size (w := w) (g := g) (row := none) (by repeat (first | (with_reducible first | exact HK.out | apply KeepBut.set_ | apply keep_drewN | apply keep_drew | apply keep_alloc | refine keep_far ?_ GW268.out _ | refine keep_far ?_ GW269.out _ | refine keep_far ?_ GW280.out _ | refine keep_far ?_ GW281.out _) | exact HK.out))) : w.heap.size ≤ gb285) : w0.heap.size ≤ gb285)); have NB268_285 := pzf BK268 hg; have NB285_268 := pzg BK268 hg; have NB269_285 := pzf BK269 hg; have NB285_269 := pzg BK269 hg; have NB0_285 := zM ((by rw [hg]; exact Nat.ne_of_lt (IsS81.lt (show IsS81 w0 _ g s0_0 s0_1 from by repeat (first | (with_reducible first | exact HI0.out | apply IsS81.alloc | apply IsS81.drewN | apply IsS81.drew | apply IsS81.set_0 | apply IsS81.set_1 | refine IsS81.far ?_ NB0_268.out _ | refine IsS81.far ?_ NB0_269.out _ | refine IsS81.far ?_ NB0_280.out _ | refine IsS81.far ?_ NB0_281.out _) | exact HI0.out))) : g ≠ gb285)); replace HO273 := zM (Kd.R_below HO273.out hb); replace HO277 := zM (Kd.V_below (Kd.V_elderB HO277.out gb285 (Nat.le_of_eq hg.symm)) hb); replace BK268 := pzb BK268 hb; replace BK269 := pzb BK269 hb; replace HK := zM (KeepBut.trans (by repeat (first | (with_reducible first | exact HK.out | apply KeepBut.set_ | apply keep_drewN | apply keep_drew | apply keep_alloc | refine keep_far ?_ GW268.out _ | refine keep_far ?_ GW269.out _ | refine keep_far ?_ GW280.out _ | refine keep_far ?_ GW281.out _) | exact HK.out)) (KeepBut.of_below hb g none) (.inl rfl)); replace HB := zM (below_step (by repeat (first | (with_reducible first | exact HB.out | apply below_alloc | apply pw_below_drewN | apply below_drew1 | refine below_set ?_ (IsS81.ge HI0.out) | refine below_setA ?_ (by assumption)) | exact HB.out)) hb); replace HI0 := zM (IsS81.below (by repeat (first | (with_reducible first | exact HI0.out | apply IsS81.alloc | apply IsS81.drewN | apply IsS81.drew | apply IsS81.set_0 | apply IsS81.set_1 | refine IsS81.far ?_ NB0_268.out _ | refine IsS81.far ?_ NB0_269.out _ | refine IsS81.far ?_ NB0_280.out _ | refine IsS81.far ?_ NB0_281.out _) | exact HI0.out)) hb); clear hb hbox hg; have hnb27 := NB285_268.out; have hnc27 := NB268_285.out; have hnb28 := NB285_269.out; have hnc28 := NB269_285.out; have hcz32_0 := pzc (v := .int .i64 0) BK285 0 rfl; have hcz32_1 := pzc (v := .int .i64 0) BK285 1 rfl; have hfz32_0 := zF BK285.out 0; have hfz32_1 := zF BK285.out 1))
 go_loopg [] k (fun kq w' => ∃ (x1000_1 : Int) (x1001_1 : Int) (x270000_1 : Bool), Aside0 (random_source_below.l0 kq t282 x1000_1 x1001_1 a1_0 l1_1 = some (r1, r2, r3, r4)) ∧ Aside0 (kq ≤ k) ∧ Aside0 (w'.heap[gb268]? = some (.cells #[.bool a1_0, (.slice A1_1 l1_1.length c1_1)] 24 (0, 0))) ∧ Aside0 (w'.heap[gb269]? = some (.cells #[.bool x270000_1, (.slice none 0 0)] 24 (0, 0))) ∧ Aside0 (IsS81 w0 w' g x1000_1 x1001_1) ∧ Aside0 (KeepBut w w' g none) ∧ Aside0 (Below w0.heap.size w0 w'))
 case atStart => exact ⟨(s0_0), (s0_1), (false), H', ⟨Nat.le_refl _⟩, ⟨by (with_reducible repeat (first | apply pzN | apply pzd | apply pza)); refine blk_far ?_ NB268_285.out _; (with_reducible repeat (first | apply pzN | apply pzd | apply pza)); refine blk_far ?_ NB268_285.out _; (with_reducible repeat (first | apply pzN | apply pzd | apply pza)); exact BK268.out⟩, ⟨by (with_reducible repeat (first | apply pzN | apply pzd | apply pza)); refine blk_far ?_ NB269_285.out _; (with_reducible repeat (first | apply pzN | apply pzd | apply pza)); refine blk_far ?_ NB269_285.out _; (with_reducible repeat (first | apply pzN | apply pzd | apply pza)); exact BK269.out⟩, ⟨by repeat (first | (with_reducible first | exact HI0.out | apply IsS81.alloc | apply IsS81.drewN | apply IsS81.drew | apply IsS81.set_0 | apply IsS81.set_1 | refine IsS81.far ?_ NB0_268.out _ | refine IsS81.far ?_ NB0_269.out _ | refine IsS81.far ?_ NB0_280.out _ | refine IsS81.far ?_ NB0_281.out _ | refine IsS81.far ?_ NB0_285.out _) | exact HI0.out)⟩, ⟨by repeat (first | (with_reducible first | exact HK.out | apply KeepBut.set_ | apply keep_drewN | apply keep_drew | apply keep_alloc | refine keep_far ?_ GW268.out _ | refine keep_far ?_ GW269.out _ | refine keep_far ?_ GW280.out _ | refine keep_far ?_ GW281.out _ | refine keep_far ?_ GW285.out _) | exact HK.out)⟩, ⟨by repeat (first | (with_reducible first | exact HB.out | apply below_alloc | apply pw_below_drewN | apply below_drew1 | refine below_set ?_ (IsS81.ge HI0.out) | refine below_setA ?_ (by assumption)) | exact HB.out)⟩⟩
 case round =>
  clear H'
  try clear c1
  try clear c2
  try clear p2
  try clear c3
  try clear c4
  try clear c6
  try clear c20
  try clear c21
  try clear c22
  try clear c23
  try clear c27
  try clear c28
  try clear c29
  try clear c30
  try clear c31
  try clear hcz24_0
  try clear hcz24_1
  try clear hcz32_0
  try clear hcz32_1
  try clear hfz24_0
  try clear hfz24_1
  try clear hfz32_0
  try clear hfz32_1
  obtain ⟨x1000_1, x1001_1, x270000_1, HA, HK1, BK268, BK269, HI0, HK, HB⟩ := hrel
  cases gk with
  | zero => exact absurd HA.out (by simp [random_source_below.l0])
  | succ k1 =>
   have H := HA.out
   clear HA
   simp only [random_source_below.l0] at H
   replace H := zB H
   obtain ⟨⟨t286, t287, t290, t291⟩, A330, H⟩ := H
   replace H : ((integer_Cmp.f k1 t286 t287 a1_0 l1_1).bind fun bt293 => (if bt293.1 < 0 then (some (t286, t287, t290, t291)) else (random_source_below.l0 k1 t282 t290 t291 a1_0 l1_1))) = some (r1, r2, r3, r4) := H
   have A33 := zM A330
   clear A330
   replace H := zB H
   obtain ⟨⟨t293, t294, t295⟩, A340, H⟩ := H
   replace H : (if t293 < 0 then (some (t286, t287, t290, t291)) else (random_source_below.l0 k1 t282 t290 t291 a1_0 l1_1)) = some (r1, r2, r3, r4) := H
   have A34 := zM A340
   clear A340
   by_cases c35 : t293 < 0
   ·rw [if_pos c35] at H
    have c35b0 : decide (t293 < 0) = true := zE c35
    clear c35
    simp only [Option.some.injEq, Prod.mk.injEq] at H
    obtain ⟨rfl, rfl, rfl, rfl⟩ := H
    go_wp2_with (first | ((with_reducible refine gate_callee (f := 61) rfl ?_); refine goesL_ (some 25) rfl rfl Try.func61 (by kernel_rfl) rfl #[.pointer (some ⟨g, 0, none⟩), .int .i64 t282] rfl (by (try simp only [zT, zC, zN]); first | done | rfl | (simp only [zR, zL]; rfl)) ?_; (with_reducible refine (random_source_bits.calls k1 g x1000_1 x1001_1 t282 t286 t287 t290 t291 w0 _ ?side1 ?side2 A33.out).mono ?_); (case side1 => repeat (first | (with_reducible first | exact HI0.out | apply IsS81.alloc | apply IsS81.drewN | apply IsS81.drew | apply IsS81.set_0 | apply IsS81.set_1 | refine IsS81.far ?_ NB0_268.out _ | refine IsS81.far ?_ NB0_269.out _) | exact HI0.out)); (case side2 => repeat (first | (with_reducible first | exact HB.out | apply below_alloc | apply pw_below_drewN | apply below_drew1 | refine below_set ?_ (IsS81.ge HI0.out) | refine below_setA ?_ (by assumption)) | exact HB.out)); rintro e w36 ⟨v288, rfl, ho0, hi, hb, hk⟩; refine ⟨_, rfl, ?_⟩; have HO289 := zM (Kd.R_lower ho0 (keep_size (w := w) (g := g) (row := none) (by repeat (first | (with_reducible first | exact HK.out | apply KeepBut.set_ | apply keep_drewN | apply keep_drew | apply keep_alloc | refine keep_far ?_ GW268.out _ | refine keep_far ?_ GW269.out _) | exact HK.out)))); replace BK268 := zM (KeepBut.blk hk (g' := gb268) (o := .cells #[.bool a1_0, .slice A1_1 l1_1.length c1_1] 24 (0, 0)) BK268.out NB268_0.out (by simp)); replace BK269 := zM (KeepBut.blk hk (g' := gb269) (o := .cells #[.bool x270000_1, .slice none 0 0] 24 (0, 0)) BK269.out NB269_0.out (by simp)); replace HK := zM (KeepBut.trans (by repeat (first | (with_reducible first | exact HK.out | apply KeepBut.set_ | apply keep_drewN | apply keep_drew | apply keep_alloc | refine keep_far ?_ GW268.out _ | refine keep_far ?_ GW269.out _) | exact HK.out)) hk (.inl rfl)); replace HB := zM (hb); replace HI0 := zM (hi); (try clear hb); (try clear hb2); (try clear hk); (try clear hi); (try clear ho0)) | ((with_reducible refine gate_dst (N := 9) rfl ?_); refine box_event ?hg (N := 9) ?hd (cs := #[.bool false, .slice none 0 0]) (t := 24) ?hr ?_; (case hd => rfl); (case hg => rfl); (case hr => first | (go_simp; done) | (go_simp; rfl)); intro gb292 hg w37 hbox hb; have BK292 := zM (hbox); have GW292 := zM ((by rw [hg]; exact (keep_size (w := w) (g := g) (row := none) (by repeat (first | (with_reducible first | exact HK.out | apply KeepBut.set_ | apply keep_drewN | apply keep_drew | apply keep_alloc | refine keep_far ?_ GW268.out _ | refine keep_far ?_ GW269.out _) | exact HK.out))) : w.heap.size ≤ gb292)); have GE292 := zM ((Nat.le_trans HW0.out (by rw [hg]; exact (keep_size (w := w) (g := g) (row := none) (by repeat (first | (with_reducible first | exact HK.out | apply KeepBut.set_ | apply keep_drewN | apply keep_drew | apply keep_alloc | refine keep_far ?_ GW268.out _ | refine keep_far ?_ GW269.out _) | exact HK.out))) : w.heap.size ≤ gb292) : w0.heap.size ≤ gb292)); have NB268_292 := pzf BK268 hg; have NB292_268 := pzg BK268 hg; have NB269_292 := pzf BK269 hg; have NB292_269 := pzg BK269 hg; have NB0_292 := zM ((by rw [hg]; exact Nat.ne_of_lt (IsS81.lt (show IsS81 w0 _ g t290 t291 from by repeat (first | (with_reducible first | exact HI0.out | apply IsS81.alloc | apply IsS81.drewN | apply IsS81.drew | apply IsS81.set_0 | apply IsS81.set_1 | refine IsS81.far ?_ NB0_268.out _ | refine IsS81.far ?_ NB0_269.out _) | exact HI0.out))) : g ≠ gb292)); replace HO289 := zM (Kd.R_below HO289.out hb); replace BK268 := pzb BK268 hb; replace BK269 := pzb BK269 hb; replace HK := zM (KeepBut.trans (by repeat (first | (with_reducible first | exact HK.out | apply KeepBut.set_ | apply keep_drewN | apply keep_drew | apply keep_alloc | refine keep_far ?_ GW268.out _ | refine keep_far ?_ GW269.out _) | exact HK.out)) (KeepBut.of_below hb g none) (.inl rfl)); replace HB := zM (below_step (by repeat (first | (with_reducible first | exact HB.out | apply below_alloc | apply pw_below_drewN | apply below_drew1 | refine below_set ?_ (IsS81.ge HI0.out) | refine below_setA ?_ (by assumption)) | exact HB.out)) hb); replace HI0 := zM (IsS81.below (by repeat (first | (with_reducible first | exact HI0.out | apply IsS81.alloc | apply IsS81.drewN | apply IsS81.drew | apply IsS81.set_0 | apply IsS81.set_1 | refine IsS81.far ?_ NB0_268.out _ | refine IsS81.far ?_ NB0_269.out _) | exact HI0.out)) hb); clear hb hbox hg; have hnb38 := NB292_268.out; have hnc38 := NB268_292.out; have hnb39 := NB292_269.out; have hnc39 := NB269_292.out; have hcz41_0 := pzc (v := .bool false) BK292 0 rfl; have hcz41_1 := pzc (v := .slice none 0 0) BK292 1 rfl; have hfz41_0 := zF BK292.out 0; have hfz41_1 := zF BK292.out 1; obtain ⟨Ao42, co42, eo42⟩ := Kd.R_slice HO289.out; subst eo42; have hnb43 := NB268_269.out; have hnc43 := NB269_268.out; have hcz45_0 := pzc (v := .bool a1_0) BK268 0 rfl; have hcz45_1 := pzc (v := .slice A1_1 l1_1.length c1_1) BK268 1 rfl; have hfz45_0 := zF BK268.out 0; have hfz45_1 := zF BK268.out 1) | ((with_reducible refine gate_callee (f := 44) rfl ?_); refine goesL_ (some 29) rfl rfl Try.func44 (by kernel_rfl) rfl #[.agg #[.bool t286, .slice Ao42 t287.length co42], .agg #[.bool a1_0, .slice A1_1 l1_1.length c1_1]] rfl (by (try simp only [zT, zC, zN]); first | done | rfl | (simp only [zR, zL]; rfl)) ?_; (with_reducible refine (integer_Cmp.calls k1 t286 _ _ t287 a1_0 _ _ l1_1 t293 t294 t295 _ ?side1 ?side2 ?side3 ?side4 A34.out).mono ?_); (case side1 => refine (Kd.R_reads' (e := 76) (base := w.heap.size) (ok := fun k_ => True) (n := t287.length) (c := co42) ?_).2.2; exact (by (with_reducible repeat (first | apply Kd.R_alloc | apply Kd.R_drewN | apply Kd.R_drew)); exact (Kd.R_mono (Kd.R_far (p := ⟨gb292, 1, none⟩) (Kd.R_far (p := ⟨gb292, 0, none⟩) (Kd.R_types HO289.out BK292.out (by decide)) (fun _ hk => hk.2) (.bool t286)) (fun _ hk => hk.2) (.slice Ao42 t287.length co42)) (fun _ h_ => h_.1)))); (case side2 => exact (Kd.R_reads' HO289.out).2.1); (case side3 => exact Kd.C_keep 0 HR1_1.out (by repeat (first | (with_reducible first | exact HK.out | apply KeepBut.set_ | apply keep_drewN | apply keep_drew | apply keep_alloc | refine keep_far ?_ GW268.out _ | refine keep_far ?_ GW269.out _ | refine keep_far ?_ GW292.out _) | exact HK.out)) hf1_1); (case side4 => exact HC1_1.out); rintro e w46 ⟨rfl, hb⟩; refine ⟨_, rfl, ?_⟩; replace HO289 := zM (Kd.R_below (by (with_reducible repeat (first | apply Kd.R_alloc | apply Kd.R_drewN | apply Kd.R_drew)); exact (Kd.R_mono (Kd.R_far (p := ⟨gb292, 1, none⟩) (Kd.R_far (p := ⟨gb292, 0, none⟩) (Kd.R_types HO289.out BK292.out (by decide)) (fun _ hk => hk.2) (.bool t286)) (fun _ hk => hk.2) (.slice Ao42 t287.length co42)) (fun _ h_ => h_.1))) hb); replace BK269 := zM (blk_below (g := gb269) (o := .cells #[.bool x270000_1, .slice none 0 0] 24 (0, 0)) (by (with_reducible repeat (first | apply pzN | apply pzd | apply pza)); refine blk_far ?_ NB269_292.out _; (with_reducible repeat (first | apply pzN | apply pzd | apply pza)); refine blk_far ?_ NB269_292.out _; (with_reducible repeat (first | apply pzN | apply pzd | apply pza)); exact BK269.out) hb); replace BK292 := zM (blk_below (g := gb292) (o := .cells #[.bool t286, .slice Ao42 t287.length co42] 24 (0, 0)) (by (with_reducible repeat (first | apply pzN | apply pzd | apply pza)); refine blk_put (cs := #[.bool t286, .slice none 0 0]) ?_ 1 _ rfl; (with_reducible repeat (first | apply pzN | apply pzd | apply pza)); refine blk_put (cs := #[.bool false, .slice none 0 0]) ?_ 0 _ rfl; (with_reducible repeat (first | apply pzN | apply pzd | apply pza)); exact BK292.out) hb); replace HK := zM (KeepBut.trans (by repeat (first | (with_reducible first | exact HK.out | apply KeepBut.set_ | apply keep_drewN | apply keep_drew | apply keep_alloc | refine keep_far ?_ GW268.out _ | refine keep_far ?_ GW269.out _ | refine keep_far ?_ GW292.out _) | exact HK.out)) (KeepBut.of_below hb g none) (.inl rfl)); replace HB := zM (below_step (by repeat (first | (with_reducible first | exact HB.out | apply below_alloc | apply pw_below_drewN | apply below_drew1 | refine below_set ?_ (IsS81.ge HI0.out) | refine below_setA ?_ (by assumption)) | exact HB.out)) hb); replace HI0 := zM (IsS81.below (show IsS81 w0 ((w37.setCell ⟨gb292, 0, none⟩ (.bool t286)).setCell ⟨gb292, 1, none⟩ (.slice Ao42 t287.length co42)) g t290 t291 from by repeat (first | (with_reducible first | exact HI0.out | apply IsS81.alloc | apply IsS81.drewN | apply IsS81.drew | apply IsS81.set_0 | apply IsS81.set_1 | refine IsS81.far ?_ NB0_268.out _ | refine IsS81.far ?_ NB0_269.out _ | refine IsS81.far ?_ NB0_292.out _) | exact HI0.out)) hb); (try clear hb); (try clear hb2); (try clear hk); (try clear hi)) | ((with_reducible refine gate_dst (N := 11) rfl ?_); refine box_event ?hg (N := 11) ?hd (cs := #[.int .i64 0, .int .i64 0]) (t := 29) ?hr ?_; (case hd => rfl); (case hg => rfl); (case hr => first | (go_simp; done) | (go_simp; rfl)); intro gb296 hg w47 hbox hb; have BK296 := zM (hbox); have GW296 := zM ((by rw [hg]; exact (keep_size (w := w) (g := g) (row := none) (by repeat (first | (with_reducible first | exact HK.out | apply KeepBut.set_ | apply keep_drewN | apply keep_drew | apply keep_alloc | refine keep_far ?_ GW268.out _ | refine keep_far ?_ GW269.out _ | refine keep_far ?_ GW292.out _) | exact HK.out))) : w.heap.size ≤ gb296)); have GE296 := zM ((Nat.le_trans HW0.out (by rw [hg]; exact (keep_size (w := w) (g := g) (row := none) (by repeat (first | (with_reducible first | exact HK.out | apply KeepBut.set_ | apply keep_drewN | apply keep_drew | apply keep_alloc | refine keep_far ?_ GW268.out _ | refine keep_far ?_ GW269.out _ | refine keep_far ?_ GW292.out _) | exact HK.out))) : w.heap.size ≤ gb296) : w0.heap.size ≤ gb296)); have NB269_296 := pzf BK269 hg; have NB296_269 := pzg BK269 hg; have NB292_296 := pzf BK292 hg; have NB296_292 := pzg BK292 hg; have NB0_296 := zM ((by rw [hg]; exact Nat.ne_of_lt (IsS81.lt (show IsS81 w0 _ g t290 t291 from by repeat (first | (with_reducible first | exact HI0.out | apply IsS81.alloc | apply IsS81.drewN | apply IsS81.drew | apply IsS81.set_0 | apply IsS81.set_1 | refine IsS81.far ?_ NB0_268.out _ | refine IsS81.far ?_ NB0_269.out _ | refine IsS81.far ?_ NB0_292.out _) | exact HI0.out))) : g ≠ gb296)); replace HO289 := zM (Kd.R_below HO289.out hb); replace BK269 := pzb BK269 hb; replace BK292 := pzb BK292 hb; replace HK := zM (KeepBut.trans (by repeat (first | (with_reducible first | exact HK.out | apply KeepBut.set_ | apply keep_drewN | apply keep_drew | apply keep_alloc | refine keep_far ?_ GW268.out _ | refine keep_far ?_ GW269.out _ | refine keep_far ?_ GW292.out _) | exact HK.out)) (KeepBut.of_below hb g none) (.inl rfl)); replace HB := zM (below_step (by repeat (first | (with_reducible first | exact HB.out | apply below_alloc | apply pw_below_drewN | apply below_drew1 | refine below_set ?_ (IsS81.ge HI0.out) | refine below_setA ?_ (by assumption)) | exact HB.out)) hb); replace HI0 := zM (IsS81.below (by repeat (first | (with_reducible first | exact HI0.out | apply IsS81.alloc | apply IsS81.drewN | apply IsS81.drew | apply IsS81.set_0 | apply IsS81.set_1 | refine IsS81.far ?_ NB0_268.out _ | refine IsS81.far ?_ NB0_269.out _ | refine IsS81.far ?_ NB0_292.out _) | exact HI0.out)) hb); clear hb hbox hg; have hnb49 := NB296_269.out; have hnc49 := NB269_296.out; have hnb50 := NB296_292.out; have hnc50 := NB292_296.out; have hcz52_0 := pzc (v := .int .i64 0) BK296 0 rfl; have hcz52_1 := pzc (v := .int .i64 0) BK296 1 rfl; have hfz52_0 := zF BK296.out 0; have hfz52_1 := zF BK296.out 1; have hcz53_0 := pzc (v := .bool t286) BK292 0 rfl; have hcz53_1 := pzc (v := .slice Ao42 t287.length co42) BK292 1 rfl; have hfz53_0 := zF BK292.out 0; have hfz53_1 := zF BK292.out 1; have hcz55_0 := pzc (v := .bool x270000_1) BK269 0 rfl; have hcz55_1 := pzc (v := .slice none 0 0) BK269 1 rfl; have hfz55_0 := zF BK269.out 0; have hfz55_1 := zF BK269.out 1))
    refine bodyPost_ret (results_cell_row rfl _ _ gb269 24 #[.bool t286, .slice Ao42 t287.length co42] (0, 0) _ rfl (by (with_reducible repeat (first | apply pzN | apply pzd | apply pza)); refine blk_put (cs := #[.bool t286, .slice none 0 0]) ?_ 1 _ rfl; (with_reducible repeat (first | apply pzN | apply pzd | apply pza)); refine blk_put (cs := #[.bool x270000_1, .slice none 0 0]) ?_ 0 _ rfl; (with_reducible repeat (first | apply pzN | apply pzd | apply pza)); refine blk_far ?_ NB269_296.out _; (with_reducible repeat (first | apply pzN | apply pzd | apply pza)); refine blk_far ?_ NB269_296.out _; (with_reducible repeat (first | apply pzN | apply pzd | apply pza)); exact BK269.out) Try.underlying24 rfl (by kernel_rfl)) rfl ?_
    exact ⟨_, by first | rfl | (simp [errW_none, errW_some] <;> rfl) | (simp [*, errW_none, errW_some] <;> rfl), by (with_reducible repeat (first | apply Kd.R_alloc | apply Kd.R_drewN | apply Kd.R_drew)); exact Kd.R_mono (Kd.R_far (p := ⟨gb269, 1, none⟩) (Kd.R_far (p := ⟨gb269, 0, none⟩) (Kd.R_far (p := ⟨gb296, 1, none⟩) (Kd.R_far (p := ⟨gb296, 0, none⟩) (Kd.R_types (Kd.R_types HO289.out BK296.out (by decide)) BK269.out (by decide)) (fun _ hk => hk.1.2) (.int .i64 t294)) (fun _ hk => hk.1.2) (.int .i64 t295)) (fun _ hk => hk.2) (.bool t286)) (fun _ hk => hk.2) (.slice Ao42 t287.length co42)) (fun _ hk => trivial), by repeat (first | (with_reducible first | exact HI0.out | apply IsS81.alloc | apply IsS81.drewN | apply IsS81.drew | apply IsS81.set_0 | apply IsS81.set_1 | refine IsS81.far ?_ NB0_268.out _ | refine IsS81.far ?_ NB0_269.out _ | refine IsS81.far ?_ NB0_292.out _ | refine IsS81.far ?_ NB0_296.out _) | exact HI0.out), by repeat (first | (with_reducible first | exact HB.out | apply below_alloc | apply pw_below_drewN | apply below_drew1 | refine below_set ?_ (IsS81.ge HI0.out) | refine below_setA ?_ (by assumption)) | exact HB.out), by repeat (first | (with_reducible first | exact HK.out | apply KeepBut.set_ | apply keep_drewN | apply keep_drew | apply keep_alloc | refine keep_far ?_ GW268.out _ | refine keep_far ?_ GW269.out _ | refine keep_far ?_ GW292.out _ | refine keep_far ?_ GW296.out _) | exact HK.out)⟩
   ·rw [if_neg c35] at H
    have c35b0 : decide (t293 < 0) = false := decide_eq_false c35
    clear c35
    have H' := zM H
    clear H
    go_wp2_with (first | ((with_reducible refine gate_callee (f := 61) rfl ?_); refine goesL_ (some 25) rfl rfl Try.func61 (by kernel_rfl) rfl #[.pointer (some ⟨g, 0, none⟩), .int .i64 t282] rfl (by (try simp only [zT, zC, zN]); first | done | rfl | (simp only [zR, zL]; rfl)) ?_; (with_reducible refine (random_source_bits.calls k1 g x1000_1 x1001_1 t282 t286 t287 t290 t291 w0 _ ?side1 ?side2 A33.out).mono ?_); (case side1 => repeat (first | (with_reducible first | exact HI0.out | apply IsS81.alloc | apply IsS81.drewN | apply IsS81.drew | apply IsS81.set_0 | apply IsS81.set_1 | refine IsS81.far ?_ NB0_268.out _ | refine IsS81.far ?_ NB0_269.out _) | exact HI0.out)); (case side2 => repeat (first | (with_reducible first | exact HB.out | apply below_alloc | apply pw_below_drewN | apply below_drew1 | refine below_set ?_ (IsS81.ge HI0.out) | refine below_setA ?_ (by assumption)) | exact HB.out)); rintro e w56 ⟨v288, rfl, ho0, hi, hb, hk⟩; refine ⟨_, rfl, ?_⟩; have HO289 := zM (Kd.R_lower ho0 (keep_size (w := w) (g := g) (row := none) (by repeat (first | (with_reducible first | exact HK.out | apply KeepBut.set_ | apply keep_drewN | apply keep_drew | apply keep_alloc | refine keep_far ?_ GW268.out _ | refine keep_far ?_ GW269.out _) | exact HK.out)))); replace BK268 := zM (KeepBut.blk hk (g' := gb268) (o := .cells #[.bool a1_0, .slice A1_1 l1_1.length c1_1] 24 (0, 0)) BK268.out NB268_0.out (by simp)); replace BK269 := zM (KeepBut.blk hk (g' := gb269) (o := .cells #[.bool x270000_1, .slice none 0 0] 24 (0, 0)) BK269.out NB269_0.out (by simp)); replace HK := zM (KeepBut.trans (by repeat (first | (with_reducible first | exact HK.out | apply KeepBut.set_ | apply keep_drewN | apply keep_drew | apply keep_alloc | refine keep_far ?_ GW268.out _ | refine keep_far ?_ GW269.out _) | exact HK.out)) hk (.inl rfl)); replace HB := zM (hb); replace HI0 := zM (hi); (try clear hb); (try clear hb2); (try clear hk); (try clear hi); (try clear ho0)) | ((with_reducible refine gate_dst (N := 9) rfl ?_); refine box_event ?hg (N := 9) ?hd (cs := #[.bool false, .slice none 0 0]) (t := 24) ?hr ?_; (case hd => rfl); (case hg => rfl); (case hr => first | (go_simp; done) | (go_simp; rfl)); intro gb292 hg w57 hbox hb; have BK292 := zM (hbox); have GW292 := zM ((by rw [hg]; exact (keep_size (w := w) (g := g) (row := none) (by repeat (first | (with_reducible first | exact HK.out | apply KeepBut.set_ | apply keep_drewN | apply keep_drew | apply keep_alloc | refine keep_far ?_ GW268.out _ | refine keep_far ?_ GW269.out _) | exact HK.out))) : w.heap.size ≤ gb292)); have GE292 := zM ((Nat.le_trans HW0.out (by rw [hg]; exact (keep_size (w := w) (g := g) (row := none) (by repeat (first | (with_reducible first | exact HK.out | apply KeepBut.set_ | apply keep_drewN | apply keep_drew | apply keep_alloc | refine keep_far ?_ GW268.out _ | refine keep_far ?_ GW269.out _) | exact HK.out))) : w.heap.size ≤ gb292) : w0.heap.size ≤ gb292)); have NB268_292 := pzf BK268 hg; have NB292_268 := pzg BK268 hg; have NB269_292 := pzf BK269 hg; have NB292_269 := pzg BK269 hg; have NB0_292 := zM ((by rw [hg]; exact Nat.ne_of_lt (IsS81.lt (show IsS81 w0 _ g t290 t291 from by repeat (first | (with_reducible first | exact HI0.out | apply IsS81.alloc | apply IsS81.drewN | apply IsS81.drew | apply IsS81.set_0 | apply IsS81.set_1 | refine IsS81.far ?_ NB0_268.out _ | refine IsS81.far ?_ NB0_269.out _) | exact HI0.out))) : g ≠ gb292)); replace HO289 := zM (Kd.R_below HO289.out hb); replace BK268 := pzb BK268 hb; replace BK269 := pzb BK269 hb; replace HK := zM (KeepBut.trans (by repeat (first | (with_reducible first | exact HK.out | apply KeepBut.set_ | apply keep_drewN | apply keep_drew | apply keep_alloc | refine keep_far ?_ GW268.out _ | refine keep_far ?_ GW269.out _) | exact HK.out)) (KeepBut.of_below hb g none) (.inl rfl)); replace HB := zM (below_step (by repeat (first | (with_reducible first | exact HB.out | apply below_alloc | apply pw_below_drewN | apply below_drew1 | refine below_set ?_ (IsS81.ge HI0.out) | refine below_setA ?_ (by assumption)) | exact HB.out)) hb); replace HI0 := zM (IsS81.below (by repeat (first | (with_reducible first | exact HI0.out | apply IsS81.alloc | apply IsS81.drewN | apply IsS81.drew | apply IsS81.set_0 | apply IsS81.set_1 | refine IsS81.far ?_ NB0_268.out _ | refine IsS81.far ?_ NB0_269.out _) | exact HI0.out)) hb); clear hb hbox hg; have hnb58 := NB292_268.out; have hnc58 := NB268_292.out; have hnb59 := NB292_269.out; have hnc59 := NB269_292.out; have hcz61_0 := pzc (v := .bool false) BK292 0 rfl; have hcz61_1 := pzc (v := .slice none 0 0) BK292 1 rfl; have hfz61_0 := zF BK292.out 0; have hfz61_1 := zF BK292.out 1; obtain ⟨Ao62, co62, eo62⟩ := Kd.R_slice HO289.out; subst eo62; have hnb63 := NB268_269.out; have hnc63 := NB269_268.out; have hcz65_0 := pzc (v := .bool a1_0) BK268 0 rfl; have hcz65_1 := pzc (v := .slice A1_1 l1_1.length c1_1) BK268 1 rfl; have hfz65_0 := zF BK268.out 0; have hfz65_1 := zF BK268.out 1) | ((with_reducible refine gate_callee (f := 44) rfl ?_); refine goesL_ (some 29) rfl rfl Try.func44 (by kernel_rfl) rfl #[.agg #[.bool t286, .slice Ao62 t287.length co62], .agg #[.bool a1_0, .slice A1_1 l1_1.length c1_1]] rfl (by (try simp only [zT, zC, zN]); first | done | rfl | (simp only [zR, zL]; rfl)) ?_; (with_reducible refine (integer_Cmp.calls k1 t286 _ _ t287 a1_0 _ _ l1_1 t293 t294 t295 _ ?side1 ?side2 ?side3 ?side4 A34.out).mono ?_); (case side1 => refine (Kd.R_reads' (e := 76) (base := w.heap.size) (ok := fun k_ => True) (n := t287.length) (c := co62) ?_).2.2; exact (by (with_reducible repeat (first | apply Kd.R_alloc | apply Kd.R_drewN | apply Kd.R_drew)); exact (Kd.R_mono (Kd.R_far (p := ⟨gb292, 1, none⟩) (Kd.R_far (p := ⟨gb292, 0, none⟩) (Kd.R_types HO289.out BK292.out (by decide)) (fun _ hk => hk.2) (.bool t286)) (fun _ hk => hk.2) (.slice Ao62 t287.length co62)) (fun _ h_ => h_.1)))); (case side2 => exact (Kd.R_reads' HO289.out).2.1); (case side3 => exact Kd.C_keep 0 HR1_1.out (by repeat (first | (with_reducible first | exact HK.out | apply KeepBut.set_ | apply keep_drewN | apply keep_drew | apply keep_alloc | refine keep_far ?_ GW268.out _ | refine keep_far ?_ GW269.out _ | refine keep_far ?_ GW292.out _) | exact HK.out)) hf1_1); (case side4 => exact HC1_1.out); rintro e w66 ⟨rfl, hb⟩; refine ⟨_, rfl, ?_⟩; replace HO289 := zM (Kd.R_below (by (with_reducible repeat (first | apply Kd.R_alloc | apply Kd.R_drewN | apply Kd.R_drew)); exact (Kd.R_mono (Kd.R_far (p := ⟨gb292, 1, none⟩) (Kd.R_far (p := ⟨gb292, 0, none⟩) (Kd.R_types HO289.out BK292.out (by decide)) (fun _ hk => hk.2) (.bool t286)) (fun _ hk => hk.2) (.slice Ao62 t287.length co62)) (fun _ h_ => h_.1))) hb); replace BK268 := zM (blk_below (g := gb268) (o := .cells #[.bool a1_0, .slice A1_1 l1_1.length c1_1] 24 (0, 0)) (by (with_reducible repeat (first | apply pzN | apply pzd | apply pza)); refine blk_far ?_ NB268_292.out _; (with_reducible repeat (first | apply pzN | apply pzd | apply pza)); refine blk_far ?_ NB268_292.out _; (with_reducible repeat (first | apply pzN | apply pzd | apply pza)); exact BK268.out) hb); replace BK269 := zM (blk_below (g := gb269) (o := .cells #[.bool x270000_1, .slice none 0 0] 24 (0, 0)) (by (with_reducible repeat (first | apply pzN | apply pzd | apply pza)); refine blk_far ?_ NB269_292.out _; (with_reducible repeat (first | apply pzN | apply pzd | apply pza)); refine blk_far ?_ NB269_292.out _; (with_reducible repeat (first | apply pzN | apply pzd | apply pza)); exact BK269.out) hb); replace HK := zM (KeepBut.trans (by repeat (first | (with_reducible first | exact HK.out | apply KeepBut.set_ | apply keep_drewN | apply keep_drew | apply keep_alloc | refine keep_far ?_ GW268.out _ | refine keep_far ?_ GW269.out _ | refine keep_far ?_ GW292.out _) | exact HK.out)) (KeepBut.of_below hb g none) (.inl rfl)); replace HB := zM (below_step (by repeat (first | (with_reducible first | exact HB.out | apply below_alloc | apply pw_below_drewN | apply below_drew1 | refine below_set ?_ (IsS81.ge HI0.out) | refine below_setA ?_ (by assumption)) | exact HB.out)) hb); replace HI0 := zM (IsS81.below (show IsS81 w0 ((w57.setCell ⟨gb292, 0, none⟩ (.bool t286)).setCell ⟨gb292, 1, none⟩ (.slice Ao62 t287.length co62)) g t290 t291 from by repeat (first | (with_reducible first | exact HI0.out | apply IsS81.alloc | apply IsS81.drewN | apply IsS81.drew | apply IsS81.set_0 | apply IsS81.set_1 | refine IsS81.far ?_ NB0_268.out _ | refine IsS81.far ?_ NB0_269.out _ | refine IsS81.far ?_ NB0_292.out _) | exact HI0.out)) hb); (try clear hb); (try clear hb2); (try clear hk); (try clear hi)) | ((with_reducible refine gate_dst (N := 11) rfl ?_); refine box_event ?hg (N := 11) ?hd (cs := #[.int .i64 0, .int .i64 0]) (t := 29) ?hr ?_; (case hd => rfl); (case hg => rfl); (case hr => first | (go_simp; done) | (go_simp; rfl)); intro gb296 hg w67 hbox hb; have BK296 := zM (hbox); have GW296 := zM ((by rw [hg]; exact (keep_size (w := w) (g := g) (row := none) (by repeat (first | (with_reducible first | exact HK.out | apply KeepBut.set_ | apply keep_drewN | apply keep_drew | apply keep_alloc | refine keep_far ?_ GW268.out _ | refine keep_far ?_ GW269.out _ | refine keep_far ?_ GW292.out _) | exact HK.out))) : w.heap.size ≤ gb296)); have GE296 := zM ((Nat.le_trans HW0.out (by rw [hg]; exact (keep_size (w := w) (g := g) (row := none) (by repeat (first | (with_reducible first | exact HK.out | apply KeepBut.set_ | apply keep_drewN | apply keep_drew | apply keep_alloc | refine keep_far ?_ GW268.out _ | refine keep_far ?_ GW269.out _ | refine keep_far ?_ GW292.out _) | exact HK.out))) : w.heap.size ≤ gb296) : w0.heap.size ≤ gb296)); have NB268_296 := pzf BK268 hg; have NB296_268 := pzg BK268 hg; have NB269_296 := pzf BK269 hg; have NB296_269 := pzg BK269 hg; have NB0_296 := zM ((by rw [hg]; exact Nat.ne_of_lt (IsS81.lt (show IsS81 w0 _ g t290 t291 from by repeat (first | (with_reducible first | exact HI0.out | apply IsS81.alloc | apply IsS81.drewN | apply IsS81.drew | apply IsS81.set_0 | apply IsS81.set_1 | refine IsS81.far ?_ NB0_268.out _ | refine IsS81.far ?_ NB0_269.out _ | refine IsS81.far ?_ NB0_292.out _) | exact HI0.out))) : g ≠ gb296)); replace HO289 := zM (Kd.R_below HO289.out hb); replace BK268 := pzb BK268 hb; replace BK269 := pzb BK269 hb; replace HK := zM (KeepBut.trans (by repeat (first | (with_reducible first | exact HK.out | apply KeepBut.set_ | apply keep_drewN | apply keep_drew | apply keep_alloc | refine keep_far ?_ GW268.out _ | refine keep_far ?_ GW269.out _ | refine keep_far ?_ GW292.out _) | exact HK.out)) (KeepBut.of_below hb g none) (.inl rfl)); replace HB := zM (below_step (by repeat (first | (with_reducible first | exact HB.out | apply below_alloc | apply pw_below_drewN | apply below_drew1 | refine below_set ?_ (IsS81.ge HI0.out) | refine below_setA ?_ (by assumption)) | exact HB.out)) hb); replace HI0 := zM (IsS81.below (by repeat (first | (with_reducible first | exact HI0.out | apply IsS81.alloc | apply IsS81.drewN | apply IsS81.drew | apply IsS81.set_0 | apply IsS81.set_1 | refine IsS81.far ?_ NB0_268.out _ | refine IsS81.far ?_ NB0_269.out _ | refine IsS81.far ?_ NB0_292.out _) | exact HI0.out)) hb); clear hb hbox hg; have hnb68 := NB296_268.out; have hnc68 := NB268_296.out; have hnb69 := NB296_269.out; have hnc69 := NB269_296.out; have hcz72_0 := pzc (v := .int .i64 0) BK296 0 rfl; have hcz72_1 := pzc (v := .int .i64 0) BK296 1 rfl; have hfz72_0 := zF BK296.out 0; have hfz72_1 := zF BK296.out 1))
    go_roundg k1
    case measure => have := HK1.out; omega
    case rel => exact ⟨(t290), (t291), (x270000_1), H', ⟨by have := HK1.out; omega⟩, ⟨by (with_reducible repeat (first | apply pzN | apply pzd | apply pza)); refine blk_far ?_ NB268_296.out _; (with_reducible repeat (first | apply pzN | apply pzd | apply pza)); refine blk_far ?_ NB268_296.out _; (with_reducible repeat (first | apply pzN | apply pzd | apply pza)); exact BK268.out⟩, ⟨by (with_reducible repeat (first | apply pzN | apply pzd | apply pza)); refine blk_far ?_ NB269_296.out _; (with_reducible repeat (first | apply pzN | apply pzd | apply pza)); refine blk_far ?_ NB269_296.out _; (with_reducible repeat (first | apply pzN | apply pzd | apply pza)); exact BK269.out⟩, ⟨by repeat (first | (with_reducible first | exact HI0.out | apply IsS81.alloc | apply IsS81.drewN | apply IsS81.drew | apply IsS81.set_0 | apply IsS81.set_1 | refine IsS81.far ?_ NB0_268.out _ | refine IsS81.far ?_ NB0_269.out _ | refine IsS81.far ?_ NB0_292.out _ | refine IsS81.far ?_ NB0_296.out _) | exact HI0.out)⟩, ⟨by repeat (first | (with_reducible first | exact HK.out | apply KeepBut.set_ | apply keep_drewN | apply keep_drew | apply keep_alloc | refine keep_far ?_ GW268.out _ | refine keep_far ?_ GW269.out _ | refine keep_far ?_ GW292.out _ | refine keep_far ?_ GW296.out _) | exact HK.out)⟩, ⟨by repeat (first | (with_reducible first | exact HB.out | apply below_alloc | apply pw_below_drewN | apply below_drew1 | refine below_set ?_ (IsS81.ge HI0.out) | refine below_setA ?_ (by assumption)) | exact HB.out)⟩⟩

end Go.Proofs.Ytkhiohlfdkkhdaa.P
