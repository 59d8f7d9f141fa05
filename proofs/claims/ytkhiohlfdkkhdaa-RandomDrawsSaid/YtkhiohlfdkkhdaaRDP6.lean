-- Written by the session's own program wip/tools/mp.py (over the kit's print) out of the translation. Not trusted: Lean checks it.
import Derived.Test.YtkhiohlfdkkhdaaRDP0
import Derived.Test.YtkhiohlfdkkhdaaRDP3
import Derived.Test.YtkhiohlfdkkhdaaRDP4
import Derived.Test.YtkhiohlfdkkhdaaRDP5
namespace Go.Proofs.Ytkhiohlfdkkhdaa.P
open Go.RowKit Go.Proofs.YtkhiohlfdkkhdaaW.PrintWords Go.Proofs.YtkhiohlfdkkhdaaW.PrintLast Go.Proofs.YtkhiohlfdkkhdaaW.PrintMore
attribute [local go_sem] max2_int min2_int max_two min_two max_three min_three max_four min_four   -- for this text's walks alone
set_option linter.unusedVariables false
set_option linter.unusedSimpArgs false

/-! ### random_source_below: function 43 -/
def random_source_below.l0 : Nat → Int → Int → Int → Bool → List Int → Option (Bool × List Int × Int × Int)
 | 0, _, _, _, _, _ => none
 | k + 1, x7, x1000, x1001, x277000, x277001 => (random_source_bits.f k x1000 x1001 x7).bind fun bt294 => ((integer_Cmp.f k bt294.1 bt294.2.1 x277000 x277001).bind fun bt301 => (if bt301.1 < 0 then (some (bt294.1, bt294.2.1, bt294.2.2.1, bt294.2.2.2)) else (random_source_below.l0 k x7 bt294.2.2.1 bt294.2.2.2 x277000 x277001)))
def random_source_below.f (k : Nat) (s0_0 : Int) (s0_1 : Int) (a1_0 : Bool) (l1_1 : List Int) : Option (Bool × List Int × Int × Int) := (integer_Of.f k 1).bind fun bt278 => ((integer_Sub.f k a1_0 l1_1 bt278.1 bt278.2).bind fun bt282 => ((integer_Bits.f k bt282.1 bt282.2.1).bind fun bt290 => (random_source_below.l0 k bt290.1 s0_0 s0_1 a1_0 l1_1)))
theorem random_source_below.mono_l : ∀ k, (∀ y0 y1 y2 y3 y4, LeO (random_source_below.l0 k y0 y1 y2 y3 y4) (random_source_below.l0 (k + 1) y0 y1 y2 y3 y4))
 | 0 => fun _ _ _ _ _ r h => by simp [random_source_below.l0] at h
 | k + 1 => by
  have ih0 := random_source_below.mono_l k
  ·intro y0 y1 y2 y3 y4
   unfold random_source_below.l0
   repeat' first
   | (with_reducible exact ih0 _ _ _ _ _)
   | (with_reducible exact integer_Bits.mono _ _ _)
   | (with_reducible exact integer_Cmp.mono _ _ _ _ _)
   | (with_reducible exact integer_Of.mono _ _)
   | (with_reducible exact integer_Sub.mono _ _ _ _ _)
   | (with_reducible exact random_source_bits.mono _ _ _ _)
   | (with_reducible exact LeO.refl _)
   | (with_reducible exact LeO.none _)
   | (with_reducible refine LeO.ite ?_ ?_)
   | (with_reducible refine LeO.bind ?_ (fun _ => ?_))
   | exact ih0 _ _ _ _ _
   | exact integer_Bits.mono _ _ _
   | exact integer_Cmp.mono _ _ _ _ _
   | exact integer_Of.mono _ _
   | exact integer_Sub.mono _ _ _ _ _
   | exact random_source_bits.mono _ _ _ _
   | exact LeO.none _
   | refine LeO.ite ?_ ?_
   | refine LeO.bind ?_ (fun _ => ?_)
theorem random_source_below.mono : ∀ a0 a1 a2 a3 k, LeO (random_source_below.f k a0 a1 a2 a3) (random_source_below.f (k + 1) a0 a1 a2 a3) := by
 intro a0 a1 a2 a3 k
 have ih0 := random_source_below.mono_l k
 unfold random_source_below.f
 repeat' first
   | (with_reducible exact ih0 _ _ _ _ _)
   | (with_reducible exact integer_Bits.mono _ _ _)
   | (with_reducible exact integer_Cmp.mono _ _ _ _ _)
   | (with_reducible exact integer_Of.mono _ _)
   | (with_reducible exact integer_Sub.mono _ _ _ _ _)
   | (with_reducible exact random_source_bits.mono _ _ _ _)
   | (with_reducible exact LeO.refl _)
   | (with_reducible exact LeO.none _)
   | (with_reducible refine LeO.ite ?_ ?_)
   | (with_reducible refine LeO.bind ?_ (fun _ => ?_))
   | exact ih0 _ _ _ _ _
   | exact integer_Bits.mono _ _ _
   | exact integer_Cmp.mono _ _ _ _ _
   | exact integer_Of.mono _ _
   | exact integer_Sub.mono _ _ _ _ _
   | exact random_source_bits.mono _ _ _ _
   | exact LeO.none _
   | refine LeO.ite ?_ ?_
   | refine LeO.bind ?_ (fun _ => ?_)
def random_source_below.T1 : Bool × List (List Nat × List Nat) := (true, [([], []), ([], []), ([0, 1, 1], [0, 1]), ([2], [2]), ([3], [3]), ([3], [3]), ([], []), ([], []), ([6, 4, 2, 0, 1, 2, 3, 4, 6, 7], [4, 6]), ([7, 5, 8, 0, 1, 2, 3, 4, 5, 6, 7, 8], [5, 7])])
def random_source_below.B1 : List Nat := [0, 0, 3, 7, 15, 15, 0, 0, 223, 511]
theorem random_source_below.tab1 : rtab .any (opsOf Try.f43 1) = random_source_below.T1 := by kernel_rfl
theorem random_source_below.bits1 : waitsOk random_source_below.T1.2 random_source_below.B1 = true := by kernel_rfl
set_option maxHeartbeats 60000000 in
set_option maxRecDepth 100000 in
theorem random_source_below.calls (k : Nat) (g : Nat) (s0_0 : Int) (s0_1 : Int) (a1_0 : Bool) (A1_1 : Option Addr) (c1_1 : Nat) (l1_1 : List Int) (r1 : Bool) (r2 : List Int) (r3 : Int) (r4 : Int) (w0 w : World) (hI : IsS81 w0 w g s0_0 s0_1) (hB : Below w0.heap.size w0 w) (hr1_1 : Kd.C (Kd.int .u32) w A1_1 l1_1.length l1_1) (hc1_1 : l1_1.length ≤ c1_1) (hf1_1 : ∀ ad, A1_1 = some ad → 0 < l1_1.length → ad.block ≠ g) (h : random_source_below.f k s0_0 s0_1 a1_0 l1_1 = some (r1, r2, r3, r4)) :
  Calls Try.prog 43 #[.pointer (some ⟨g, 0, none⟩), .agg #[.bool a1_0, .slice A1_1 l1_1.length c1_1]] w fun e w' => ∃ v1_ : Value, e = .returned (.agg #[.bool r1, v1_]) ∧ Kd.R (Kd.int .u32) 76 w' w.heap.size (fun _ => True) v1_ r2 ∧ IsS81 w0 w' g r3 r4 ∧ Below w0.heap.size w0 w' ∧ KeepBut w w' g none := by
 have hu24 := Try.underlying24
 have hu29 := Try.underlying29
 have HR1_1 := zM hr1_1
 have HC1_1 := zM hc1_1
 clear hr1_1 hc1_1
 have HI0 := zM hI
 have HK := zM (KeepBut.refl w g none)
 have HL := zM hB.size
 clear hI
 have HW0 := zM hB.size
 have HB := zM hB
 clear hB
 have H : ((integer_Of.f k 1).bind fun bt278 => ((integer_Sub.f k a1_0 l1_1 bt278.1 bt278.2).bind fun bt282 => ((integer_Bits.f k bt282.1 bt282.2.1).bind fun bt290 => (random_source_below.l0 k bt290.1 s0_0 s0_1 a1_0 l1_1)))) = some (r1, r2, r3, r4) := h
 clear h
 replace H := zB H
 obtain ⟨⟨t278, t279⟩, A30, H⟩ := H
 replace H : ((integer_Sub.f k a1_0 l1_1 t278 t279).bind fun bt282 => ((integer_Bits.f k bt282.1 bt282.2.1).bind fun bt290 => (random_source_below.l0 k bt290.1 s0_0 s0_1 a1_0 l1_1))) = some (r1, r2, r3, r4) := H
 have A3 := zM A30
 clear A30
 replace H := zB H
 obtain ⟨⟨t282, t283, t286, t287⟩, A40, H⟩ := H
 replace H : ((integer_Bits.f k t282 t283).bind fun bt290 => (random_source_below.l0 k bt290.1 s0_0 s0_1 a1_0 l1_1)) = some (r1, r2, r3, r4) := H
 have A4 := zM A40
 clear A40
 replace H := zB H
 obtain ⟨⟨t290, t291, t292⟩, A50, H⟩ := H
 replace H : (random_source_below.l0 k t290 s0_0 s0_1 a1_0 l1_1) = some (r1, r2, r3, r4) := H
 have A5 := zM A50
 clear A50
 have H' := zM H
 clear H
 go_enter Try.func43, Try.ntmps43
 try go_wp2_with (first | ((with_reducible refine gate_dst (N := 3) rfl ?_); refine box_event ?hg (N := 3) ?hd (cs := #[.bool a1_0, .slice A1_1 l1_1.length c1_1]) (t := 24) ?hr ?_; (case hd => rfl); (case hg => rfl); (case hr => first | (go_simp; done) | (go_simp; rfl)); intro gb276 hg w6 hbox hb; have BK276 := zM (hbox); have GW276 := zM ((by rw [hg]; exact (keep_size (w := w) (g := g) (row := none) (HK.out)) : w.heap.size ≤ gb276)); have GE276 := zM ((Nat.le_trans HW0.out (by rw [hg]; exact (keep_size (w := w) (g := g) (row := none) (HK.out)) : w.heap.size ≤ gb276) : w0.heap.size ≤ gb276)); have NB0_276 := zM ((by rw [hg]; exact Nat.ne_of_lt (IsS81.lt (show IsS81 w0 _ g s0_0 s0_1 from HI0.out)) : g ≠ gb276)); have NB276_0 := zM ((by rw [hg]; exact Nat.ne_of_gt (IsS81.lt (show IsS81 w0 _ g s0_0 s0_1 from HI0.out)) : gb276 ≠ g)); replace HK := zM (KeepBut.trans (HK.out) (KeepBut.of_below hb g none) (.inl rfl)); replace HB := zM (below_step (by repeat (first | (with_reducible first | exact HB.out | apply below_alloc | apply pw_below_drewN | apply below_drew1 | refine below_set ?_ (IsS81.ge HI0.out)) | exact HB.out)) hb); replace HI0 := zM (IsS81.below (HI0.out) hb); clear hb hbox hg) | ((with_reducible refine gate_dst (N := 4) rfl ?_); refine box_event ?hg (N := 4) ?hd (cs := #[.bool false, .slice none 0 0]) (t := 24) ?hr ?_; (case hd => rfl); (case hg => rfl); (case hr => first | (go_simp; done) | (go_simp; rfl)); intro gb277 hg w7 hbox hb; have BK277 := zM (hbox); have GW277 := zM ((by rw [hg]; exact (keep_size (w := w) (g := g) (row := none) (by repeat (first | (with_reducible first | exact HK.out | apply KeepBut.set_ | apply keep_drewN | apply keep_drew | apply keep_alloc | refine keep_far ?_ GW276.out _) | exact HK.out))) : w.heap.size ≤ gb277)); have GE277 := zM ((Nat.le_trans HW0.out (by rw [hg]; exact (keep_size (w := w) (g := g) (row := none) (by repeat (first | (with_reducible first | exact HK.out | apply KeepBut.set_ | apply keep_drewN | apply keep_drew | apply keep_alloc | refine keep_far ?_ GW276.out _) | exact HK.out))) : w.heap.size ≤ gb277) : w0.heap.size ≤ gb277)); have NB276_277 := pzf BK276 hg; have NB277_276 := pzg BK276 hg; have NB0_277 := zM ((by rw [hg]; exact Nat.ne_of_lt (IsS81.lt (show IsS81 w0 _ g s0_0 s0_1 from by repeat (first | (with_reducible first | exact HI0.out | apply IsS81.alloc | apply IsS81.drewN | apply IsS81.drew | apply IsS81.set_0 | apply IsS81.set_1 | refine IsS81.far ?_ NB0_276.out _) | exact HI0.out))) : g ≠ gb277)); have NB277_0 := zM ((by rw [hg]; exact Nat.ne_of_gt (IsS81.lt (show IsS81 w0 _ g s0_0 s0_1 from by repeat (first | (with_reducible first | exact HI0.out | apply IsS81.alloc | apply IsS81.drewN | apply IsS81.drew | apply IsS81.set_0 | apply IsS81.set_1 | refine IsS81.far ?_ NB0_276.out _) | exact HI0.out))) : gb277 ≠ g)); replace BK276 := pzb BK276 hb; replace HK := zM (KeepBut.trans (by repeat (first | (with_reducible first | exact HK.out | apply KeepBut.set_ | apply keep_drewN | apply keep_drew | apply keep_alloc | refine keep_far ?_ GW276.out _) | exact HK.out)) (KeepBut.of_below hb g none) (.inl rfl)); replace HB := zM (below_step (by repeat (first | (with_reducible first | exact HB.out | apply below_alloc | apply pw_below_drewN | apply below_drew1 | refine below_set ?_ (IsS81.ge HI0.out) | refine below_setA ?_ (by assumption)) | exact HB.out)) hb); replace HI0 := zM (IsS81.below (by repeat (first | (with_reducible first | exact HI0.out | apply IsS81.alloc | apply IsS81.drewN | apply IsS81.drew | apply IsS81.set_0 | apply IsS81.set_1 | refine IsS81.far ?_ NB0_276.out _) | exact HI0.out)) hb); clear hb hbox hg))
 replace BK276 := zM (blk_drew BK276.out)
 replace BK277 := zM (blk_drew BK277.out)
 replace HI0 := zM (IsS81.drew HI0.out)
 replace HK := zM (keep_drew HK.out)
 replace HB := zM (below_drew1 HB.out)
 refine start_ (n := 10) (S := fun w' => w'.cell? ⟨gb276, 0, none⟩ = some (.bool a1_0) ∧ w'.cell? ⟨gb276, 1, none⟩ = some (.slice A1_1 l1_1.length c1_1)) (ds := []) #[false, false, false, false, false, false, false, false, false, false] (by kernel_rfl) rfl rfl ⟨(blk_cell BK276.out 0).trans rfl, (blk_cell BK276.out 1).trans rfl⟩ (fun hHeld => ?_); refine with_tabW random_source_below.tab1 random_source_below.bits1 (fun HT_ HW_ => ?_)
 generalize w7.drew = w8 at BK276 BK277 HI0 HK HB hHeld ⊢
 refine take_ (i := 0) (N := some 13) (v := ?_) (a' := ?_) #[true, false, false, false, false, false, false, false, false, false] rfl rfl (take_ofW HT_.out HW_.out (by kernel_rfl)) (fun _ _ _ h => h) (Or.inl ⟨by rfl, ?_⟩) hHeld ?_ ?_
 rotate_left
 ·rintro w' ⟨s0, s1⟩
  go_simp
  with_reducible rfl
 rotate_left
 ·simp only [Act.put, zS, z0, z1, i64_w, i32_w]
  rfl
 refine join_ (σ := Value × Value × Nat × Nat) 2 #[true, true, true, true, true, true, true, true, false, false] (fun s_ => [(14, .agg #[.bool t278, s_.1]), (15, .tuple #[.agg #[.bool t282, s_.2.1], .agg #[.int .i64 t286, .int .i64 t287]]), (5, .pointer (some ⟨s_.2.2.1, 0, none⟩)), (6, .pointer (some ⟨s_.2.2.2, 0, none⟩)), (12, .tuple #[.agg #[.bool t282, s_.2.1], .agg #[.int .i64 t286, .int .i64 t287]]), (16, .agg #[.bool t282, s_.2.1]), (17, .agg #[.int .i64 t286, .int .i64 t287])]) (fun s_ w' => (w'.cell? ⟨gb276, 0, none⟩ = some (.bool a1_0) ∧ w'.cell? ⟨gb276, 1, none⟩ = some (.slice A1_1 l1_1.length c1_1)) ∧ (Kd.R (Kd.int .u32) 76 w' w.heap.size (fun _ => True) s_.1 t279) ∧ (Kd.V (Kd.int .u32) 76 w' w.heap.size (fun k_ => some k_ ≠ (s_.1 : Value).ownBlock ∧ k_ ≠ g ∧ k_ ≠ gb276 ∧ k_ ≠ gb277 ∧ k_ ≠ s_.2.2.1 ∧ k_ ≠ s_.2.2.2) s_.2.1 t283) ∧ (w'.heap[gb276]? = some (.cells #[.bool a1_0, .slice A1_1 l1_1.length c1_1] 24 (0, 0))) ∧ (w'.heap[gb277]? = some (.cells #[.bool false, .slice none 0 0] 24 (0, 0))) ∧ (w'.heap[s_.2.2.1]? = some (.cells #[.bool false, .slice none 0 0] 24 (0, 0))) ∧ (w'.heap[s_.2.2.2]? = some (.cells #[.int .i64 0, .int .i64 0] 29 (0, 0))) ∧ (w.heap.size ≤ s_.2.2.1) ∧ (w0.heap.size ≤ s_.2.2.1) ∧ (g ≠ s_.2.2.1) ∧ (s_.2.2.1 ≠ g) ∧ (gb276 ≠ s_.2.2.1) ∧ (s_.2.2.1 ≠ gb276) ∧ (gb277 ≠ s_.2.2.1) ∧ (s_.2.2.1 ≠ gb277) ∧ (s_.2.2.2 ≠ s_.2.2.1) ∧ (s_.2.2.1 ≠ s_.2.2.2) ∧ (w.heap.size ≤ s_.2.2.2) ∧ (w0.heap.size ≤ s_.2.2.2) ∧ (g ≠ s_.2.2.2) ∧ (s_.2.2.2 ≠ g) ∧ (gb276 ≠ s_.2.2.2) ∧ (s_.2.2.2 ≠ gb276) ∧ (gb277 ≠ s_.2.2.2) ∧ (s_.2.2.2 ≠ gb277) ∧ (IsS81 w0 w' g s0_0 s0_1) ∧ (KeepBut w w' g none) ∧ (Below w0.heap.size w0 w')) ?_ ?_
 rotate_left
 ·intro hJ1_2_6_7
  refine join_ (σ := Value × Value × Nat) 3 #[true, true, true, true, true, true, true, false, false, false] (fun s_ => [(14, .agg #[.bool t278, s_.1]), (15, .tuple #[.agg #[.bool t282, s_.2.1], .agg #[.int .i64 t286, .int .i64 t287]]), (5, .pointer (some ⟨s_.2.2, 0, none⟩)), (12, .tuple #[.agg #[.bool t282, s_.2.1], .agg #[.int .i64 t286, .int .i64 t287]]), (16, .agg #[.bool t282, s_.2.1]), (17, .agg #[.int .i64 t286, .int .i64 t287])]) (fun s_ w' => (w'.cell? ⟨gb276, 0, none⟩ = some (.bool a1_0) ∧ w'.cell? ⟨gb276, 1, none⟩ = some (.slice A1_1 l1_1.length c1_1)) ∧ (Kd.R (Kd.int .u32) 76 w' w.heap.size (fun _ => True) s_.1 t279) ∧ (Kd.V (Kd.int .u32) 76 w' w.heap.size (fun k_ => some k_ ≠ (s_.1 : Value).ownBlock ∧ k_ ≠ g ∧ k_ ≠ gb276 ∧ k_ ≠ gb277 ∧ k_ ≠ s_.2.2) s_.2.1 t283) ∧ (w'.heap[gb276]? = some (.cells #[.bool a1_0, .slice A1_1 l1_1.length c1_1] 24 (0, 0))) ∧ (w'.heap[gb277]? = some (.cells #[.bool false, .slice none 0 0] 24 (0, 0))) ∧ (w'.heap[s_.2.2]? = some (.cells #[.bool false, .slice none 0 0] 24 (0, 0))) ∧ (w.heap.size ≤ s_.2.2) ∧ (w0.heap.size ≤ s_.2.2) ∧ (g ≠ s_.2.2) ∧ (s_.2.2 ≠ g) ∧ (gb276 ≠ s_.2.2) ∧ (s_.2.2 ≠ gb276) ∧ (gb277 ≠ s_.2.2) ∧ (s_.2.2 ≠ gb277) ∧ (IsS81 w0 w' g s0_0 s0_1) ∧ (KeepBut w w' g none) ∧ (Below w0.heap.size w0 w')) ?_ ?_
  rotate_left
  ·intro hJ1_2_6
   refine join_ (σ := Value × Value × Nat) 3 #[true, true, true, true, true, true, false, true, false, false] (fun s_ => [(14, .agg #[.bool t278, s_.1]), (15, .tuple #[.agg #[.bool t282, s_.2.1], .agg #[.int .i64 t286, .int .i64 t287]]), (6, .pointer (some ⟨s_.2.2, 0, none⟩)), (12, .tuple #[.agg #[.bool t282, s_.2.1], .agg #[.int .i64 t286, .int .i64 t287]]), (16, .agg #[.bool t282, s_.2.1]), (17, .agg #[.int .i64 t286, .int .i64 t287])]) (fun s_ w' => (w'.cell? ⟨gb276, 0, none⟩ = some (.bool a1_0) ∧ w'.cell? ⟨gb276, 1, none⟩ = some (.slice A1_1 l1_1.length c1_1)) ∧ (Kd.R (Kd.int .u32) 76 w' w.heap.size (fun _ => True) s_.1 t279) ∧ (Kd.V (Kd.int .u32) 76 w' w.heap.size (fun k_ => some k_ ≠ (s_.1 : Value).ownBlock ∧ k_ ≠ g ∧ k_ ≠ gb276 ∧ k_ ≠ gb277 ∧ k_ ≠ s_.2.2) s_.2.1 t283) ∧ (w'.heap[gb276]? = some (.cells #[.bool a1_0, .slice A1_1 l1_1.length c1_1] 24 (0, 0))) ∧ (w'.heap[gb277]? = some (.cells #[.bool false, .slice none 0 0] 24 (0, 0))) ∧ (w'.heap[s_.2.2]? = some (.cells #[.int .i64 0, .int .i64 0] 29 (0, 0))) ∧ (w.heap.size ≤ s_.2.2) ∧ (w0.heap.size ≤ s_.2.2) ∧ (g ≠ s_.2.2) ∧ (s_.2.2 ≠ g) ∧ (gb276 ≠ s_.2.2) ∧ (s_.2.2 ≠ gb276) ∧ (gb277 ≠ s_.2.2) ∧ (s_.2.2 ≠ gb277) ∧ (IsS81 w0 w' g s0_0 s0_1) ∧ (KeepBut w w' g none) ∧ (Below w0.heap.size w0 w')) ?_ ?_
   rotate_left
   ·intro hJ1_2_7
    refine join_ (σ := Value × Nat × Nat) 6 #[true, true, false, false, false, false, true, true, false, false] (fun s_ => [(14, .agg #[.bool t278, s_.1]), (5, .pointer (some ⟨s_.2.1, 0, none⟩)), (6, .pointer (some ⟨s_.2.2, 0, none⟩))]) (fun s_ w' => (w'.cell? ⟨gb276, 0, none⟩ = some (.bool a1_0) ∧ w'.cell? ⟨gb276, 1, none⟩ = some (.slice A1_1 l1_1.length c1_1)) ∧ (Kd.R (Kd.int .u32) 76 w' w.heap.size (fun _ => True) s_.1 t279) ∧ (w'.heap[gb276]? = some (.cells #[.bool a1_0, .slice A1_1 l1_1.length c1_1] 24 (0, 0))) ∧ (w'.heap[gb277]? = some (.cells #[.bool false, .slice none 0 0] 24 (0, 0))) ∧ (w'.heap[s_.2.1]? = some (.cells #[.bool false, .slice none 0 0] 24 (0, 0))) ∧ (w'.heap[s_.2.2]? = some (.cells #[.int .i64 0, .int .i64 0] 29 (0, 0))) ∧ (w.heap.size ≤ s_.2.1) ∧ (w0.heap.size ≤ s_.2.1) ∧ (g ≠ s_.2.1) ∧ (s_.2.1 ≠ g) ∧ (gb276 ≠ s_.2.1) ∧ (s_.2.1 ≠ gb276) ∧ (gb277 ≠ s_.2.1) ∧ (s_.2.1 ≠ gb277) ∧ (s_.2.2 ≠ s_.2.1) ∧ (s_.2.1 ≠ s_.2.2) ∧ (w.heap.size ≤ s_.2.2) ∧ (w0.heap.size ≤ s_.2.2) ∧ (g ≠ s_.2.2) ∧ (s_.2.2 ≠ g) ∧ (gb276 ≠ s_.2.2) ∧ (s_.2.2 ≠ gb276) ∧ (gb277 ≠ s_.2.2) ∧ (s_.2.2 ≠ gb277) ∧ (IsS81 w0 w' g s0_0 s0_1) ∧ (KeepBut w w' g none) ∧ (Below w0.heap.size w0 w')) ?_ ?_
    rotate_left
    ·intro hJ1_6_7
     refine join_ (σ := Value × Value) 4 #[true, true, true, true, true, true, false, false, false, false] (fun s_ => [(14, .agg #[.bool t278, s_.1]), (15, .tuple #[.agg #[.bool t282, s_.2], .agg #[.int .i64 t286, .int .i64 t287]]), (12, .tuple #[.agg #[.bool t282, s_.2], .agg #[.int .i64 t286, .int .i64 t287]]), (16, .agg #[.bool t282, s_.2]), (17, .agg #[.int .i64 t286, .int .i64 t287])]) (fun s_ w' => (w'.cell? ⟨gb276, 0, none⟩ = some (.bool a1_0) ∧ w'.cell? ⟨gb276, 1, none⟩ = some (.slice A1_1 l1_1.length c1_1)) ∧ (Kd.R (Kd.int .u32) 76 w' w.heap.size (fun _ => True) s_.1 t279) ∧ (Kd.V (Kd.int .u32) 76 w' w.heap.size (fun k_ => some k_ ≠ (s_.1 : Value).ownBlock ∧ k_ ≠ g ∧ k_ ≠ gb276 ∧ k_ ≠ gb277) s_.2 t283) ∧ (w'.heap[gb276]? = some (.cells #[.bool a1_0, .slice A1_1 l1_1.length c1_1] 24 (0, 0))) ∧ (w'.heap[gb277]? = some (.cells #[.bool false, .slice none 0 0] 24 (0, 0))) ∧ (IsS81 w0 w' g s0_0 s0_1) ∧ (KeepBut w w' g none) ∧ (Below w0.heap.size w0 w')) ?_ ?_
     rotate_left
     ·intro hJ1_2
      refine join_ (σ := Value × Nat) 7 #[true, true, false, false, false, false, true, false, false, false] (fun s_ => [(14, .agg #[.bool t278, s_.1]), (5, .pointer (some ⟨s_.2, 0, none⟩))]) (fun s_ w' => (w'.cell? ⟨gb276, 0, none⟩ = some (.bool a1_0) ∧ w'.cell? ⟨gb276, 1, none⟩ = some (.slice A1_1 l1_1.length c1_1)) ∧ (Kd.R (Kd.int .u32) 76 w' w.heap.size (fun _ => True) s_.1 t279) ∧ (w'.heap[gb276]? = some (.cells #[.bool a1_0, .slice A1_1 l1_1.length c1_1] 24 (0, 0))) ∧ (w'.heap[gb277]? = some (.cells #[.bool false, .slice none 0 0] 24 (0, 0))) ∧ (w'.heap[s_.2]? = some (.cells #[.bool false, .slice none 0 0] 24 (0, 0))) ∧ (w.heap.size ≤ s_.2) ∧ (w0.heap.size ≤ s_.2) ∧ (g ≠ s_.2) ∧ (s_.2 ≠ g) ∧ (gb276 ≠ s_.2) ∧ (s_.2 ≠ gb276) ∧ (gb277 ≠ s_.2) ∧ (s_.2 ≠ gb277) ∧ (IsS81 w0 w' g s0_0 s0_1) ∧ (KeepBut w w' g none) ∧ (Below w0.heap.size w0 w')) ?_ ?_
      rotate_left
      ·intro hJ1_6
       refine join_ (σ := Value × Nat) 7 #[true, true, false, false, false, false, false, true, false, false] (fun s_ => [(14, .agg #[.bool t278, s_.1]), (6, .pointer (some ⟨s_.2, 0, none⟩))]) (fun s_ w' => (w'.cell? ⟨gb276, 0, none⟩ = some (.bool a1_0) ∧ w'.cell? ⟨gb276, 1, none⟩ = some (.slice A1_1 l1_1.length c1_1)) ∧ (Kd.R (Kd.int .u32) 76 w' w.heap.size (fun _ => True) s_.1 t279) ∧ (w'.heap[gb276]? = some (.cells #[.bool a1_0, .slice A1_1 l1_1.length c1_1] 24 (0, 0))) ∧ (w'.heap[gb277]? = some (.cells #[.bool false, .slice none 0 0] 24 (0, 0))) ∧ (w'.heap[s_.2]? = some (.cells #[.int .i64 0, .int .i64 0] 29 (0, 0))) ∧ (w.heap.size ≤ s_.2) ∧ (w0.heap.size ≤ s_.2) ∧ (g ≠ s_.2) ∧ (s_.2 ≠ g) ∧ (gb276 ≠ s_.2) ∧ (s_.2 ≠ gb276) ∧ (gb277 ≠ s_.2) ∧ (s_.2 ≠ gb277) ∧ (IsS81 w0 w' g s0_0 s0_1) ∧ (KeepBut w w' g none) ∧ (Below w0.heap.size w0 w')) ?_ ?_
       rotate_left
       ·intro hJ1_7
        refine join_ (σ := Nat × Nat) 7 #[true, false, false, false, false, false, true, true, false, false] (fun s_ => [(5, .pointer (some ⟨s_.1, 0, none⟩)), (6, .pointer (some ⟨s_.2, 0, none⟩))]) (fun s_ w' => (w'.cell? ⟨gb276, 0, none⟩ = some (.bool a1_0) ∧ w'.cell? ⟨gb276, 1, none⟩ = some (.slice A1_1 l1_1.length c1_1)) ∧ (w'.heap[gb276]? = some (.cells #[.bool a1_0, .slice A1_1 l1_1.length c1_1] 24 (0, 0))) ∧ (w'.heap[gb277]? = some (.cells #[.bool false, .slice none 0 0] 24 (0, 0))) ∧ (w'.heap[s_.1]? = some (.cells #[.bool false, .slice none 0 0] 24 (0, 0))) ∧ (w'.heap[s_.2]? = some (.cells #[.int .i64 0, .int .i64 0] 29 (0, 0))) ∧ (w.heap.size ≤ s_.1) ∧ (w0.heap.size ≤ s_.1) ∧ (g ≠ s_.1) ∧ (s_.1 ≠ g) ∧ (gb276 ≠ s_.1) ∧ (s_.1 ≠ gb276) ∧ (gb277 ≠ s_.1) ∧ (s_.1 ≠ gb277) ∧ (s_.2 ≠ s_.1) ∧ (s_.1 ≠ s_.2) ∧ (w.heap.size ≤ s_.2) ∧ (w0.heap.size ≤ s_.2) ∧ (g ≠ s_.2) ∧ (s_.2 ≠ g) ∧ (gb276 ≠ s_.2) ∧ (s_.2 ≠ gb276) ∧ (gb277 ≠ s_.2) ∧ (s_.2 ≠ gb277) ∧ (IsS81 w0 w' g s0_0 s0_1) ∧ (KeepBut w w' g none) ∧ (Below w0.heap.size w0 w')) ?_ ?_
        rotate_left
        ·intro hJ6_7
         refine join_ (σ := Value) 8 #[true, true, false, false, false, false, false, false, false, false] (fun s_ => [(14, .agg #[.bool t278, s_])]) (fun s_ w' => (w'.cell? ⟨gb276, 0, none⟩ = some (.bool a1_0) ∧ w'.cell? ⟨gb276, 1, none⟩ = some (.slice A1_1 l1_1.length c1_1)) ∧ (Kd.R (Kd.int .u32) 76 w' w.heap.size (fun _ => True) s_ t279) ∧ (w'.heap[gb276]? = some (.cells #[.bool a1_0, .slice A1_1 l1_1.length c1_1] 24 (0, 0))) ∧ (w'.heap[gb277]? = some (.cells #[.bool false, .slice none 0 0] 24 (0, 0))) ∧ (IsS81 w0 w' g s0_0 s0_1) ∧ (KeepBut w w' g none) ∧ (Below w0.heap.size w0 w')) ?_ ?_
         rotate_left
         ·intro hJ1
          refine join_ (σ := Nat) 8 #[true, false, false, false, false, false, true, false, false, false] (fun s_ => [(5, .pointer (some ⟨s_, 0, none⟩))]) (fun s_ w' => (w'.cell? ⟨gb276, 0, none⟩ = some (.bool a1_0) ∧ w'.cell? ⟨gb276, 1, none⟩ = some (.slice A1_1 l1_1.length c1_1)) ∧ (w'.heap[gb276]? = some (.cells #[.bool a1_0, .slice A1_1 l1_1.length c1_1] 24 (0, 0))) ∧ (w'.heap[gb277]? = some (.cells #[.bool false, .slice none 0 0] 24 (0, 0))) ∧ (w'.heap[s_]? = some (.cells #[.bool false, .slice none 0 0] 24 (0, 0))) ∧ (w.heap.size ≤ s_) ∧ (w0.heap.size ≤ s_) ∧ (g ≠ s_) ∧ (s_ ≠ g) ∧ (gb276 ≠ s_) ∧ (s_ ≠ gb276) ∧ (gb277 ≠ s_) ∧ (s_ ≠ gb277) ∧ (IsS81 w0 w' g s0_0 s0_1) ∧ (KeepBut w w' g none) ∧ (Below w0.heap.size w0 w')) ?_ ?_
          rotate_left
          ·intro hJ6
           refine join_ (σ := Nat) 8 #[true, false, false, false, false, false, false, true, false, false] (fun s_ => [(6, .pointer (some ⟨s_, 0, none⟩))]) (fun s_ w' => (w'.cell? ⟨gb276, 0, none⟩ = some (.bool a1_0) ∧ w'.cell? ⟨gb276, 1, none⟩ = some (.slice A1_1 l1_1.length c1_1)) ∧ (w'.heap[gb276]? = some (.cells #[.bool a1_0, .slice A1_1 l1_1.length c1_1] 24 (0, 0))) ∧ (w'.heap[gb277]? = some (.cells #[.bool false, .slice none 0 0] 24 (0, 0))) ∧ (w'.heap[s_]? = some (.cells #[.int .i64 0, .int .i64 0] 29 (0, 0))) ∧ (w.heap.size ≤ s_) ∧ (w0.heap.size ≤ s_) ∧ (g ≠ s_) ∧ (s_ ≠ g) ∧ (gb276 ≠ s_) ∧ (s_ ≠ gb276) ∧ (gb277 ≠ s_) ∧ (s_ ≠ gb277) ∧ (IsS81 w0 w' g s0_0 s0_1) ∧ (KeepBut w w' g none) ∧ (Below w0.heap.size w0 w')) ?_ ?_
           rotate_left
           ·intro hJ7
            refine three_ (i := 1) (j := 6) (k := 7) (Ni := some 14) (Nj := some 5) (Nk := some 6) #[true, true, false, false, false, false, false, false, false, false] #[true, false, false, false, false, false, true, false, false, false] #[true, false, false, false, false, false, false, true, false, false] rfl rfl rfl rfl rfl rfl (three_of HT_.out (by kernel_rfl)) (by decide) (by decide) (by decide) (fun K hK => ?_) (fun K hK => ?_) (fun K hK => ?_)
            ·skip
             refine goes_ Try.func47 (by kernel_rfl) rfl #[.int .i64 1] (by rfl) rfl rfl (by (try simp only [zT, zC, zN]); first | done | rfl | (simp only [zR, zL]; rfl)) ?_
             with_reducible refine (integer_Of.calls k 1 t278 t279 _ A3.out).mono ?_
             rintro e w9 ⟨v280, rfl, ho0, hb⟩
             refine ⟨_, rfl, ?_⟩
             have HO281 := zM (Kd.R_lower ho0 (keep_size (w := w) (g := g) (row := none) (by repeat (first | (with_reducible first | exact HK.out | apply KeepBut.set_ | apply keep_drewN | apply keep_drew | apply keep_alloc | refine keep_far ?_ GW276.out _ | refine keep_far ?_ GW277.out _) | exact HK.out))))
             replace BK276 := pzb BK276 hb
             replace BK277 := pzb BK277 hb
             replace HK := zM (KeepBut.trans (by repeat (first | (with_reducible first | exact HK.out | apply KeepBut.set_ | apply keep_drewN | apply keep_drew | apply keep_alloc | refine keep_far ?_ GW276.out _ | refine keep_far ?_ GW277.out _) | exact HK.out)) (KeepBut.of_below hb g none) (.inl rfl))
             replace HB := zM (below_step (by repeat (first | (with_reducible first | exact HB.out | apply below_alloc | apply pw_below_drewN | apply below_drew1 | refine below_set ?_ (IsS81.ge HI0.out) | refine below_setA ?_ (by assumption)) | exact HB.out)) hb)
             replace HI0 := zM (IsS81.below (by repeat (first | (with_reducible first | exact HI0.out | apply IsS81.alloc | apply IsS81.drewN | apply IsS81.drew | apply IsS81.set_0 | apply IsS81.set_1 | refine IsS81.far ?_ NB0_276.out _ | refine IsS81.far ?_ NB0_277.out _) | exact HI0.out)) hb)
             (try clear hb)
             (try clear hb2)
             (try clear hk)
             (try clear hi)
             (try clear ho0)
             refine hK.out _ _ ⟨(blk_cell BK276.out 0).trans rfl, (blk_cell BK276.out 1).trans rfl⟩ (fun hHeld => ?_)
             clear hK K
             refine norm_ (a' := ?_) ?_ ?_
             rotate_left
             ·show Act.put _ (some 14) _ = _
              simp only [Act.put, zS, z0, z1, i64_w, i32_w]
              rfl
             exact norm_ (by first | (simp only [putAll, Act.put, zS, z0, z1]; done) | (simp only [putAll, Act.put, zS, z0, z1]; rfl)) (hJ1 (v280) _ ⟨hHeld, HO281.out, BK276.out, BK277.out, (by repeat (first | (with_reducible first | exact HI0.out | apply IsS81.alloc | apply IsS81.drewN | apply IsS81.drew | apply IsS81.set_0 | apply IsS81.set_1 | refine IsS81.far ?_ NB0_276.out _ | refine IsS81.far ?_ NB0_277.out _) | exact HI0.out)), (by repeat (first | (with_reducible first | exact HK.out | apply KeepBut.set_ | apply keep_drewN | apply keep_drew | apply keep_alloc | refine keep_far ?_ GW276.out _ | refine keep_far ?_ GW277.out _) | exact HK.out)), (by repeat (first | (with_reducible first | exact HB.out | apply below_alloc | apply pw_below_drewN | apply below_drew1 | refine below_set ?_ (IsS81.ge HI0.out) | refine below_setA ?_ (by assumption)) | exact HB.out))⟩)
            ·skip
             refine box_step ?hg (N := 5) ?hd (cs := #[.bool false, .slice none 0 0]) (t := 24) ?hr ?_; (case hd => rfl); (case hg => rfl); (case hr => first | (go_simp; done) | (go_simp; rfl))
             intro gb288 hg w9 hbox hb
             have BK288 := zM (hbox)
             have GW288 := zM ((by rw [hg]; exact (keep_size (w := w) (g := g) (row := none) (by repeat (first | (with_reducible first | exact HK.out | apply KeepBut.set_ | apply keep_drewN | apply keep_drew | apply keep_alloc | refine keep_far ?_ GW276.out _ | refine keep_far ?_ GW277.out _) | exact HK.out))) : w.heap.size ≤ gb288))
             have GE288 := zM ((Nat.le_trans HW0.out (by rw [hg]; exact (keep_size (w := w) (g := g) (row := none) (by repeat (first | (with_reducible first | exact HK.out | apply KeepBut.set_ | apply keep_drewN | apply keep_drew | apply keep_alloc | refine keep_far ?_ GW276.out _ | refine keep_far ?_ GW277.out _) | exact HK.out))) : w.heap.size ≤ gb288) : w0.heap.size ≤ gb288))
             have NB276_288 := pzf BK276 hg
             have NB288_276 := pzg BK276 hg
             have NB277_288 := pzf BK277 hg
             have NB288_277 := pzg BK277 hg
             have NB0_288 := zM ((by rw [hg]; exact Nat.ne_of_lt (IsS81.lt (show IsS81 w0 _ g s0_0 s0_1 from by repeat (first | (with_reducible first | exact HI0.out | apply IsS81.alloc | apply IsS81.drewN | apply IsS81.drew | apply IsS81.set_0 | apply IsS81.set_1 | refine IsS81.far ?_ NB0_276.out _ | refine IsS81.far ?_ NB0_277.out _) | exact HI0.out))) : g ≠ gb288))
             have NB288_0 := zM ((by rw [hg]; exact Nat.ne_of_gt (IsS81.lt (show IsS81 w0 _ g s0_0 s0_1 from by repeat (first | (with_reducible first | exact HI0.out | apply IsS81.alloc | apply IsS81.drewN | apply IsS81.drew | apply IsS81.set_0 | apply IsS81.set_1 | refine IsS81.far ?_ NB0_276.out _ | refine IsS81.far ?_ NB0_277.out _) | exact HI0.out))) : gb288 ≠ g))
             replace BK276 := pzb BK276 hb
             replace BK277 := pzb BK277 hb
             replace HK := zM (KeepBut.trans (by repeat (first | (with_reducible first | exact HK.out | apply KeepBut.set_ | apply keep_drewN | apply keep_drew | apply keep_alloc | refine keep_far ?_ GW276.out _ | refine keep_far ?_ GW277.out _) | exact HK.out)) (KeepBut.of_below hb g none) (.inl rfl))
             replace HB := zM (below_step (by repeat (first | (with_reducible first | exact HB.out | apply below_alloc | apply pw_below_drewN | apply below_drew1 | refine below_set ?_ (IsS81.ge HI0.out) | refine below_setA ?_ (by assumption)) | exact HB.out)) hb)
             replace HI0 := zM (IsS81.below (by repeat (first | (with_reducible first | exact HI0.out | apply IsS81.alloc | apply IsS81.drewN | apply IsS81.drew | apply IsS81.set_0 | apply IsS81.set_1 | refine IsS81.far ?_ NB0_276.out _ | refine IsS81.far ?_ NB0_277.out _) | exact HI0.out)) hb)
             clear hb hbox hg
             refine hK.out _ _ ⟨(blk_cell BK276.out 0).trans rfl, (blk_cell BK276.out 1).trans rfl⟩ (fun hHeld => ?_)
             clear hK K
             refine norm_ (a' := ?_) ?_ ?_
             rotate_left
             ·show Act.put _ (some 5) _ = _
              simp only [Act.put, zS, z0, z1, i64_w, i32_w]
              rfl
             exact norm_ (by first | (simp only [putAll, Act.put, zS, z0, z1]; done) | (simp only [putAll, Act.put, zS, z0, z1]; rfl)) (hJ6 (gb288) _ ⟨hHeld, BK276.out, BK277.out, BK288.out, GW288.out, GE288.out, NB0_288.out, NB288_0.out, NB276_288.out, NB288_276.out, NB277_288.out, NB288_277.out, (by repeat (first | (with_reducible first | exact HI0.out | apply IsS81.alloc | apply IsS81.drewN | apply IsS81.drew | apply IsS81.set_0 | apply IsS81.set_1 | refine IsS81.far ?_ NB0_276.out _ | refine IsS81.far ?_ NB0_277.out _ | refine IsS81.far ?_ NB0_288.out _) | exact HI0.out)), (by repeat (first | (with_reducible first | exact HK.out | apply KeepBut.set_ | apply keep_drewN | apply keep_drew | apply keep_alloc | refine keep_far ?_ GW276.out _ | refine keep_far ?_ GW277.out _ | refine keep_far ?_ GW288.out _) | exact HK.out)), (by repeat (first | (with_reducible first | exact HB.out | apply below_alloc | apply pw_below_drewN | apply below_drew1 | refine below_set ?_ (IsS81.ge HI0.out) | refine below_setA ?_ (by assumption)) | exact HB.out))⟩)
            ·skip
             refine box_step ?hg (N := 6) ?hd (cs := #[.int .i64 0, .int .i64 0]) (t := 29) ?hr ?_; (case hd => rfl); (case hg => rfl); (case hr => first | (go_simp; done) | (go_simp; rfl))
             intro gb289 hg w9 hbox hb
             have BK289 := zM (hbox)
             have GW289 := zM ((by rw [hg]; exact (keep_size (w := w) (g := g) (row := none) (by repeat (first | (with_reducible first | exact HK.out | apply KeepBut.set_ | apply keep_drewN | apply keep_drew | apply keep_alloc | refine keep_far ?_ GW276.out _ | refine keep_far ?_ GW277.out _) | exact HK.out))) : w.heap.size ≤ gb289))
             have GE289 := zM ((Nat.le_trans HW0.out (by rw [hg]; exact (keep_size (w := w) (g := g) (row := none) (by repeat (first | (with_reducible first | exact HK.out | apply KeepBut.set_ | apply keep_drewN | apply keep_drew | apply keep_alloc | refine keep_far ?_ GW276.out _ | refine keep_far ?_ GW277.out _) | exact HK.out))) : w.heap.size ≤ gb289) : w0.heap.size ≤ gb289))
             have NB276_289 := pzf BK276 hg
             have NB289_276 := pzg BK276 hg
             have NB277_289 := pzf BK277 hg
             have NB289_277 := pzg BK277 hg
             have NB0_289 := zM ((by rw [hg]; exact Nat.ne_of_lt (IsS81.lt (show IsS81 w0 _ g s0_0 s0_1 from by repeat (first | (with_reducible first | exact HI0.out | apply IsS81.alloc | apply IsS81.drewN | apply IsS81.drew | apply IsS81.set_0 | apply IsS81.set_1 | refine IsS81.far ?_ NB0_276.out _ | refine IsS81.far ?_ NB0_277.out _) | exact HI0.out))) : g ≠ gb289))
             have NB289_0 := zM ((by rw [hg]; exact Nat.ne_of_gt (IsS81.lt (show IsS81 w0 _ g s0_0 s0_1 from by repeat (first | (with_reducible first | exact HI0.out | apply IsS81.alloc | apply IsS81.drewN | apply IsS81.drew | apply IsS81.set_0 | apply IsS81.set_1 | refine IsS81.far ?_ NB0_276.out _ | refine IsS81.far ?_ NB0_277.out _) | exact HI0.out))) : gb289 ≠ g))
             replace BK276 := pzb BK276 hb
             replace BK277 := pzb BK277 hb
             replace HK := zM (KeepBut.trans (by repeat (first | (with_reducible first | exact HK.out | apply KeepBut.set_ | apply keep_drewN | apply keep_drew | apply keep_alloc | refine keep_far ?_ GW276.out _ | refine keep_far ?_ GW277.out _) | exact HK.out)) (KeepBut.of_below hb g none) (.inl rfl))
             replace HB := zM (below_step (by repeat (first | (with_reducible first | exact HB.out | apply below_alloc | apply pw_below_drewN | apply below_drew1 | refine below_set ?_ (IsS81.ge HI0.out) | refine below_setA ?_ (by assumption)) | exact HB.out)) hb)
             replace HI0 := zM (IsS81.below (by repeat (first | (with_reducible first | exact HI0.out | apply IsS81.alloc | apply IsS81.drewN | apply IsS81.drew | apply IsS81.set_0 | apply IsS81.set_1 | refine IsS81.far ?_ NB0_276.out _ | refine IsS81.far ?_ NB0_277.out _) | exact HI0.out)) hb)
             clear hb hbox hg
             refine hK.out _ _ ⟨(blk_cell BK276.out 0).trans rfl, (blk_cell BK276.out 1).trans rfl⟩ (fun hHeld => ?_)
             clear hK K
             refine norm_ (a' := ?_) ?_ ?_
             rotate_left
             ·show Act.put _ (some 6) _ = _
              simp only [Act.put, zS, z0, z1, i64_w, i32_w]
              rfl
             exact norm_ (by first | (simp only [putAll, Act.put, zS, z0, z1]; done) | (simp only [putAll, Act.put, zS, z0, z1]; rfl)) (hJ7 (gb289) _ ⟨hHeld, BK276.out, BK277.out, BK289.out, GW289.out, GE289.out, NB0_289.out, NB289_0.out, NB276_289.out, NB289_276.out, NB277_289.out, NB289_277.out, (by repeat (first | (with_reducible first | exact HI0.out | apply IsS81.alloc | apply IsS81.drewN | apply IsS81.drew | apply IsS81.set_0 | apply IsS81.set_1 | refine IsS81.far ?_ NB0_276.out _ | refine IsS81.far ?_ NB0_277.out _ | refine IsS81.far ?_ NB0_289.out _) | exact HI0.out)), (by repeat (first | (with_reducible first | exact HK.out | apply KeepBut.set_ | apply keep_drewN | apply keep_drew | apply keep_alloc | refine keep_far ?_ GW276.out _ | refine keep_far ?_ GW277.out _ | refine keep_far ?_ GW289.out _) | exact HK.out)), (by repeat (first | (with_reducible first | exact HB.out | apply below_alloc | apply pw_below_drewN | apply below_drew1 | refine below_set ?_ (IsS81.ge HI0.out) | refine below_setA ?_ (by assumption)) | exact HB.out))⟩)
           ·skip
            rintro gb289 w10 ⟨hS_, h0_, h1_, h2_, h3_, h4_, h5_, h6_, h7_, h8_, h9_, h10_, h11_, h12_, h13_⟩
            have n0_ : Aside0 (w10.heap[gb276]? = some (.cells #[.bool a1_0, .slice A1_1 l1_1.length c1_1] 24 (0, 0))) := ⟨h0_⟩
            have n1_ : Aside0 (w10.heap[gb277]? = some (.cells #[.bool false, .slice none 0 0] 24 (0, 0))) := ⟨h1_⟩
            have n2_ : Aside0 (w10.heap[gb289]? = some (.cells #[.int .i64 0, .int .i64 0] 29 (0, 0))) := ⟨h2_⟩
            have n3_ : Aside0 (w.heap.size ≤ gb289) := ⟨h3_⟩
            have n4_ : Aside0 (w0.heap.size ≤ gb289) := ⟨h4_⟩
            have n5_ : Aside0 (g ≠ gb289) := ⟨h5_⟩
            have n6_ : Aside0 (gb289 ≠ g) := ⟨h6_⟩
            have n7_ : Aside0 (gb276 ≠ gb289) := ⟨h7_⟩
            have n8_ : Aside0 (gb289 ≠ gb276) := ⟨h8_⟩
            have n9_ : Aside0 (gb277 ≠ gb289) := ⟨h9_⟩
            have n10_ : Aside0 (gb289 ≠ gb277) := ⟨h10_⟩
            have n11_ : Aside0 (IsS81 w0 w10 g s0_0 s0_1) := ⟨h11_⟩
            have n12_ : Aside0 (KeepBut w w10 g none) := ⟨h12_⟩
            have n13_ : Aside0 (Below w0.heap.size w0 w10) := ⟨h13_⟩
            clear BK276
            clear BK277
            clear HI0
            clear HK
            clear HB
            clear h0_ h1_ h2_ h3_ h4_ h5_ h6_ h7_ h8_ h9_ h10_ h11_ h12_ h13_
            have BK276 := n0_
            have BK277 := n1_
            have BK289 := n2_
            have GW289 := n3_
            have GE289 := n4_
            have NB0_289 := n5_
            have NB289_0 := n6_
            have NB276_289 := n7_
            have NB289_276 := n8_
            have NB277_289 := n9_
            have NB289_277 := n10_
            have HI0 := n11_
            have HK := n12_
            have HB := n13_
            clear n0_ n1_ n2_ n3_ n4_ n5_ n6_ n7_ n8_ n9_ n10_ n11_ n12_ n13_
            have hHeld : w10.cell? ⟨gb276, 0, none⟩ = some (.bool a1_0) ∧ w10.cell? ⟨gb276, 1, none⟩ = some (.slice A1_1 l1_1.length c1_1) := hS_
            refine norm_ (a' := ?_) ?_ ?_
            rotate_left
            ·simp only [putAll, Act.put, zS, z0, z1]
             rfl
            refine two_ (i := 1) (j := 6) (Ni := some 14) (Nj := some 5) #[true, true, false, false, false, false, false, true, false, false] #[true, false, false, false, false, false, true, true, false, false] rfl rfl rfl rfl (two_of HT_.out (by kernel_rfl)) (by decide) (by decide) (fun K hK => ?_) (fun K hK => ?_)
            ·skip
             refine goes_ Try.func47 (by kernel_rfl) rfl #[.int .i64 1] (by rfl) rfl rfl (by (try simp only [zT, zC, zN]); first | done | rfl | (simp only [zR, zL]; rfl)) ?_
             with_reducible refine (integer_Of.calls k 1 t278 t279 _ A3.out).mono ?_
             rintro e w11 ⟨v280, rfl, ho0, hb⟩
             refine ⟨_, rfl, ?_⟩
             have HO281 := zM (Kd.R_lower ho0 (keep_size (w := w) (g := g) (row := none) (by repeat (first | (with_reducible first | exact HK.out | apply KeepBut.set_ | apply keep_drewN | apply keep_drew | apply keep_alloc | refine keep_far ?_ GW276.out _ | refine keep_far ?_ GW277.out _ | refine keep_far ?_ GW289.out _) | exact HK.out))))
             replace BK276 := pzb BK276 hb
             replace BK277 := pzb BK277 hb
             replace BK289 := pzb BK289 hb
             replace HK := zM (KeepBut.trans (by repeat (first | (with_reducible first | exact HK.out | apply KeepBut.set_ | apply keep_drewN | apply keep_drew | apply keep_alloc | refine keep_far ?_ GW276.out _ | refine keep_far ?_ GW277.out _ | refine keep_far ?_ GW289.out _) | exact HK.out)) (KeepBut.of_below hb g none) (.inl rfl))
             replace HB := zM (below_step (by repeat (first | (with_reducible first | exact HB.out | apply below_alloc | apply pw_below_drewN | apply below_drew1 | refine below_set ?_ (IsS81.ge HI0.out) | refine below_setA ?_ (by assumption)) | exact HB.out)) hb)
             replace HI0 := zM (IsS81.below (by repeat (first | (with_reducible first | exact HI0.out | apply IsS81.alloc | apply IsS81.drewN | apply IsS81.drew | apply IsS81.set_0 | apply IsS81.set_1 | refine IsS81.far ?_ NB0_276.out _ | refine IsS81.far ?_ NB0_277.out _ | refine IsS81.far ?_ NB0_289.out _) | exact HI0.out)) hb)
             (try clear hb)
             (try clear hb2)
             (try clear hk)
             (try clear hi)
             (try clear ho0)
             refine hK.out _ _ ⟨(blk_cell BK276.out 0).trans rfl, (blk_cell BK276.out 1).trans rfl⟩ (fun hHeld => ?_)
             clear hK K
             refine norm_ (a' := ?_) ?_ ?_
             rotate_left
             ·show Act.put _ (some 14) _ = _
              simp only [Act.put, zS, z0, z1, i64_w, i32_w]
              rfl
             exact norm_ (by first | (simp only [putAll, Act.put, zS, z0, z1]; done) | (simp only [putAll, Act.put, zS, z0, z1]; rfl)) (hJ1_7 (_, gb289) _ ⟨hHeld, HO281.out, BK276.out, BK277.out, BK289.out, GW289.out, GE289.out, NB0_289.out, NB289_0.out, NB276_289.out, NB289_276.out, NB277_289.out, NB289_277.out, (by repeat (first | (with_reducible first | exact HI0.out | apply IsS81.alloc | apply IsS81.drewN | apply IsS81.drew | apply IsS81.set_0 | apply IsS81.set_1 | refine IsS81.far ?_ NB0_276.out _ | refine IsS81.far ?_ NB0_277.out _ | refine IsS81.far ?_ NB0_289.out _) | exact HI0.out)), (by repeat (first | (with_reducible first | exact HK.out | apply KeepBut.set_ | apply keep_drewN | apply keep_drew | apply keep_alloc | refine keep_far ?_ GW276.out _ | refine keep_far ?_ GW277.out _ | refine keep_far ?_ GW289.out _) | exact HK.out)), (by repeat (first | (with_reducible first | exact HB.out | apply below_alloc | apply pw_below_drewN | apply below_drew1 | refine below_set ?_ (IsS81.ge HI0.out) | refine below_setA ?_ (by assumption)) | exact HB.out))⟩)
            ·skip
             refine box_step ?hg (N := 5) ?hd (cs := #[.bool false, .slice none 0 0]) (t := 24) ?hr ?_; (case hd => rfl); (case hg => rfl); (case hr => first | (go_simp; done) | (go_simp; rfl))
             intro gb288 hg w11 hbox hb
             have BK288 := zM (hbox)
             have GW288 := zM ((by rw [hg]; exact (keep_size (w := w) (g := g) (row := none) (by repeat (first | (with_reducible first | exact HK.out | apply KeepBut.set_ | apply keep_drewN | apply keep_drew | apply keep_alloc | refine keep_far ?_ GW276.out _ | refine keep_far ?_ GW277.out _ | refine keep_far ?_ GW289.out _) | exact HK.out))) : w.heap.size ≤ gb288))
             have GE288 := zM ((Nat.le_trans HW0.out (by rw [hg]; exact (keep_size (w := w) (g := g) (row := none) (by repeat (first | (with_reducible first | exact HK.out | apply KeepBut.set_ | apply keep_drewN | apply keep_drew | apply keep_alloc | refine keep_far ?_ GW276.out _ | refine keep_far ?_ GW277.out _ | refine keep_far ?_ GW289.out _) | exact HK.out))) : w.heap.size ≤ gb288) : w0.heap.size ≤ gb288))
             have NB276_288 := pzf BK276 hg
             have NB288_276 := pzg BK276 hg
             have NB277_288 := pzf BK277 hg
             have NB288_277 := pzg BK277 hg
             have NB289_288 := pzf BK289 hg
             have NB288_289 := pzg BK289 hg
             have NB0_288 := zM ((by rw [hg]; exact Nat.ne_of_lt (IsS81.lt (show IsS81 w0 _ g s0_0 s0_1 from by repeat (first | (with_reducible first | exact HI0.out | apply IsS81.alloc | apply IsS81.drewN | apply IsS81.drew | apply IsS81.set_0 | apply IsS81.set_1 | refine IsS81.far ?_ NB0_276.out _ | refine IsS81.far ?_ NB0_277.out _ | refine IsS81.far ?_ NB0_289.out _) | exact HI0.out))) : g ≠ gb288))
             have NB288_0 := zM ((by rw [hg]; exact Nat.ne_of_gt (IsS81.lt (show IsS81 w0 _ g s0_0 s0_1 from by repeat (first | (with_reducible first | exact HI0.out | apply IsS81.alloc | apply IsS81.drewN | apply IsS81.drew | apply IsS81.set_0 | apply IsS81.set_1 | refine IsS81.far ?_ NB0_276.out _ | refine IsS81.far ?_ NB0_277.out _ | refine IsS81.far ?_ NB0_289.out _) | exact HI0.out))) : gb288 ≠ g))
             replace BK276 := pzb BK276 hb
             replace BK277 := pzb BK277 hb
             replace BK289 := pzb BK289 hb
             replace HK := zM (KeepBut.trans (by repeat (first | (with_reducible first | exact HK.out | apply KeepBut.set_ | apply keep_drewN | apply keep_drew | apply keep_alloc | refine keep_far ?_ GW276.out _ | refine keep_far ?_ GW277.out _ | refine keep_far ?_ GW289.out _) | exact HK.out)) (KeepBut.of_below hb g none) (.inl rfl))
             replace HB := zM (below_step (by repeat (first | (with_reducible first | exact HB.out | apply below_alloc | apply pw_below_drewN | apply below_drew1 | refine below_set ?_ (IsS81.ge HI0.out) | refine below_setA ?_ (by assumption)) | exact HB.out)) hb)
             replace HI0 := zM (IsS81.below (by repeat (first | (with_reducible first | exact HI0.out | apply IsS81.alloc | apply IsS81.drewN | apply IsS81.drew | apply IsS81.set_0 | apply IsS81.set_1 | refine IsS81.far ?_ NB0_276.out _ | refine IsS81.far ?_ NB0_277.out _ | refine IsS81.far ?_ NB0_289.out _) | exact HI0.out)) hb)
             clear hb hbox hg
             refine hK.out _ _ ⟨(blk_cell BK276.out 0).trans rfl, (blk_cell BK276.out 1).trans rfl⟩ (fun hHeld => ?_)
             clear hK K
             refine norm_ (a' := ?_) ?_ ?_
             rotate_left
             ·show Act.put _ (some 5) _ = _
              simp only [Act.put, zS, z0, z1, i64_w, i32_w]
              rfl
             exact norm_ (by first | (simp only [putAll, Act.put, zS, z0, z1]; done) | (simp only [putAll, Act.put, zS, z0, z1]; rfl)) (hJ6_7 (gb288, gb289) _ ⟨hHeld, BK276.out, BK277.out, BK288.out, BK289.out, GW288.out, GE288.out, NB0_288.out, NB288_0.out, NB276_288.out, NB288_276.out, NB277_288.out, NB288_277.out, NB289_288.out, NB288_289.out, GW289.out, GE289.out, NB0_289.out, NB289_0.out, NB276_289.out, NB289_276.out, NB277_289.out, NB289_277.out, (by repeat (first | (with_reducible first | exact HI0.out | apply IsS81.alloc | apply IsS81.drewN | apply IsS81.drew | apply IsS81.set_0 | apply IsS81.set_1 | refine IsS81.far ?_ NB0_276.out _ | refine IsS81.far ?_ NB0_277.out _ | refine IsS81.far ?_ NB0_289.out _ | refine IsS81.far ?_ NB0_288.out _) | exact HI0.out)), (by repeat (first | (with_reducible first | exact HK.out | apply KeepBut.set_ | apply keep_drewN | apply keep_drew | apply keep_alloc | refine keep_far ?_ GW276.out _ | refine keep_far ?_ GW277.out _ | refine keep_far ?_ GW289.out _ | refine keep_far ?_ GW288.out _) | exact HK.out)), (by repeat (first | (with_reducible first | exact HB.out | apply below_alloc | apply pw_below_drewN | apply below_drew1 | refine below_set ?_ (IsS81.ge HI0.out) | refine below_setA ?_ (by assumption)) | exact HB.out))⟩)
          ·skip
           rintro gb288 w10 ⟨hS_, h0_, h1_, h2_, h3_, h4_, h5_, h6_, h7_, h8_, h9_, h10_, h11_, h12_, h13_⟩
           have n0_ : Aside0 (w10.heap[gb276]? = some (.cells #[.bool a1_0, .slice A1_1 l1_1.length c1_1] 24 (0, 0))) := ⟨h0_⟩
           have n1_ : Aside0 (w10.heap[gb277]? = some (.cells #[.bool false, .slice none 0 0] 24 (0, 0))) := ⟨h1_⟩
           have n2_ : Aside0 (w10.heap[gb288]? = some (.cells #[.bool false, .slice none 0 0] 24 (0, 0))) := ⟨h2_⟩
           have n3_ : Aside0 (w.heap.size ≤ gb288) := ⟨h3_⟩
           have n4_ : Aside0 (w0.heap.size ≤ gb288) := ⟨h4_⟩
           have n5_ : Aside0 (g ≠ gb288) := ⟨h5_⟩
           have n6_ : Aside0 (gb288 ≠ g) := ⟨h6_⟩
           have n7_ : Aside0 (gb276 ≠ gb288) := ⟨h7_⟩
           have n8_ : Aside0 (gb288 ≠ gb276) := ⟨h8_⟩
           have n9_ : Aside0 (gb277 ≠ gb288) := ⟨h9_⟩
           have n10_ : Aside0 (gb288 ≠ gb277) := ⟨h10_⟩
           have n11_ : Aside0 (IsS81 w0 w10 g s0_0 s0_1) := ⟨h11_⟩
           have n12_ : Aside0 (KeepBut w w10 g none) := ⟨h12_⟩
           have n13_ : Aside0 (Below w0.heap.size w0 w10) := ⟨h13_⟩
           clear BK276
           clear BK277
           clear HI0
           clear HK
           clear HB
           clear h0_ h1_ h2_ h3_ h4_ h5_ h6_ h7_ h8_ h9_ h10_ h11_ h12_ h13_
           have BK276 := n0_
           have BK277 := n1_
           have BK288 := n2_
           have GW288 := n3_
           have GE288 := n4_
           have NB0_288 := n5_
           have NB288_0 := n6_
           have NB276_288 := n7_
           have NB288_276 := n8_
           have NB277_288 := n9_
           have NB288_277 := n10_
           have HI0 := n11_
           have HK := n12_
           have HB := n13_
           clear n0_ n1_ n2_ n3_ n4_ n5_ n6_ n7_ n8_ n9_ n10_ n11_ n12_ n13_
           have hHeld : w10.cell? ⟨gb276, 0, none⟩ = some (.bool a1_0) ∧ w10.cell? ⟨gb276, 1, none⟩ = some (.slice A1_1 l1_1.length c1_1) := hS_
           refine norm_ (a' := ?_) ?_ ?_
           rotate_left
           ·simp only [putAll, Act.put, zS, z0, z1]
            rfl
           refine two_ (i := 1) (j := 7) (Ni := some 14) (Nj := some 6) #[true, true, false, false, false, false, true, false, false, false] #[true, false, false, false, false, false, true, true, false, false] rfl rfl rfl rfl (two_of HT_.out (by kernel_rfl)) (by decide) (by decide) (fun K hK => ?_) (fun K hK => ?_)
           ·skip
            refine goes_ Try.func47 (by kernel_rfl) rfl #[.int .i64 1] (by rfl) rfl rfl (by (try simp only [zT, zC, zN]); first | done | rfl | (simp only [zR, zL]; rfl)) ?_
            with_reducible refine (integer_Of.calls k 1 t278 t279 _ A3.out).mono ?_
            rintro e w11 ⟨v280, rfl, ho0, hb⟩
            refine ⟨_, rfl, ?_⟩
            have HO281 := zM (Kd.R_lower ho0 (keep_size (w := w) (g := g) (row := none) (by repeat (first | (with_reducible first | exact HK.out | apply KeepBut.set_ | apply keep_drewN | apply keep_drew | apply keep_alloc | refine keep_far ?_ GW276.out _ | refine keep_far ?_ GW277.out _ | refine keep_far ?_ GW288.out _) | exact HK.out))))
            replace BK276 := pzb BK276 hb
            replace BK277 := pzb BK277 hb
            replace BK288 := pzb BK288 hb
            replace HK := zM (KeepBut.trans (by repeat (first | (with_reducible first | exact HK.out | apply KeepBut.set_ | apply keep_drewN | apply keep_drew | apply keep_alloc | refine keep_far ?_ GW276.out _ | refine keep_far ?_ GW277.out _ | refine keep_far ?_ GW288.out _) | exact HK.out)) (KeepBut.of_below hb g none) (.inl rfl))
            replace HB := zM (below_step (by repeat (first | (with_reducible first | exact HB.out | apply below_alloc | apply pw_below_drewN | apply below_drew1 | refine below_set ?_ (IsS81.ge HI0.out) | refine below_setA ?_ (by assumption)) | exact HB.out)) hb)
            replace HI0 := zM (IsS81.below (by repeat (first | (with_reducible first | exact HI0.out | apply IsS81.alloc | apply IsS81.drewN | apply IsS81.drew | apply IsS81.set_0 | apply IsS81.set_1 | refine IsS81.far ?_ NB0_276.out _ | refine IsS81.far ?_ NB0_277.out _ | refine IsS81.far ?_ NB0_288.out _) | exact HI0.out)) hb)
            (try clear hb)
            (try clear hb2)
            (try clear hk)
            (try clear hi)
            (try clear ho0)
            refine hK.out _ _ ⟨(blk_cell BK276.out 0).trans rfl, (blk_cell BK276.out 1).trans rfl⟩ (fun hHeld => ?_)
            clear hK K
            refine norm_ (a' := ?_) ?_ ?_
            rotate_left
            ·show Act.put _ (some 14) _ = _
             simp only [Act.put, zS, z0, z1, i64_w, i32_w]
             rfl
            exact norm_ (by first | (simp only [putAll, Act.put, zS, z0, z1]; done) | (simp only [putAll, Act.put, zS, z0, z1]; rfl)) (hJ1_6 (_, gb288) _ ⟨hHeld, HO281.out, BK276.out, BK277.out, BK288.out, GW288.out, GE288.out, NB0_288.out, NB288_0.out, NB276_288.out, NB288_276.out, NB277_288.out, NB288_277.out, (by repeat (first | (with_reducible first | exact HI0.out | apply IsS81.alloc | apply IsS81.drewN | apply IsS81.drew | apply IsS81.set_0 | apply IsS81.set_1 | refine IsS81.far ?_ NB0_276.out _ | refine IsS81.far ?_ NB0_277.out _ | refine IsS81.far ?_ NB0_288.out _) | exact HI0.out)), (by repeat (first | (with_reducible first | exact HK.out | apply KeepBut.set_ | apply keep_drewN | apply keep_drew | apply keep_alloc | refine keep_far ?_ GW276.out _ | refine keep_far ?_ GW277.out _ | refine keep_far ?_ GW288.out _) | exact HK.out)), (by repeat (first | (with_reducible first | exact HB.out | apply below_alloc | apply pw_below_drewN | apply below_drew1 | refine below_set ?_ (IsS81.ge HI0.out) | refine below_setA ?_ (by assumption)) | exact HB.out))⟩)
           ·skip
            refine box_step ?hg (N := 6) ?hd (cs := #[.int .i64 0, .int .i64 0]) (t := 29) ?hr ?_; (case hd => rfl); (case hg => rfl); (case hr => first | (go_simp; done) | (go_simp; rfl))
            intro gb289 hg w11 hbox hb
            have BK289 := zM (hbox)
            have GW289 := zM ((by rw [hg]; exact (keep_size (w := w) (g := g) (row := none) (by repeat (first | (with_reducible first | exact HK.out | apply KeepBut.set_ | apply keep_drewN | apply keep_drew | apply keep_alloc | refine keep_far ?_ GW276.out _ | refine keep_far ?_ GW277.out _ | refine keep_far ?_ GW288.out _) | exact HK.out))) : w.heap.size ≤ gb289))
            have GE289 := zM ((Nat.le_trans HW0.out (by rw [hg]; exact (keep_size (w := w) (g := g) (row := none) (by repeat (first | (with_reducible first | exact HK.out | apply KeepBut.set_ | apply keep_drewN | apply keep_drew | apply keep_alloc | refine keep_far ?_ GW276.out _ | refine keep_far ?_ GW277.out _ | refine keep_far ?_ GW288.out _) | exact HK.out))) : w.heap.size ≤ gb289) : w0.heap.size ≤ gb289))
            have NB276_289 := pzf BK276 hg
            have NB289_276 := pzg BK276 hg
            have NB277_289 := pzf BK277 hg
            have NB289_277 := pzg BK277 hg
            have NB288_289 := pzf BK288 hg
            have NB289_288 := pzg BK288 hg
            have NB0_289 := zM ((by rw [hg]; exact Nat.ne_of_lt (IsS81.lt (show IsS81 w0 _ g s0_0 s0_1 from by repeat (first | (with_reducible first | exact HI0.out | apply IsS81.alloc | apply IsS81.drewN | apply IsS81.drew | apply IsS81.set_0 | apply IsS81.set_1 | refine IsS81.far ?_ NB0_276.out _ | refine IsS81.far ?_ NB0_277.out _ | refine IsS81.far ?_ NB0_288.out _) | exact HI0.out))) : g ≠ gb289))
            have NB289_0 := zM ((by rw [hg]; exact Nat.ne_of_gt (IsS81.lt (show IsS81 w0 _ g s0_0 s0_1 from by repeat (first | (with_reducible first | exact HI0.out | apply IsS81.alloc | apply IsS81.drewN | apply IsS81.drew | apply IsS81.set_0 | apply IsS81.set_1 | refine IsS81.far ?_ NB0_276.out _ | refine IsS81.far ?_ NB0_277.out _ | refine IsS81.far ?_ NB0_288.out _) | exact HI0.out))) : gb289 ≠ g))
            replace BK276 := pzb BK276 hb
            replace BK277 := pzb BK277 hb
            replace BK288 := pzb BK288 hb
            replace HK := zM (KeepBut.trans (by repeat (first | (with_reducible first | exact HK.out | apply KeepBut.set_ | apply keep_drewN | apply keep_drew | apply keep_alloc | refine keep_far ?_ GW276.out _ | refine keep_far ?_ GW277.out _ | refine keep_far ?_ GW288.out _) | exact HK.out)) (KeepBut.of_below hb g none) (.inl rfl))
            replace HB := zM (below_step (by repeat (first | (with_reducible first | exact HB.out | apply below_alloc | apply pw_below_drewN | apply below_drew1 | refine below_set ?_ (IsS81.ge HI0.out) | refine below_setA ?_ (by assumption)) | exact HB.out)) hb)
            replace HI0 := zM (IsS81.below (by repeat (first | (with_reducible first | exact HI0.out | apply IsS81.alloc | apply IsS81.drewN | apply IsS81.drew | apply IsS81.set_0 | apply IsS81.set_1 | refine IsS81.far ?_ NB0_276.out _ | refine IsS81.far ?_ NB0_277.out _ | refine IsS81.far ?_ NB0_288.out _) | exact HI0.out)) hb)
            clear hb hbox hg
            refine hK.out _ _ ⟨(blk_cell BK276.out 0).trans rfl, (blk_cell BK276.out 1).trans rfl⟩ (fun hHeld => ?_)
            clear hK K
            refine norm_ (a' := ?_) ?_ ?_
            rotate_left
            ·show Act.put _ (some 6) _ = _
             simp only [Act.put, zS, z0, z1, i64_w, i32_w]
             rfl
            exact norm_ (by first | (simp only [putAll, Act.put, zS, z0, z1]; done) | (simp only [putAll, Act.put, zS, z0, z1]; rfl)) (hJ6_7 (gb288, gb289) _ ⟨hHeld, BK276.out, BK277.out, BK288.out, BK289.out, GW288.out, GE288.out, NB0_288.out, NB288_0.out, NB276_288.out, NB288_276.out, NB277_288.out, NB288_277.out, NB289_288.out, NB288_289.out, GW289.out, GE289.out, NB0_289.out, NB289_0.out, NB276_289.out, NB289_276.out, NB277_289.out, NB289_277.out, (by repeat (first | (with_reducible first | exact HI0.out | apply IsS81.alloc | apply IsS81.drewN | apply IsS81.drew | apply IsS81.set_0 | apply IsS81.set_1 | refine IsS81.far ?_ NB0_276.out _ | refine IsS81.far ?_ NB0_277.out _ | refine IsS81.far ?_ NB0_288.out _ | refine IsS81.far ?_ NB0_289.out _) | exact HI0.out)), (by repeat (first | (with_reducible first | exact HK.out | apply KeepBut.set_ | apply keep_drewN | apply keep_drew | apply keep_alloc | refine keep_far ?_ GW276.out _ | refine keep_far ?_ GW277.out _ | refine keep_far ?_ GW288.out _ | refine keep_far ?_ GW289.out _) | exact HK.out)), (by repeat (first | (with_reducible first | exact HB.out | apply below_alloc | apply pw_below_drewN | apply below_drew1 | refine below_set ?_ (IsS81.ge HI0.out) | refine below_setA ?_ (by assumption)) | exact HB.out))⟩)
         ·skip
          rintro v280 w10 ⟨hS_, h0_, h1_, h2_, h3_, h4_, h5_⟩
          have n0_ : Aside0 (Kd.R (Kd.int .u32) 76 w10 w.heap.size (fun _ => True) v280 t279) := ⟨h0_⟩
          have n1_ : Aside0 (w10.heap[gb276]? = some (.cells #[.bool a1_0, .slice A1_1 l1_1.length c1_1] 24 (0, 0))) := ⟨h1_⟩
          have n2_ : Aside0 (w10.heap[gb277]? = some (.cells #[.bool false, .slice none 0 0] 24 (0, 0))) := ⟨h2_⟩
          have n3_ : Aside0 (IsS81 w0 w10 g s0_0 s0_1) := ⟨h3_⟩
          have n4_ : Aside0 (KeepBut w w10 g none) := ⟨h4_⟩
          have n5_ : Aside0 (Below w0.heap.size w0 w10) := ⟨h5_⟩
          clear BK276
          clear BK277
          clear HI0
          clear HK
          clear HB
          clear h0_ h1_ h2_ h3_ h4_ h5_
          have HO281 := n0_
          have BK276 := n1_
          have BK277 := n2_
          have HI0 := n3_
          have HK := n4_
          have HB := n5_
          clear n0_ n1_ n2_ n3_ n4_ n5_
          have hHeld : w10.cell? ⟨gb276, 0, none⟩ = some (.bool a1_0) ∧ w10.cell? ⟨gb276, 1, none⟩ = some (.slice A1_1 l1_1.length c1_1) := hS_
          obtain ⟨Ao11, co11, eo11⟩ := Kd.R_slice HO281.out
          (first | subst eo11 | (injection eo11 with f1_ f2_ f3_; have f4_ := f1_.symm; have f5_ := f3_.symm; clear f1_ f2_ f3_; subst f4_; subst f5_))
          refine norm_ (a' := ?_) ?_ ?_
          rotate_left
          ·simp only [putAll, Act.put, zS, z0, z1]
           rfl
          refine three_ (i := 2) (j := 6) (k := 7) (Ni := some 15) (Nj := some 5) (Nk := some 6) #[true, true, true, false, false, false, false, false, false, false] #[true, true, false, false, false, false, true, false, false, false] #[true, true, false, false, false, false, false, true, false, false] rfl rfl rfl rfl rfl rfl (three_of HT_.out (by kernel_rfl)) (by decide) (by decide) (by decide) (fun K hK => ?_) (fun K hK => ?_) (fun K hK => ?_)
          ·skip
           refine goes_ Try.func45 (by kernel_rfl) rfl #[.agg #[.bool a1_0, .slice A1_1 l1_1.length c1_1], .agg #[.bool t278, .slice Ao11 t279.length co11]] (by rfl) rfl rfl (by (try simp only [zT, zC, zN]); first | done | rfl | (simp only [zR, zL]; rfl)) ?_
           with_reducible refine (integer_Sub.calls k a1_0 _ _ l1_1 t278 _ _ t279 t282 t283 t286 t287 _ ?side1 ?side2 ?side3 ?side4 A4.out).mono ?_
           (case side1 => exact Kd.C_keep 0 HR1_1.out (by repeat (first | (with_reducible first | exact HK.out | apply KeepBut.set_ | apply keep_drewN | apply keep_drew | apply keep_alloc | refine keep_far ?_ GW276.out _ | refine keep_far ?_ GW277.out _) | exact HK.out)) hf1_1)
           (case side2 => exact HC1_1.out)
           (case side3 => repeat (first | exact (Kd.R_reads' HO281.out).2.2 | (with_reducible refine Kd.C_alloc ?_ _) | (with_reducible refine Kd.C_drewN ?_ _) | (with_reducible refine Kd.C_drew ?_)))
           (case side4 => exact (Kd.R_reads' HO281.out).2.1)
           rintro e w12 ⟨v284, rfl, ho0, hb⟩
           refine ⟨_, rfl, ?_⟩
           have HO285 := zM (Kd.V_lower (Kd.V_mono (ok' := fun k_ => some k_ ≠ (.slice Ao11 t279.length co11 : Value).ownBlock ∧ k_ ≠ gb276 ∧ k_ ≠ gb277 ∧ k_ ≠ g) ho0 (fun k_ hk_ => ⟨(Kd.fresh' (Kd.R_lt HO281.out) k_ hk_), (Kd.freshB (g := gb276) (o := .cells #[.bool a1_0, .slice A1_1 l1_1.length c1_1] 24 (0, 0)) BK276.out k_ hk_), (Kd.freshB (g := gb277) (o := .cells #[.bool false, .slice none 0 0] 24 (0, 0)) BK277.out k_ hk_), (IsS81.fresh (by repeat (first | (with_reducible first | exact HI0.out | apply IsS81.alloc | apply IsS81.drewN | apply IsS81.drew | apply IsS81.set_0 | apply IsS81.set_1 | refine IsS81.far ?_ NB0_276.out _ | refine IsS81.far ?_ NB0_277.out _) | exact HI0.out)) k_ hk_)⟩)) (keep_size (w := w) (g := g) (row := none) (by repeat (first | (with_reducible first | exact HK.out | apply KeepBut.set_ | apply keep_drewN | apply keep_drew | apply keep_alloc | refine keep_far ?_ GW276.out _ | refine keep_far ?_ GW277.out _) | exact HK.out))))
           replace HO281 := zM (Kd.R_below HO281.out hb)
           replace BK276 := pzb BK276 hb
           replace BK277 := pzb BK277 hb
           replace HK := zM (KeepBut.trans (by repeat (first | (with_reducible first | exact HK.out | apply KeepBut.set_ | apply keep_drewN | apply keep_drew | apply keep_alloc | refine keep_far ?_ GW276.out _ | refine keep_far ?_ GW277.out _) | exact HK.out)) (KeepBut.of_below hb g none) (.inl rfl))
           replace HB := zM (below_step (by repeat (first | (with_reducible first | exact HB.out | apply below_alloc | apply pw_below_drewN | apply below_drew1 | refine below_set ?_ (IsS81.ge HI0.out) | refine below_setA ?_ (by assumption)) | exact HB.out)) hb)
           replace HI0 := zM (IsS81.below (by repeat (first | (with_reducible first | exact HI0.out | apply IsS81.alloc | apply IsS81.drewN | apply IsS81.drew | apply IsS81.set_0 | apply IsS81.set_1 | refine IsS81.far ?_ NB0_276.out _ | refine IsS81.far ?_ NB0_277.out _) | exact HI0.out)) hb)
           (try clear hb)
           (try clear hb2)
           (try clear hk)
           (try clear hi)
           (try clear ho0)
           refine hK.out _ _ ⟨(blk_cell BK276.out 0).trans rfl, (blk_cell BK276.out 1).trans rfl⟩ (fun hHeld => ?_)
           clear hK K
           refine norm_ (a' := ?_) ?_ ?_
           rotate_left
           ·show Act.put _ (some 15) _ = _
            simp only [Act.put, zS, z0, z1, i64_w, i32_w]
            rfl
           refine pure_ (i := 3) (N := some 12) (v := ?_) (a' := ?_) #[true, true, true, true, false, false, false, false, false, false] rfl rfl (any_of HT_.out (by kernel_rfl)) (fun _ _ _ h => h) (Or.inl ⟨by rfl, ?_⟩) ?_ ?_
           rotate_left
           ·intro w'
            go_simp
            with_reducible rfl
           rotate_left
           ·simp only [Act.put, zS, z0, z1, i64_w, i32_w]
            rfl
           refine pure_ (i := 4) (N := some 16) (v := ?_) (a' := ?_) #[true, true, true, true, true, false, false, false, false, false] rfl rfl (any_of HT_.out (by kernel_rfl)) (fun _ _ _ h => h) (Or.inl ⟨by rfl, ?_⟩) ?_ ?_
           rotate_left
           ·intro w'
            go_simp
            with_reducible rfl
           rotate_left
           ·simp only [Act.put, zS, z0, z1, i64_w, i32_w]
            rfl
           refine pure_ (i := 5) (N := some 17) (v := ?_) (a' := ?_) #[true, true, true, true, true, true, false, false, false, false] rfl rfl (any_of HT_.out (by kernel_rfl)) (fun _ _ _ h => h) (Or.inl ⟨by rfl, ?_⟩) ?_ ?_
           rotate_left
           ·intro w'
            go_simp
            with_reducible rfl
           rotate_left
           ·simp only [Act.put, zS, z0, z1, i64_w, i32_w]
            rfl
           exact norm_ (by first | (simp only [putAll, Act.put, zS, z0, z1]; done) | (simp only [putAll, Act.put, zS, z0, z1]; rfl)) (hJ1_2 (.slice Ao11 t279.length co11, v284) _ ⟨hHeld, HO281.out, (by (with_reducible repeat (first | apply Kd.V_alloc | apply Kd.V_drewN | apply Kd.V_drew)); exact Kd.V_mono HO285.out (fun _ hk => ⟨hk.1, ⟨hk.2.2.2, ⟨hk.2.1, hk.2.2.1⟩⟩⟩)), BK276.out, BK277.out, (by repeat (first | (with_reducible first | exact HI0.out | apply IsS81.alloc | apply IsS81.drewN | apply IsS81.drew | apply IsS81.set_0 | apply IsS81.set_1 | refine IsS81.far ?_ NB0_276.out _ | refine IsS81.far ?_ NB0_277.out _) | exact HI0.out)), (by repeat (first | (with_reducible first | exact HK.out | apply KeepBut.set_ | apply keep_drewN | apply keep_drew | apply keep_alloc | refine keep_far ?_ GW276.out _ | refine keep_far ?_ GW277.out _) | exact HK.out)), (by repeat (first | (with_reducible first | exact HB.out | apply below_alloc | apply pw_below_drewN | apply below_drew1 | refine below_set ?_ (IsS81.ge HI0.out) | refine below_setA ?_ (by assumption)) | exact HB.out))⟩)
          ·skip
           refine box_step ?hg (N := 5) ?hd (cs := #[.bool false, .slice none 0 0]) (t := 24) ?hr ?_; (case hd => rfl); (case hg => rfl); (case hr => first | (go_simp; done) | (go_simp; rfl))
           intro gb288 hg w11 hbox hb
           have BK288 := zM (hbox)
           have GW288 := zM ((by rw [hg]; exact (keep_size (w := w) (g := g) (row := none) (by repeat (first | (with_reducible first | exact HK.out | apply KeepBut.set_ | apply keep_drewN | apply keep_drew | apply keep_alloc | refine keep_far ?_ GW276.out _ | refine keep_far ?_ GW277.out _) | exact HK.out))) : w.heap.size ≤ gb288))
           have GE288 := zM ((Nat.le_trans HW0.out (by rw [hg]; exact (keep_size (w := w) (g := g) (row := none) (by repeat (first | (with_reducible first | exact HK.out | apply KeepBut.set_ | apply keep_drewN | apply keep_drew | apply keep_alloc | refine keep_far ?_ GW276.out _ | refine keep_far ?_ GW277.out _) | exact HK.out))) : w.heap.size ≤ gb288) : w0.heap.size ≤ gb288))
           have NB276_288 := pzf BK276 hg
           have NB288_276 := pzg BK276 hg
           have NB277_288 := pzf BK277 hg
           have NB288_277 := pzg BK277 hg
           have NB0_288 := zM ((by rw [hg]; exact Nat.ne_of_lt (IsS81.lt (show IsS81 w0 _ g s0_0 s0_1 from by repeat (first | (with_reducible first | exact HI0.out | apply IsS81.alloc | apply IsS81.drewN | apply IsS81.drew | apply IsS81.set_0 | apply IsS81.set_1 | refine IsS81.far ?_ NB0_276.out _ | refine IsS81.far ?_ NB0_277.out _) | exact HI0.out))) : g ≠ gb288))
           have NB288_0 := zM ((by rw [hg]; exact Nat.ne_of_gt (IsS81.lt (show IsS81 w0 _ g s0_0 s0_1 from by repeat (first | (with_reducible first | exact HI0.out | apply IsS81.alloc | apply IsS81.drewN | apply IsS81.drew | apply IsS81.set_0 | apply IsS81.set_1 | refine IsS81.far ?_ NB0_276.out _ | refine IsS81.far ?_ NB0_277.out _) | exact HI0.out))) : gb288 ≠ g))
           replace HO281 := zM (Kd.R_below HO281.out hb)
           replace BK276 := pzb BK276 hb
           replace BK277 := pzb BK277 hb
           replace HK := zM (KeepBut.trans (by repeat (first | (with_reducible first | exact HK.out | apply KeepBut.set_ | apply keep_drewN | apply keep_drew | apply keep_alloc | refine keep_far ?_ GW276.out _ | refine keep_far ?_ GW277.out _) | exact HK.out)) (KeepBut.of_below hb g none) (.inl rfl))
           replace HB := zM (below_step (by repeat (first | (with_reducible first | exact HB.out | apply below_alloc | apply pw_below_drewN | apply below_drew1 | refine below_set ?_ (IsS81.ge HI0.out) | refine below_setA ?_ (by assumption)) | exact HB.out)) hb)
           replace HI0 := zM (IsS81.below (by repeat (first | (with_reducible first | exact HI0.out | apply IsS81.alloc | apply IsS81.drewN | apply IsS81.drew | apply IsS81.set_0 | apply IsS81.set_1 | refine IsS81.far ?_ NB0_276.out _ | refine IsS81.far ?_ NB0_277.out _) | exact HI0.out)) hb)
           clear hb hbox hg
           refine hK.out _ _ ⟨(blk_cell BK276.out 0).trans rfl, (blk_cell BK276.out 1).trans rfl⟩ (fun hHeld => ?_)
           clear hK K
           refine norm_ (a' := ?_) ?_ ?_
           rotate_left
           ·show Act.put _ (some 5) _ = _
            simp only [Act.put, zS, z0, z1, i64_w, i32_w]
            rfl
           exact norm_ (by first | (simp only [putAll, Act.put, zS, z0, z1]; done) | (simp only [putAll, Act.put, zS, z0, z1]; rfl)) (hJ1_6 (_, gb288) _ ⟨hHeld, HO281.out, BK276.out, BK277.out, BK288.out, GW288.out, GE288.out, NB0_288.out, NB288_0.out, NB276_288.out, NB288_276.out, NB277_288.out, NB288_277.out, (by repeat (first | (with_reducible first | exact HI0.out | apply IsS81.alloc | apply IsS81.drewN | apply IsS81.drew | apply IsS81.set_0 | apply IsS81.set_1 | refine IsS81.far ?_ NB0_276.out _ | refine IsS81.far ?_ NB0_277.out _ | refine IsS81.far ?_ NB0_288.out _) | exact HI0.out)), (by repeat (first | (with_reducible first | exact HK.out | apply KeepBut.set_ | apply keep_drewN | apply keep_drew | apply keep_alloc | refine keep_far ?_ GW276.out _ | refine keep_far ?_ GW277.out _ | refine keep_far ?_ GW288.out _) | exact HK.out)), (by repeat (first | (with_reducible first | exact HB.out | apply below_alloc | apply pw_below_drewN | apply below_drew1 | refine below_set ?_ (IsS81.ge HI0.out) | refine below_setA ?_ (by assumption)) | exact HB.out))⟩)
          ·skip
           refine box_step ?hg (N := 6) ?hd (cs := #[.int .i64 0, .int .i64 0]) (t := 29) ?hr ?_; (case hd => rfl); (case hg => rfl); (case hr => first | (go_simp; done) | (go_simp; rfl))
           intro gb289 hg w11 hbox hb
           have BK289 := zM (hbox)
           have GW289 := zM ((by rw [hg]; exact (keep_size (w := w) (g := g) (row := none) (by repeat (first | (with_reducible first | exact HK.out | apply KeepBut.set_ | apply keep_drewN | apply keep_drew | apply keep_alloc | refine keep_far ?_ GW276.out _ | refine keep_far ?_ GW277.out _) | exact HK.out))) : w.heap.size ≤ gb289))
           have GE289 := zM ((Nat.le_trans HW0.out (by rw [hg]; exact (keep_size (w := w) (g := g) (row := none) (by repeat (first | (with_reducible first | exact HK.out | apply KeepBut.set_ | apply keep_drewN | apply keep_drew | apply keep_alloc | refine keep_far ?_ GW276.out _ | refine keep_far ?_ GW277.out _) | exact HK.out))) : w.heap.size ≤ gb289) : w0.heap.size ≤ gb289))
           have NB276_289 := pzf BK276 hg
           have NB289_276 := pzg BK276 hg
           have NB277_289 := pzf BK277 hg
           have NB289_277 := pzg BK277 hg
           have NB0_289 := zM ((by rw [hg]; exact Nat.ne_of_lt (IsS81.lt (show IsS81 w0 _ g s0_0 s0_1 from by repeat (first | (with_reducible first | exact HI0.out | apply IsS81.alloc | apply IsS81.drewN | apply IsS81.drew | apply IsS81.set_0 | apply IsS81.set_1 | refine IsS81.far ?_ NB0_276.out _ | refine IsS81.far ?_ NB0_277.out _) | exact HI0.out))) : g ≠ gb289))
           have NB289_0 := zM ((by rw [hg]; exact Nat.ne_of_gt (IsS81.lt (show IsS81 w0 _ g s0_0 s0_1 from by repeat (first | (with_reducible first | exact HI0.out | apply IsS81.alloc | apply IsS81.drewN | apply IsS81.drew | apply IsS81.set_0 | apply IsS81.set_1 | refine IsS81.far ?_ NB0_276.out _ | refine IsS81.far ?_ NB0_277.out _) | exact HI0.out))) : gb289 ≠ g))
           replace HO281 := zM (Kd.R_below HO281.out hb)
           replace BK276 := pzb BK276 hb
           replace BK277 := pzb BK277 hb
           replace HK := zM (KeepBut.trans (by repeat (first | (with_reducible first | exact HK.out | apply KeepBut.set_ | apply keep_drewN | apply keep_drew | apply keep_alloc | refine keep_far ?_ GW276.out _ | refine keep_far ?_ GW277.out _) | exact HK.out)) (KeepBut.of_below hb g none) (.inl rfl))
           replace HB := zM (below_step (by repeat (first | (with_reducible first | exact HB.out | apply below_alloc | apply pw_below_drewN | apply below_drew1 | refine below_set ?_ (IsS81.ge HI0.out) | refine below_setA ?_ (by assumption)) | exact HB.out)) hb)
           replace HI0 := zM (IsS81.below (by repeat (first | (with_reducible first | exact HI0.out | apply IsS81.alloc | apply IsS81.drewN | apply IsS81.drew | apply IsS81.set_0 | apply IsS81.set_1 | refine IsS81.far ?_ NB0_276.out _ | refine IsS81.far ?_ NB0_277.out _) | exact HI0.out)) hb)
           clear hb hbox hg
           refine hK.out _ _ ⟨(blk_cell BK276.out 0).trans rfl, (blk_cell BK276.out 1).trans rfl⟩ (fun hHeld => ?_)
           clear hK K
           refine norm_ (a' := ?_) ?_ ?_
           rotate_left
           ·show Act.put _ (some 6) _ = _
            simp only [Act.put, zS, z0, z1, i64_w, i32_w]
            rfl
           exact norm_ (by first | (simp only [putAll, Act.put, zS, z0, z1]; done) | (simp only [putAll, Act.put, zS, z0, z1]; rfl)) (hJ1_7 (_, gb289) _ ⟨hHeld, HO281.out, BK276.out, BK277.out, BK289.out, GW289.out, GE289.out, NB0_289.out, NB289_0.out, NB276_289.out, NB289_276.out, NB277_289.out, NB289_277.out, (by repeat (first | (with_reducible first | exact HI0.out | apply IsS81.alloc | apply IsS81.drewN | apply IsS81.drew | apply IsS81.set_0 | apply IsS81.set_1 | refine IsS81.far ?_ NB0_276.out _ | refine IsS81.far ?_ NB0_277.out _ | refine IsS81.far ?_ NB0_289.out _) | exact HI0.out)), (by repeat (first | (with_reducible first | exact HK.out | apply KeepBut.set_ | apply keep_drewN | apply keep_drew | apply keep_alloc | refine keep_far ?_ GW276.out _ | refine keep_far ?_ GW277.out _ | refine keep_far ?_ GW289.out _) | exact HK.out)), (by repeat (first | (with_reducible first | exact HB.out | apply below_alloc | apply pw_below_drewN | apply below_drew1 | refine below_set ?_ (IsS81.ge HI0.out) | refine below_setA ?_ (by assumption)) | exact HB.out))⟩)
        ·skip
         rintro ⟨gb288, gb289⟩ w11 ⟨hS_, h0_, h1_, h2_, h3_, h4_, h5_, h6_, h7_, h8_, h9_, h10_, h11_, h12_, h13_, h14_, h15_, h16_, h17_, h18_, h19_, h20_, h21_, h22_, h23_, h24_⟩
         have n0_ : Aside0 (w11.heap[gb276]? = some (.cells #[.bool a1_0, .slice A1_1 l1_1.length c1_1] 24 (0, 0))) := ⟨h0_⟩
         have n1_ : Aside0 (w11.heap[gb277]? = some (.cells #[.bool false, .slice none 0 0] 24 (0, 0))) := ⟨h1_⟩
         have n2_ : Aside0 (w11.heap[gb288]? = some (.cells #[.bool false, .slice none 0 0] 24 (0, 0))) := ⟨h2_⟩
         have n3_ : Aside0 (w11.heap[gb289]? = some (.cells #[.int .i64 0, .int .i64 0] 29 (0, 0))) := ⟨h3_⟩
         have n4_ : Aside0 (w.heap.size ≤ gb288) := ⟨h4_⟩
         have n5_ : Aside0 (w0.heap.size ≤ gb288) := ⟨h5_⟩
         have n6_ : Aside0 (g ≠ gb288) := ⟨h6_⟩
         have n7_ : Aside0 (gb288 ≠ g) := ⟨h7_⟩
         have n8_ : Aside0 (gb276 ≠ gb288) := ⟨h8_⟩
         have n9_ : Aside0 (gb288 ≠ gb276) := ⟨h9_⟩
         have n10_ : Aside0 (gb277 ≠ gb288) := ⟨h10_⟩
         have n11_ : Aside0 (gb288 ≠ gb277) := ⟨h11_⟩
         have n12_ : Aside0 (gb289 ≠ gb288) := ⟨h12_⟩
         have n13_ : Aside0 (gb288 ≠ gb289) := ⟨h13_⟩
         have n14_ : Aside0 (w.heap.size ≤ gb289) := ⟨h14_⟩
         have n15_ : Aside0 (w0.heap.size ≤ gb289) := ⟨h15_⟩
         have n16_ : Aside0 (g ≠ gb289) := ⟨h16_⟩
         have n17_ : Aside0 (gb289 ≠ g) := ⟨h17_⟩
         have n18_ : Aside0 (gb276 ≠ gb289) := ⟨h18_⟩
         have n19_ : Aside0 (gb289 ≠ gb276) := ⟨h19_⟩
         have n20_ : Aside0 (gb277 ≠ gb289) := ⟨h20_⟩
         have n21_ : Aside0 (gb289 ≠ gb277) := ⟨h21_⟩
         have n22_ : Aside0 (IsS81 w0 w11 g s0_0 s0_1) := ⟨h22_⟩
         have n23_ : Aside0 (KeepBut w w11 g none) := ⟨h23_⟩
         have n24_ : Aside0 (Below w0.heap.size w0 w11) := ⟨h24_⟩
         clear BK276
         clear BK277
         clear HI0
         clear HK
         clear HB
         clear h0_ h1_ h2_ h3_ h4_ h5_ h6_ h7_ h8_ h9_ h10_ h11_ h12_ h13_ h14_ h15_ h16_ h17_ h18_ h19_ h20_ h21_ h22_ h23_ h24_
         have BK276 := n0_
         have BK277 := n1_
         have BK288 := n2_
         have BK289 := n3_
         have GW288 := n4_
         have GE288 := n5_
         have NB0_288 := n6_
         have NB288_0 := n7_
         have NB276_288 := n8_
         have NB288_276 := n9_
         have NB277_288 := n10_
         have NB288_277 := n11_
         have NB289_288 := n12_
         have NB288_289 := n13_
         have GW289 := n14_
         have GE289 := n15_
         have NB0_289 := n16_
         have NB289_0 := n17_
         have NB276_289 := n18_
         have NB289_276 := n19_
         have NB277_289 := n20_
         have NB289_277 := n21_
         have HI0 := n22_
         have HK := n23_
         have HB := n24_
         clear n0_ n1_ n2_ n3_ n4_ n5_ n6_ n7_ n8_ n9_ n10_ n11_ n12_ n13_ n14_ n15_ n16_ n17_ n18_ n19_ n20_ n21_ n22_ n23_ n24_
         have hHeld : w11.cell? ⟨gb276, 0, none⟩ = some (.bool a1_0) ∧ w11.cell? ⟨gb276, 1, none⟩ = some (.slice A1_1 l1_1.length c1_1) := hS_
         refine norm_ (a' := ?_) ?_ ?_
         rotate_left
         ·simp only [putAll, Act.put, zS, z0, z1]
          rfl
         refine one_ (i := 1) (N := some 14) #[true, true, false, false, false, false, true, true, false, false] rfl rfl (one_of HT_.out (by kernel_rfl)) (by decide) (fun K hK => ?_)
         refine goes_ Try.func47 (by kernel_rfl) rfl #[.int .i64 1] (by rfl) rfl rfl (by (try simp only [zT, zC, zN]); first | done | rfl | (simp only [zR, zL]; rfl)) ?_
         with_reducible refine (integer_Of.calls k 1 t278 t279 _ A3.out).mono ?_
         rintro e w12 ⟨v280, rfl, ho0, hb⟩
         refine ⟨_, rfl, ?_⟩
         have HO281 := zM (Kd.R_lower ho0 (keep_size (w := w) (g := g) (row := none) (by repeat (first | (with_reducible first | exact HK.out | apply KeepBut.set_ | apply keep_drewN | apply keep_drew | apply keep_alloc | refine keep_far ?_ GW276.out _ | refine keep_far ?_ GW277.out _ | refine keep_far ?_ GW288.out _ | refine keep_far ?_ GW289.out _) | exact HK.out))))
         replace BK276 := pzb BK276 hb
         replace BK277 := pzb BK277 hb
         replace BK288 := pzb BK288 hb
         replace BK289 := pzb BK289 hb
         replace HK := zM (KeepBut.trans (by repeat (first | (with_reducible first | exact HK.out | apply KeepBut.set_ | apply keep_drewN | apply keep_drew | apply keep_alloc | refine keep_far ?_ GW276.out _ | refine keep_far ?_ GW277.out _ | refine keep_far ?_ GW288.out _ | refine keep_far ?_ GW289.out _) | exact HK.out)) (KeepBut.of_below hb g none) (.inl rfl))
         replace HB := zM (below_step (by repeat (first | (with_reducible first | exact HB.out | apply below_alloc | apply pw_below_drewN | apply below_drew1 | refine below_set ?_ (IsS81.ge HI0.out) | refine below_setA ?_ (by assumption)) | exact HB.out)) hb)
         replace HI0 := zM (IsS81.below (by repeat (first | (with_reducible first | exact HI0.out | apply IsS81.alloc | apply IsS81.drewN | apply IsS81.drew | apply IsS81.set_0 | apply IsS81.set_1 | refine IsS81.far ?_ NB0_276.out _ | refine IsS81.far ?_ NB0_277.out _ | refine IsS81.far ?_ NB0_288.out _ | refine IsS81.far ?_ NB0_289.out _) | exact HI0.out)) hb)
         (try clear hb)
         (try clear hb2)
         (try clear hk)
         (try clear hi)
         (try clear ho0)
         refine hK.out _ _ ⟨(blk_cell BK276.out 0).trans rfl, (blk_cell BK276.out 1).trans rfl⟩ (fun hHeld => ?_)
         clear hK K
         refine norm_ (a' := ?_) ?_ ?_
         rotate_left
         ·show Act.put _ (some 14) _ = _
          simp only [Act.put, zS, z0, z1, i64_w, i32_w]
          rfl
         exact norm_ (by first | (simp only [putAll, Act.put, zS, z0, z1]; done) | (simp only [putAll, Act.put, zS, z0, z1]; rfl)) (hJ1_6_7 (_, gb288, gb289) _ ⟨hHeld, HO281.out, BK276.out, BK277.out, BK288.out, BK289.out, GW288.out, GE288.out, NB0_288.out, NB288_0.out, NB276_288.out, NB288_276.out, NB277_288.out, NB288_277.out, NB289_288.out, NB288_289.out, GW289.out, GE289.out, NB0_289.out, NB289_0.out, NB276_289.out, NB289_276.out, NB277_289.out, NB289_277.out, (by repeat (first | (with_reducible first | exact HI0.out | apply IsS81.alloc | apply IsS81.drewN | apply IsS81.drew | apply IsS81.set_0 | apply IsS81.set_1 | refine IsS81.far ?_ NB0_276.out _ | refine IsS81.far ?_ NB0_277.out _ | refine IsS81.far ?_ NB0_288.out _ | refine IsS81.far ?_ NB0_289.out _) | exact HI0.out)), (by repeat (first | (with_reducible first | exact HK.out | apply KeepBut.set_ | apply keep_drewN | apply keep_drew | apply keep_alloc | refine keep_far ?_ GW276.out _ | refine keep_far ?_ GW277.out _ | refine keep_far ?_ GW288.out _ | refine keep_far ?_ GW289.out _) | exact HK.out)), (by repeat (first | (with_reducible first | exact HB.out | apply below_alloc | apply pw_below_drewN | apply below_drew1 | refine below_set ?_ (IsS81.ge HI0.out) | refine below_setA ?_ (by assumption)) | exact HB.out))⟩)
       ·skip
        rintro ⟨v280, gb289⟩ w11 ⟨hS_, h0_, h1_, h2_, h3_, h4_, h5_, h6_, h7_, h8_, h9_, h10_, h11_, h12_, h13_, h14_⟩
        have n0_ : Aside0 (Kd.R (Kd.int .u32) 76 w11 w.heap.size (fun _ => True) v280 t279) := ⟨h0_⟩
        have n1_ : Aside0 (w11.heap[gb276]? = some (.cells #[.bool a1_0, .slice A1_1 l1_1.length c1_1] 24 (0, 0))) := ⟨h1_⟩
        have n2_ : Aside0 (w11.heap[gb277]? = some (.cells #[.bool false, .slice none 0 0] 24 (0, 0))) := ⟨h2_⟩
        have n3_ : Aside0 (w11.heap[gb289]? = some (.cells #[.int .i64 0, .int .i64 0] 29 (0, 0))) := ⟨h3_⟩
        have n4_ : Aside0 (w.heap.size ≤ gb289) := ⟨h4_⟩
        have n5_ : Aside0 (w0.heap.size ≤ gb289) := ⟨h5_⟩
        have n6_ : Aside0 (g ≠ gb289) := ⟨h6_⟩
        have n7_ : Aside0 (gb289 ≠ g) := ⟨h7_⟩
        have n8_ : Aside0 (gb276 ≠ gb289) := ⟨h8_⟩
        have n9_ : Aside0 (gb289 ≠ gb276) := ⟨h9_⟩
        have n10_ : Aside0 (gb277 ≠ gb289) := ⟨h10_⟩
        have n11_ : Aside0 (gb289 ≠ gb277) := ⟨h11_⟩
        have n12_ : Aside0 (IsS81 w0 w11 g s0_0 s0_1) := ⟨h12_⟩
        have n13_ : Aside0 (KeepBut w w11 g none) := ⟨h13_⟩
        have n14_ : Aside0 (Below w0.heap.size w0 w11) := ⟨h14_⟩
        clear BK276
        clear BK277
        clear HI0
        clear HK
        clear HB
        clear h0_ h1_ h2_ h3_ h4_ h5_ h6_ h7_ h8_ h9_ h10_ h11_ h12_ h13_ h14_
        have HO281 := n0_
        have BK276 := n1_
        have BK277 := n2_
        have BK289 := n3_
        have GW289 := n4_
        have GE289 := n5_
        have NB0_289 := n6_
        have NB289_0 := n7_
        have NB276_289 := n8_
        have NB289_276 := n9_
        have NB277_289 := n10_
        have NB289_277 := n11_
        have HI0 := n12_
        have HK := n13_
        have HB := n14_
        clear n0_ n1_ n2_ n3_ n4_ n5_ n6_ n7_ n8_ n9_ n10_ n11_ n12_ n13_ n14_
        have hHeld : w11.cell? ⟨gb276, 0, none⟩ = some (.bool a1_0) ∧ w11.cell? ⟨gb276, 1, none⟩ = some (.slice A1_1 l1_1.length c1_1) := hS_
        obtain ⟨Ao12, co12, eo12⟩ := Kd.R_slice HO281.out
        (first | subst eo12 | (injection eo12 with f1_ f2_ f3_; have f4_ := f1_.symm; have f5_ := f3_.symm; clear f1_ f2_ f3_; subst f4_; subst f5_))
        refine norm_ (a' := ?_) ?_ ?_
        rotate_left
        ·simp only [putAll, Act.put, zS, z0, z1]
         rfl
        refine two_ (i := 2) (j := 6) (Ni := some 15) (Nj := some 5) #[true, true, true, false, false, false, false, true, false, false] #[true, true, false, false, false, false, true, true, false, false] rfl rfl rfl rfl (two_of HT_.out (by kernel_rfl)) (by decide) (by decide) (fun K hK => ?_) (fun K hK => ?_)
        ·skip
         refine goes_ Try.func45 (by kernel_rfl) rfl #[.agg #[.bool a1_0, .slice A1_1 l1_1.length c1_1], .agg #[.bool t278, .slice Ao12 t279.length co12]] (by rfl) rfl rfl (by (try simp only [zT, zC, zN]); first | done | rfl | (simp only [zR, zL]; rfl)) ?_
         with_reducible refine (integer_Sub.calls k a1_0 _ _ l1_1 t278 _ _ t279 t282 t283 t286 t287 _ ?side1 ?side2 ?side3 ?side4 A4.out).mono ?_
         (case side1 => exact Kd.C_keep 0 HR1_1.out (by repeat (first | (with_reducible first | exact HK.out | apply KeepBut.set_ | apply keep_drewN | apply keep_drew | apply keep_alloc | refine keep_far ?_ GW276.out _ | refine keep_far ?_ GW277.out _ | refine keep_far ?_ GW289.out _) | exact HK.out)) hf1_1)
         (case side2 => exact HC1_1.out)
         (case side3 => repeat (first | exact (Kd.R_reads' HO281.out).2.2 | (with_reducible refine Kd.C_alloc ?_ _) | (with_reducible refine Kd.C_drewN ?_ _) | (with_reducible refine Kd.C_drew ?_)))
         (case side4 => exact (Kd.R_reads' HO281.out).2.1)
         rintro e w13 ⟨v284, rfl, ho0, hb⟩
         refine ⟨_, rfl, ?_⟩
         have HO285 := zM (Kd.V_lower (Kd.V_mono (ok' := fun k_ => some k_ ≠ (.slice Ao12 t279.length co12 : Value).ownBlock ∧ k_ ≠ gb276 ∧ k_ ≠ gb277 ∧ k_ ≠ gb289 ∧ k_ ≠ g) ho0 (fun k_ hk_ => ⟨(Kd.fresh' (Kd.R_lt HO281.out) k_ hk_), (Kd.freshB (g := gb276) (o := .cells #[.bool a1_0, .slice A1_1 l1_1.length c1_1] 24 (0, 0)) BK276.out k_ hk_), (Kd.freshB (g := gb277) (o := .cells #[.bool false, .slice none 0 0] 24 (0, 0)) BK277.out k_ hk_), (Kd.freshB (g := gb289) (o := .cells #[.int .i64 0, .int .i64 0] 29 (0, 0)) BK289.out k_ hk_), (IsS81.fresh (by repeat (first | (with_reducible first | exact HI0.out | apply IsS81.alloc | apply IsS81.drewN | apply IsS81.drew | apply IsS81.set_0 | apply IsS81.set_1 | refine IsS81.far ?_ NB0_276.out _ | refine IsS81.far ?_ NB0_277.out _ | refine IsS81.far ?_ NB0_289.out _) | exact HI0.out)) k_ hk_)⟩)) (keep_size (w := w) (g := g) (row := none) (by repeat (first | (with_reducible first | exact HK.out | apply KeepBut.set_ | apply keep_drewN | apply keep_drew | apply keep_alloc | refine keep_far ?_ GW276.out _ | refine keep_far ?_ GW277.out _ | refine keep_far ?_ GW289.out _) | exact HK.out))))
         replace HO281 := zM (Kd.R_below HO281.out hb)
         replace BK276 := pzb BK276 hb
         replace BK277 := pzb BK277 hb
         replace BK289 := pzb BK289 hb
         replace HK := zM (KeepBut.trans (by repeat (first | (with_reducible first | exact HK.out | apply KeepBut.set_ | apply keep_drewN | apply keep_drew | apply keep_alloc | refine keep_far ?_ GW276.out _ | refine keep_far ?_ GW277.out _ | refine keep_far ?_ GW289.out _) | exact HK.out)) (KeepBut.of_below hb g none) (.inl rfl))
         replace HB := zM (below_step (by repeat (first | (with_reducible first | exact HB.out | apply below_alloc | apply pw_below_drewN | apply below_drew1 | refine below_set ?_ (IsS81.ge HI0.out) | refine below_setA ?_ (by assumption)) | exact HB.out)) hb)
         replace HI0 := zM (IsS81.below (by repeat (first | (with_reducible first | exact HI0.out | apply IsS81.alloc | apply IsS81.drewN | apply IsS81.drew | apply IsS81.set_0 | apply IsS81.set_1 | refine IsS81.far ?_ NB0_276.out _ | refine IsS81.far ?_ NB0_277.out _ | refine IsS81.far ?_ NB0_289.out _) | exact HI0.out)) hb)
         (try clear hb)
         (try clear hb2)
         (try clear hk)
         (try clear hi)
         (try clear ho0)
         refine hK.out _ _ ⟨(blk_cell BK276.out 0).trans rfl, (blk_cell BK276.out 1).trans rfl⟩ (fun hHeld => ?_)
         clear hK K
         refine norm_ (a' := ?_) ?_ ?_
         rotate_left
         ·show Act.put _ (some 15) _ = _
          simp only [Act.put, zS, z0, z1, i64_w, i32_w]
          rfl
         refine pure_ (i := 3) (N := some 12) (v := ?_) (a' := ?_) #[true, true, true, true, false, false, false, true, false, false] rfl rfl (any_of HT_.out (by kernel_rfl)) (fun _ _ _ h => h) (Or.inl ⟨by rfl, ?_⟩) ?_ ?_
         rotate_left
         ·intro w'
          go_simp
          with_reducible rfl
         rotate_left
         ·simp only [Act.put, zS, z0, z1, i64_w, i32_w]
          rfl
         refine pure_ (i := 4) (N := some 16) (v := ?_) (a' := ?_) #[true, true, true, true, true, false, false, true, false, false] rfl rfl (any_of HT_.out (by kernel_rfl)) (fun _ _ _ h => h) (Or.inl ⟨by rfl, ?_⟩) ?_ ?_
         rotate_left
         ·intro w'
          go_simp
          with_reducible rfl
         rotate_left
         ·simp only [Act.put, zS, z0, z1, i64_w, i32_w]
          rfl
         refine pure_ (i := 5) (N := some 17) (v := ?_) (a' := ?_) #[true, true, true, true, true, true, false, true, false, false] rfl rfl (any_of HT_.out (by kernel_rfl)) (fun _ _ _ h => h) (Or.inl ⟨by rfl, ?_⟩) ?_ ?_
         rotate_left
         ·intro w'
          go_simp
          with_reducible rfl
         rotate_left
         ·simp only [Act.put, zS, z0, z1, i64_w, i32_w]
          rfl
         exact norm_ (by first | (simp only [putAll, Act.put, zS, z0, z1]; done) | (simp only [putAll, Act.put, zS, z0, z1]; rfl)) (hJ1_2_7 (.slice Ao12 t279.length co12, v284, gb289) _ ⟨hHeld, HO281.out, (by (with_reducible repeat (first | apply Kd.V_alloc | apply Kd.V_drewN | apply Kd.V_drew)); exact Kd.V_mono HO285.out (fun _ hk => ⟨hk.1, ⟨hk.2.2.2.2, ⟨hk.2.1, ⟨hk.2.2.1, hk.2.2.2.1⟩⟩⟩⟩)), BK276.out, BK277.out, BK289.out, GW289.out, GE289.out, NB0_289.out, NB289_0.out, NB276_289.out, NB289_276.out, NB277_289.out, NB289_277.out, (by repeat (first | (with_reducible first | exact HI0.out | apply IsS81.alloc | apply IsS81.drewN | apply IsS81.drew | apply IsS81.set_0 | apply IsS81.set_1 | refine IsS81.far ?_ NB0_276.out _ | refine IsS81.far ?_ NB0_277.out _ | refine IsS81.far ?_ NB0_289.out _) | exact HI0.out)), (by repeat (first | (with_reducible first | exact HK.out | apply KeepBut.set_ | apply keep_drewN | apply keep_drew | apply keep_alloc | refine keep_far ?_ GW276.out _ | refine keep_far ?_ GW277.out _ | refine keep_far ?_ GW289.out _) | exact HK.out)), (by repeat (first | (with_reducible first | exact HB.out | apply below_alloc | apply pw_below_drewN | apply below_drew1 | refine below_set ?_ (IsS81.ge HI0.out) | refine below_setA ?_ (by assumption)) | exact HB.out))⟩)
        ·skip
         refine box_step ?hg (N := 5) ?hd (cs := #[.bool false, .slice none 0 0]) (t := 24) ?hr ?_; (case hd => rfl); (case hg => rfl); (case hr => first | (go_simp; done) | (go_simp; rfl))
         intro gb288 hg w12 hbox hb
         have BK288 := zM (hbox)
         have GW288 := zM ((by rw [hg]; exact (keep_size (w := w) (g := g) (row := none) (by repeat (first | (with_reducible first | exact HK.out | apply KeepBut.set_ | apply keep_drewN | apply keep_drew | apply keep_alloc | refine keep_far ?_ GW276.out _ | refine keep_far ?_ GW277.out _ | refine keep_far ?_ GW289.out _) | exact HK.out))) : w.heap.size ≤ gb288))
         have GE288 := zM ((Nat.le_trans HW0.out (by rw [hg]; exact (keep_size (w := w) (g := g) (row := none) (by repeat (first | (with_reducible first | exact HK.out | apply KeepBut.set_ | apply keep_drewN | apply keep_drew | apply keep_alloc | refine keep_far ?_ GW276.out _ | refine keep_far ?_ GW277.out _ | refine keep_far ?_ GW289.out _) | exact HK.out))) : w.heap.size ≤ gb288) : w0.heap.size ≤ gb288))
         have NB276_288 := pzf BK276 hg
         have NB288_276 := pzg BK276 hg
         have NB277_288 := pzf BK277 hg
         have NB288_277 := pzg BK277 hg
         have NB289_288 := pzf BK289 hg
         have NB288_289 := pzg BK289 hg
         have NB0_288 := zM ((by rw [hg]; exact Nat.ne_of_lt (IsS81.lt (show IsS81 w0 _ g s0_0 s0_1 from by repeat (first | (with_reducible first | exact HI0.out | apply IsS81.alloc | apply IsS81.drewN | apply IsS81.drew | apply IsS81.set_0 | apply IsS81.set_1 | refine IsS81.far ?_ NB0_276.out _ | refine IsS81.far ?_ NB0_277.out _ | refine IsS81.far ?_ NB0_289.out _) | exact HI0.out))) : g ≠ gb288))
         have NB288_0 := zM ((by rw [hg]; exact Nat.ne_of_gt (IsS81.lt (show IsS81 w0 _ g s0_0 s0_1 from by repeat (first | (with_reducible first | exact HI0.out | apply IsS81.alloc | apply IsS81.drewN | apply IsS81.drew | apply IsS81.set_0 | apply IsS81.set_1 | refine IsS81.far ?_ NB0_276.out _ | refine IsS81.far ?_ NB0_277.out _ | refine IsS81.far ?_ NB0_289.out _) | exact HI0.out))) : gb288 ≠ g))
         replace HO281 := zM (Kd.R_below HO281.out hb)
         replace BK276 := pzb BK276 hb
         replace BK277 := pzb BK277 hb
         replace BK289 := pzb BK289 hb
         replace HK := zM (KeepBut.trans (by repeat (first | (with_reducible first | exact HK.out | apply KeepBut.set_ | apply keep_drewN | apply keep_drew | apply keep_alloc | refine keep_far ?_ GW276.out _ | refine keep_far ?_ GW277.out _ | refine keep_far ?_ GW289.out _) | exact HK.out)) (KeepBut.of_below hb g none) (.inl rfl))
         replace HB := zM (below_step (by repeat (first | (with_reducible first | exact HB.out | apply below_alloc | apply pw_below_drewN | apply below_drew1 | refine below_set ?_ (IsS81.ge HI0.out) | refine below_setA ?_ (by assumption)) | exact HB.out)) hb)
         replace HI0 := zM (IsS81.below (by repeat (first | (with_reducible first | exact HI0.out | apply IsS81.alloc | apply IsS81.drewN | apply IsS81.drew | apply IsS81.set_0 | apply IsS81.set_1 | refine IsS81.far ?_ NB0_276.out _ | refine IsS81.far ?_ NB0_277.out _ | refine IsS81.far ?_ NB0_289.out _) | exact HI0.out)) hb)
         clear hb hbox hg
         refine hK.out _ _ ⟨(blk_cell BK276.out 0).trans rfl, (blk_cell BK276.out 1).trans rfl⟩ (fun hHeld => ?_)
         clear hK K
         refine norm_ (a' := ?_) ?_ ?_
         rotate_left
         ·show Act.put _ (some 5) _ = _
          simp only [Act.put, zS, z0, z1, i64_w, i32_w]
          rfl
         exact norm_ (by first | (simp only [putAll, Act.put, zS, z0, z1]; done) | (simp only [putAll, Act.put, zS, z0, z1]; rfl)) (hJ1_6_7 (_, gb288, gb289) _ ⟨hHeld, HO281.out, BK276.out, BK277.out, BK288.out, BK289.out, GW288.out, GE288.out, NB0_288.out, NB288_0.out, NB276_288.out, NB288_276.out, NB277_288.out, NB288_277.out, NB289_288.out, NB288_289.out, GW289.out, GE289.out, NB0_289.out, NB289_0.out, NB276_289.out, NB289_276.out, NB277_289.out, NB289_277.out, (by repeat (first | (with_reducible first | exact HI0.out | apply IsS81.alloc | apply IsS81.drewN | apply IsS81.drew | apply IsS81.set_0 | apply IsS81.set_1 | refine IsS81.far ?_ NB0_276.out _ | refine IsS81.far ?_ NB0_277.out _ | refine IsS81.far ?_ NB0_289.out _ | refine IsS81.far ?_ NB0_288.out _) | exact HI0.out)), (by repeat (first | (with_reducible first | exact HK.out | apply KeepBut.set_ | apply keep_drewN | apply keep_drew | apply keep_alloc | refine keep_far ?_ GW276.out _ | refine keep_far ?_ GW277.out _ | refine keep_far ?_ GW289.out _ | refine keep_far ?_ GW288.out _) | exact HK.out)), (by repeat (first | (with_reducible first | exact HB.out | apply below_alloc | apply pw_below_drewN | apply below_drew1 | refine below_set ?_ (IsS81.ge HI0.out) | refine below_setA ?_ (by assumption)) | exact HB.out))⟩)
      ·skip
       rintro ⟨v280, gb288⟩ w11 ⟨hS_, h0_, h1_, h2_, h3_, h4_, h5_, h6_, h7_, h8_, h9_, h10_, h11_, h12_, h13_, h14_⟩
       have n0_ : Aside0 (Kd.R (Kd.int .u32) 76 w11 w.heap.size (fun _ => True) v280 t279) := ⟨h0_⟩
       have n1_ : Aside0 (w11.heap[gb276]? = some (.cells #[.bool a1_0, .slice A1_1 l1_1.length c1_1] 24 (0, 0))) := ⟨h1_⟩
       have n2_ : Aside0 (w11.heap[gb277]? = some (.cells #[.bool false, .slice none 0 0] 24 (0, 0))) := ⟨h2_⟩
       have n3_ : Aside0 (w11.heap[gb288]? = some (.cells #[.bool false, .slice none 0 0] 24 (0, 0))) := ⟨h3_⟩
       have n4_ : Aside0 (w.heap.size ≤ gb288) := ⟨h4_⟩
       have n5_ : Aside0 (w0.heap.size ≤ gb288) := ⟨h5_⟩
       have n6_ : Aside0 (g ≠ gb288) := ⟨h6_⟩
       have n7_ : Aside0 (gb288 ≠ g) := ⟨h7_⟩
       have n8_ : Aside0 (gb276 ≠ gb288) := ⟨h8_⟩
       have n9_ : Aside0 (gb288 ≠ gb276) := ⟨h9_⟩
       have n10_ : Aside0 (gb277 ≠ gb288) := ⟨h10_⟩
       have n11_ : Aside0 (gb288 ≠ gb277) := ⟨h11_⟩
       have n12_ : Aside0 (IsS81 w0 w11 g s0_0 s0_1) := ⟨h12_⟩
       have n13_ : Aside0 (KeepBut w w11 g none) := ⟨h13_⟩
       have n14_ : Aside0 (Below w0.heap.size w0 w11) := ⟨h14_⟩
       clear BK276
       clear BK277
       clear HI0
       clear HK
       clear HB
       clear h0_ h1_ h2_ h3_ h4_ h5_ h6_ h7_ h8_ h9_ h10_ h11_ h12_ h13_ h14_
       have HO281 := n0_
       have BK276 := n1_
       have BK277 := n2_
       have BK288 := n3_
       have GW288 := n4_
       have GE288 := n5_
       have NB0_288 := n6_
       have NB288_0 := n7_
       have NB276_288 := n8_
       have NB288_276 := n9_
       have NB277_288 := n10_
       have NB288_277 := n11_
       have HI0 := n12_
       have HK := n13_
       have HB := n14_
       clear n0_ n1_ n2_ n3_ n4_ n5_ n6_ n7_ n8_ n9_ n10_ n11_ n12_ n13_ n14_
       have hHeld : w11.cell? ⟨gb276, 0, none⟩ = some (.bool a1_0) ∧ w11.cell? ⟨gb276, 1, none⟩ = some (.slice A1_1 l1_1.length c1_1) := hS_
       obtain ⟨Ao12, co12, eo12⟩ := Kd.R_slice HO281.out
       (first | subst eo12 | (injection eo12 with f1_ f2_ f3_; have f4_ := f1_.symm; have f5_ := f3_.symm; clear f1_ f2_ f3_; subst f4_; subst f5_))
       refine norm_ (a' := ?_) ?_ ?_
       rotate_left
       ·simp only [putAll, Act.put, zS, z0, z1]
        rfl
       refine two_ (i := 2) (j := 7) (Ni := some 15) (Nj := some 6) #[true, true, true, false, false, false, true, false, false, false] #[true, true, false, false, false, false, true, true, false, false] rfl rfl rfl rfl (two_of HT_.out (by kernel_rfl)) (by decide) (by decide) (fun K hK => ?_) (fun K hK => ?_)
       ·skip
        refine goes_ Try.func45 (by kernel_rfl) rfl #[.agg #[.bool a1_0, .slice A1_1 l1_1.length c1_1], .agg #[.bool t278, .slice Ao12 t279.length co12]] (by rfl) rfl rfl (by (try simp only [zT, zC, zN]); first | done | rfl | (simp only [zR, zL]; rfl)) ?_
        with_reducible refine (integer_Sub.calls k a1_0 _ _ l1_1 t278 _ _ t279 t282 t283 t286 t287 _ ?side1 ?side2 ?side3 ?side4 A4.out).mono ?_
        (case side1 => exact Kd.C_keep 0 HR1_1.out (by repeat (first | (with_reducible first | exact HK.out | apply KeepBut.set_ | apply keep_drewN | apply keep_drew | apply keep_alloc | refine keep_far ?_ GW276.out _ | refine keep_far ?_ GW277.out _ | refine keep_far ?_ GW288.out _) | exact HK.out)) hf1_1)
        (case side2 => exact HC1_1.out)
        (case side3 => repeat (first | exact (Kd.R_reads' HO281.out).2.2 | (with_reducible refine Kd.C_alloc ?_ _) | (with_reducible refine Kd.C_drewN ?_ _) | (with_reducible refine Kd.C_drew ?_)))
        (case side4 => exact (Kd.R_reads' HO281.out).2.1)
        rintro e w13 ⟨v284, rfl, ho0, hb⟩
        refine ⟨_, rfl, ?_⟩
        have HO285 := zM (Kd.V_lower (Kd.V_mono (ok' := fun k_ => some k_ ≠ (.slice Ao12 t279.length co12 : Value).ownBlock ∧ k_ ≠ gb276 ∧ k_ ≠ gb277 ∧ k_ ≠ gb288 ∧ k_ ≠ g) ho0 (fun k_ hk_ => ⟨(Kd.fresh' (Kd.R_lt HO281.out) k_ hk_), (Kd.freshB (g := gb276) (o := .cells #[.bool a1_0, .slice A1_1 l1_1.length c1_1] 24 (0, 0)) BK276.out k_ hk_), (Kd.freshB (g := gb277) (o := .cells #[.bool false, .slice none 0 0] 24 (0, 0)) BK277.out k_ hk_), (Kd.freshB (g := gb288) (o := .cells #[.bool false, .slice none 0 0] 24 (0, 0)) BK288.out k_ hk_), (IsS81.fresh (by repeat (first | (with_reducible first | exact HI0.out | apply IsS81.alloc | apply IsS81.drewN | apply IsS81.drew | apply IsS81.set_0 | apply IsS81.set_1 | refine IsS81.far ?_ NB0_276.out _ | refine IsS81.far ?_ NB0_277.out _ | refine IsS81.far ?_ NB0_288.out _) | exact HI0.out)) k_ hk_)⟩)) (keep_size (w := w) (g := g) (row := none) (by repeat (first | (with_reducible first | exact HK.out | apply KeepBut.set_ | apply keep_drewN | apply keep_drew | apply keep_alloc | refine keep_far ?_ GW276.out _ | refine keep_far ?_ GW277.out _ | refine keep_far ?_ GW288.out _) | exact HK.out))))
        replace HO281 := zM (Kd.R_below HO281.out hb)
        replace BK276 := pzb BK276 hb
        replace BK277 := pzb BK277 hb
        replace BK288 := pzb BK288 hb
        replace HK := zM (KeepBut.trans (by repeat (first | (with_reducible first | exact HK.out | apply KeepBut.set_ | apply keep_drewN | apply keep_drew | apply keep_alloc | refine keep_far ?_ GW276.out _ | refine keep_far ?_ GW277.out _ | refine keep_far ?_ GW288.out _) | exact HK.out)) (KeepBut.of_below hb g none) (.inl rfl))
        replace HB := zM (below_step (by repeat (first | (with_reducible first | exact HB.out | apply below_alloc | apply pw_below_drewN | apply below_drew1 | refine below_set ?_ (IsS81.ge HI0.out) | refine below_setA ?_ (by assumption)) | exact HB.out)) hb)
        replace HI0 := zM (IsS81.below (by repeat (first | (with_reducible first | exact HI0.out | apply IsS81.alloc | apply IsS81.drewN | apply IsS81.drew | apply IsS81.set_0 | apply IsS81.set_1 | refine IsS81.far ?_ NB0_276.out _ | refine IsS81.far ?_ NB0_277.out _ | refine IsS81.far ?_ NB0_288.out _) | exact HI0.out)) hb)
        (try clear hb)
        (try clear hb2)
        (try clear hk)
        (try clear hi)
        (try clear ho0)
        refine hK.out _ _ ⟨(blk_cell BK276.out 0).trans rfl, (blk_cell BK276.out 1).trans rfl⟩ (fun hHeld => ?_)
        clear hK K
        refine norm_ (a' := ?_) ?_ ?_
        rotate_left
        ·show Act.put _ (some 15) _ = _
         simp only [Act.put, zS, z0, z1, i64_w, i32_w]
         rfl
        refine pure_ (i := 3) (N := some 12) (v := ?_) (a' := ?_) #[true, true, true, true, false, false, true, false, false, false] rfl rfl (any_of HT_.out (by kernel_rfl)) (fun _ _ _ h => h) (Or.inl ⟨by rfl, ?_⟩) ?_ ?_
        rotate_left
        ·intro w'
         go_simp
         with_reducible rfl
        rotate_left
        ·simp only [Act.put, zS, z0, z1, i64_w, i32_w]
         rfl
        refine pure_ (i := 4) (N := some 16) (v := ?_) (a' := ?_) #[true, true, true, true, true, false, true, false, false, false] rfl rfl (any_of HT_.out (by kernel_rfl)) (fun _ _ _ h => h) (Or.inl ⟨by rfl, ?_⟩) ?_ ?_
        rotate_left
        ·intro w'
         go_simp
         with_reducible rfl
        rotate_left
        ·simp only [Act.put, zS, z0, z1, i64_w, i32_w]
         rfl
        refine pure_ (i := 5) (N := some 17) (v := ?_) (a' := ?_) #[true, true, true, true, true, true, true, false, false, false] rfl rfl (any_of HT_.out (by kernel_rfl)) (fun _ _ _ h => h) (Or.inl ⟨by rfl, ?_⟩) ?_ ?_
        rotate_left
        ·intro w'
         go_simp
         with_reducible rfl
        rotate_left
        ·simp only [Act.put, zS, z0, z1, i64_w, i32_w]
         rfl
        exact norm_ (by first | (simp only [putAll, Act.put, zS, z0, z1]; done) | (simp only [putAll, Act.put, zS, z0, z1]; rfl)) (hJ1_2_6 (.slice Ao12 t279.length co12, v284, gb288) _ ⟨hHeld, HO281.out, (by (with_reducible repeat (first | apply Kd.V_alloc | apply Kd.V_drewN | apply Kd.V_drew)); exact Kd.V_mono HO285.out (fun _ hk => ⟨hk.1, ⟨hk.2.2.2.2, ⟨hk.2.1, ⟨hk.2.2.1, hk.2.2.2.1⟩⟩⟩⟩)), BK276.out, BK277.out, BK288.out, GW288.out, GE288.out, NB0_288.out, NB288_0.out, NB276_288.out, NB288_276.out, NB277_288.out, NB288_277.out, (by repeat (first | (with_reducible first | exact HI0.out | apply IsS81.alloc | apply IsS81.drewN | apply IsS81.drew | apply IsS81.set_0 | apply IsS81.set_1 | refine IsS81.far ?_ NB0_276.out _ | refine IsS81.far ?_ NB0_277.out _ | refine IsS81.far ?_ NB0_288.out _) | exact HI0.out)), (by repeat (first | (with_reducible first | exact HK.out | apply KeepBut.set_ | apply keep_drewN | apply keep_drew | apply keep_alloc | refine keep_far ?_ GW276.out _ | refine keep_far ?_ GW277.out _ | refine keep_far ?_ GW288.out _) | exact HK.out)), (by repeat (first | (with_reducible first | exact HB.out | apply below_alloc | apply pw_below_drewN | apply below_drew1 | refine below_set ?_ (IsS81.ge HI0.out) | refine below_setA ?_ (by assumption)) | exact HB.out))⟩)
       ·skip
        refine box_step ?hg (N := 6) ?hd (cs := #[.int .i64 0, .int .i64 0]) (t := 29) ?hr ?_; (case hd => rfl); (case hg => rfl); (case hr => first | (go_simp; done) | (go_simp; rfl))
        intro gb289 hg w12 hbox hb
        have BK289 := zM (hbox)
        have GW289 := zM ((by rw [hg]; exact (keep_size (w := w) (g := g) (row := none) (by repeat (first | (with_reducible first | exact HK.out | apply KeepBut.set_ | apply keep_drewN | apply keep_drew | apply keep_alloc | refine keep_far ?_ GW276.out _ | refine keep_far ?_ GW277.out _ | refine keep_far ?_ GW288.out _) | exact HK.out))) : w.heap.size ≤ gb289))
        have GE289 := zM ((Nat.le_trans HW0.out (by rw [hg]; exact (keep_size (w := w) (g := g) (row := none) (by repeat (first | (with_reducible first | exact HK.out | apply KeepBut.set_ | apply keep_drewN | apply keep_drew | apply keep_alloc | refine keep_far ?_ GW276.out _ | refine keep_far ?_ GW277.out _ | refine keep_far ?_ GW288.out _) | exact HK.out))) : w.heap.size ≤ gb289) : w0.heap.size ≤ gb289))
        have NB276_289 := pzf BK276 hg
        have NB289_276 := pzg BK276 hg
        have NB277_289 := pzf BK277 hg
        have NB289_277 := pzg BK277 hg
        have NB288_289 := pzf BK288 hg
        have NB289_288 := pzg BK288 hg
        have NB0_289 := zM ((by rw [hg]; exact Nat.ne_of_lt (IsS81.lt (show IsS81 w0 _ g s0_0 s0_1 from by repeat (first | (with_reducible first | exact HI0.out | apply IsS81.alloc | apply IsS81.drewN | apply IsS81.drew | apply IsS81.set_0 | apply IsS81.set_1 | refine IsS81.far ?_ NB0_276.out _ | refine IsS81.far ?_ NB0_277.out _ | refine IsS81.far ?_ NB0_288.out _) | exact HI0.out))) : g ≠ gb289))
        have NB289_0 := zM ((by rw [hg]; exact Nat.ne_of_gt (IsS81.lt (show IsS81 w0 _ g s0_0 s0_1 from by repeat (first | (with_reducible first | exact HI0.out | apply IsS81.alloc | apply IsS81.drewN | apply IsS81.drew | apply IsS81.set_0 | apply IsS81.set_1 | refine IsS81.far ?_ NB0_276.out _ | refine IsS81.far ?_ NB0_277.out _ | refine IsS81.far ?_ NB0_288.out _) | exact HI0.out))) : gb289 ≠ g))
        replace HO281 := zM (Kd.R_below HO281.out hb)
        replace BK276 := pzb BK276 hb
        replace BK277 := pzb BK277 hb
        replace BK288 := pzb BK288 hb
        replace HK := zM (KeepBut.trans (by repeat (first | (with_reducible first | exact HK.out | apply KeepBut.set_ | apply keep_drewN | apply keep_drew | apply keep_alloc | refine keep_far ?_ GW276.out _ | refine keep_far ?_ GW277.out _ | refine keep_far ?_ GW288.out _) | exact HK.out)) (KeepBut.of_below hb g none) (.inl rfl))
        replace HB := zM (below_step (by repeat (first | (with_reducible first | exact HB.out | apply below_alloc | apply pw_below_drewN | apply below_drew1 | refine below_set ?_ (IsS81.ge HI0.out) | refine below_setA ?_ (by assumption)) | exact HB.out)) hb)
        replace HI0 := zM (IsS81.below (by repeat (first | (with_reducible first | exact HI0.out | apply IsS81.alloc | apply IsS81.drewN | apply IsS81.drew | apply IsS81.set_0 | apply IsS81.set_1 | refine IsS81.far ?_ NB0_276.out _ | refine IsS81.far ?_ NB0_277.out _ | refine IsS81.far ?_ NB0_288.out _) | exact HI0.out)) hb)
        clear hb hbox hg
        refine hK.out _ _ ⟨(blk_cell BK276.out 0).trans rfl, (blk_cell BK276.out 1).trans rfl⟩ (fun hHeld => ?_)
        clear hK K
        refine norm_ (a' := ?_) ?_ ?_
        rotate_left
        ·show Act.put _ (some 6) _ = _
         simp only [Act.put, zS, z0, z1, i64_w, i32_w]
         rfl
        exact norm_ (by first | (simp only [putAll, Act.put, zS, z0, z1]; done) | (simp only [putAll, Act.put, zS, z0, z1]; rfl)) (hJ1_6_7 (_, gb288, gb289) _ ⟨hHeld, HO281.out, BK276.out, BK277.out, BK288.out, BK289.out, GW288.out, GE288.out, NB0_288.out, NB288_0.out, NB276_288.out, NB288_276.out, NB277_288.out, NB288_277.out, NB289_288.out, NB288_289.out, GW289.out, GE289.out, NB0_289.out, NB289_0.out, NB276_289.out, NB289_276.out, NB277_289.out, NB289_277.out, (by repeat (first | (with_reducible first | exact HI0.out | apply IsS81.alloc | apply IsS81.drewN | apply IsS81.drew | apply IsS81.set_0 | apply IsS81.set_1 | refine IsS81.far ?_ NB0_276.out _ | refine IsS81.far ?_ NB0_277.out _ | refine IsS81.far ?_ NB0_288.out _ | refine IsS81.far ?_ NB0_289.out _) | exact HI0.out)), (by repeat (first | (with_reducible first | exact HK.out | apply KeepBut.set_ | apply keep_drewN | apply keep_drew | apply keep_alloc | refine keep_far ?_ GW276.out _ | refine keep_far ?_ GW277.out _ | refine keep_far ?_ GW288.out _ | refine keep_far ?_ GW289.out _) | exact HK.out)), (by repeat (first | (with_reducible first | exact HB.out | apply below_alloc | apply pw_below_drewN | apply below_drew1 | refine below_set ?_ (IsS81.ge HI0.out) | refine below_setA ?_ (by assumption)) | exact HB.out))⟩)
     ·skip
      rintro ⟨v280, v284⟩ w12 ⟨hS_, h0_, h1_, h2_, h3_, h4_, h5_, h6_⟩
      have n0_ : Aside0 (Kd.R (Kd.int .u32) 76 w12 w.heap.size (fun _ => True) v280 t279) := ⟨h0_⟩
      have n1_ : Aside0 (Kd.V (Kd.int .u32) 76 w12 w.heap.size (fun k_ => some k_ ≠ (v280 : Value).ownBlock ∧ k_ ≠ g ∧ k_ ≠ gb276 ∧ k_ ≠ gb277) v284 t283) := ⟨h1_⟩
      have n2_ : Aside0 (w12.heap[gb276]? = some (.cells #[.bool a1_0, .slice A1_1 l1_1.length c1_1] 24 (0, 0))) := ⟨h2_⟩
      have n3_ : Aside0 (w12.heap[gb277]? = some (.cells #[.bool false, .slice none 0 0] 24 (0, 0))) := ⟨h3_⟩
      have n4_ : Aside0 (IsS81 w0 w12 g s0_0 s0_1) := ⟨h4_⟩
      have n5_ : Aside0 (KeepBut w w12 g none) := ⟨h5_⟩
      have n6_ : Aside0 (Below w0.heap.size w0 w12) := ⟨h6_⟩
      clear BK276
      clear BK277
      clear HI0
      clear HK
      clear HB
      clear h0_ h1_ h2_ h3_ h4_ h5_ h6_
      have HO281 := n0_
      have HO285 := n1_
      have BK276 := n2_
      have BK277 := n3_
      have HI0 := n4_
      have HK := n5_
      have HB := n6_
      clear n0_ n1_ n2_ n3_ n4_ n5_ n6_
      have hHeld : w12.cell? ⟨gb276, 0, none⟩ = some (.bool a1_0) ∧ w12.cell? ⟨gb276, 1, none⟩ = some (.slice A1_1 l1_1.length c1_1) := hS_
      refine norm_ (a' := ?_) ?_ ?_
      rotate_left
      ·simp only [putAll, Act.put, zS, z0, z1]
       rfl
      refine two_ (i := 6) (j := 7) (Ni := some 5) (Nj := some 6) #[true, true, true, true, true, true, true, false, false, false] #[true, true, true, true, true, true, false, true, false, false] rfl rfl rfl rfl (two_of HT_.out (by kernel_rfl)) (by decide) (by decide) (fun K hK => ?_) (fun K hK => ?_)
      ·skip
       refine box_step ?hg (N := 5) ?hd (cs := #[.bool false, .slice none 0 0]) (t := 24) ?hr ?_; (case hd => rfl); (case hg => rfl); (case hr => first | (go_simp; done) | (go_simp; rfl))
       intro gb288 hg w13 hbox hb
       have BK288 := zM (hbox)
       have GW288 := zM ((by rw [hg]; exact (keep_size (w := w) (g := g) (row := none) (by repeat (first | (with_reducible first | exact HK.out | apply KeepBut.set_ | apply keep_drewN | apply keep_drew | apply keep_alloc | refine keep_far ?_ GW276.out _ | refine keep_far ?_ GW277.out _) | exact HK.out))) : w.heap.size ≤ gb288))
       have GE288 := zM ((Nat.le_trans HW0.out (by rw [hg]; exact (keep_size (w := w) (g := g) (row := none) (by repeat (first | (with_reducible first | exact HK.out | apply KeepBut.set_ | apply keep_drewN | apply keep_drew | apply keep_alloc | refine keep_far ?_ GW276.out _ | refine keep_far ?_ GW277.out _) | exact HK.out))) : w.heap.size ≤ gb288) : w0.heap.size ≤ gb288))
       have NB276_288 := pzf BK276 hg
       have NB288_276 := pzg BK276 hg
       have NB277_288 := pzf BK277 hg
       have NB288_277 := pzg BK277 hg
       have NB0_288 := zM ((by rw [hg]; exact Nat.ne_of_lt (IsS81.lt (show IsS81 w0 _ g s0_0 s0_1 from by repeat (first | (with_reducible first | exact HI0.out | apply IsS81.alloc | apply IsS81.drewN | apply IsS81.drew | apply IsS81.set_0 | apply IsS81.set_1 | refine IsS81.far ?_ NB0_276.out _ | refine IsS81.far ?_ NB0_277.out _) | exact HI0.out))) : g ≠ gb288))
       have NB288_0 := zM ((by rw [hg]; exact Nat.ne_of_gt (IsS81.lt (show IsS81 w0 _ g s0_0 s0_1 from by repeat (first | (with_reducible first | exact HI0.out | apply IsS81.alloc | apply IsS81.drewN | apply IsS81.drew | apply IsS81.set_0 | apply IsS81.set_1 | refine IsS81.far ?_ NB0_276.out _ | refine IsS81.far ?_ NB0_277.out _) | exact HI0.out))) : gb288 ≠ g))
       replace HO281 := zM (Kd.R_below HO281.out hb)
       replace HO285 := zM (Kd.V_below (Kd.V_elderB HO285.out gb288 (Nat.le_of_eq hg.symm)) hb)
       replace BK276 := pzb BK276 hb
       replace BK277 := pzb BK277 hb
       replace HK := zM (KeepBut.trans (by repeat (first | (with_reducible first | exact HK.out | apply KeepBut.set_ | apply keep_drewN | apply keep_drew | apply keep_alloc | refine keep_far ?_ GW276.out _ | refine keep_far ?_ GW277.out _) | exact HK.out)) (KeepBut.of_below hb g none) (.inl rfl))
       replace HB := zM (below_step (by repeat (first | (with_reducible first | exact HB.out | apply below_alloc | apply pw_below_drewN | apply below_drew1 | refine below_set ?_ (IsS81.ge HI0.out) | refine below_setA ?_ (by assumption)) | exact HB.out)) hb)
       replace HI0 := zM (IsS81.below (by repeat (first | (with_reducible first | exact HI0.out | apply IsS81.alloc | apply IsS81.drewN | apply IsS81.drew | apply IsS81.set_0 | apply IsS81.set_1 | refine IsS81.far ?_ NB0_276.out _ | refine IsS81.far ?_ NB0_277.out _) | exact HI0.out)) hb)
       clear hb hbox hg
       refine hK.out _ _ ⟨(blk_cell BK276.out 0).trans rfl, (blk_cell BK276.out 1).trans rfl⟩ (fun hHeld => ?_)
       clear hK K
       refine norm_ (a' := ?_) ?_ ?_
       rotate_left
       ·show Act.put _ (some 5) _ = _
        simp only [Act.put, zS, z0, z1, i64_w, i32_w]
        rfl
       exact norm_ (by first | (simp only [putAll, Act.put, zS, z0, z1]; done) | (simp only [putAll, Act.put, zS, z0, z1]; rfl)) (hJ1_2_6 (_, v284, gb288) _ ⟨hHeld, HO281.out, (by (with_reducible repeat (first | apply Kd.V_alloc | apply Kd.V_drewN | apply Kd.V_drew)); exact Kd.V_mono HO285.out (fun _ hk => ⟨hk.1.1, ⟨hk.1.2.1, ⟨hk.1.2.2.1, ⟨hk.1.2.2.2, hk.2⟩⟩⟩⟩)), BK276.out, BK277.out, BK288.out, GW288.out, GE288.out, NB0_288.out, NB288_0.out, NB276_288.out, NB288_276.out, NB277_288.out, NB288_277.out, (by repeat (first | (with_reducible first | exact HI0.out | apply IsS81.alloc | apply IsS81.drewN | apply IsS81.drew | apply IsS81.set_0 | apply IsS81.set_1 | refine IsS81.far ?_ NB0_276.out _ | refine IsS81.far ?_ NB0_277.out _ | refine IsS81.far ?_ NB0_288.out _) | exact HI0.out)), (by repeat (first | (with_reducible first | exact HK.out | apply KeepBut.set_ | apply keep_drewN | apply keep_drew | apply keep_alloc | refine keep_far ?_ GW276.out _ | refine keep_far ?_ GW277.out _ | refine keep_far ?_ GW288.out _) | exact HK.out)), (by repeat (first | (with_reducible first | exact HB.out | apply below_alloc | apply pw_below_drewN | apply below_drew1 | refine below_set ?_ (IsS81.ge HI0.out) | refine below_setA ?_ (by assumption)) | exact HB.out))⟩)
      ·skip
       refine box_step ?hg (N := 6) ?hd (cs := #[.int .i64 0, .int .i64 0]) (t := 29) ?hr ?_; (case hd => rfl); (case hg => rfl); (case hr => first | (go_simp; done) | (go_simp; rfl))
       intro gb289 hg w13 hbox hb
       have BK289 := zM (hbox)
       have GW289 := zM ((by rw [hg]; exact (keep_size (w := w) (g := g) (row := none) (by repeat (first | (with_reducible first | exact HK.out | apply KeepBut.set_ | apply keep_drewN | apply keep_drew | apply keep_alloc | refine keep_far ?_ GW276.out _ | refine keep_far ?_ GW277.out _) | exact HK.out))) : w.heap.size ≤ gb289))
       have GE289 := zM ((Nat.le_trans HW0.out (by rw [hg]; exact (keep_size (w := w) (g := g) (row := none) (by repeat (first | (with_reducible first | exact HK.out | apply KeepBut.set_ | apply keep_drewN | apply keep_drew | apply keep_alloc | refine keep_far ?_ GW276.out _ | refine keep_far ?_ GW277.out _) | exact HK.out))) : w.heap.size ≤ gb289) : w0.heap.size ≤ gb289))
       have NB276_289 := pzf BK276 hg
       have NB289_276 := pzg BK276 hg
       have NB277_289 := pzf BK277 hg
       have NB289_277 := pzg BK277 hg
       have NB0_289 := zM ((by rw [hg]; exact Nat.ne_of_lt (IsS81.lt (show IsS81 w0 _ g s0_0 s0_1 from by repeat (first | (with_reducible first | exact HI0.out | apply IsS81.alloc | apply IsS81.drewN | apply IsS81.drew | apply IsS81.set_0 | apply IsS81.set_1 | refine IsS81.far ?_ NB0_276.out _ | refine IsS81.far ?_ NB0_277.out _) | exact HI0.out))) : g ≠ gb289))
       have NB289_0 := zM ((by rw [hg]; exact Nat.ne_of_gt (IsS81.lt (show IsS81 w0 _ g s0_0 s0_1 from by repeat (first | (with_reducible first | exact HI0.out | apply IsS81.alloc | apply IsS81.drewN | apply IsS81.drew | apply IsS81.set_0 | apply IsS81.set_1 | refine IsS81.far ?_ NB0_276.out _ | refine IsS81.far ?_ NB0_277.out _) | exact HI0.out))) : gb289 ≠ g))
       replace HO281 := zM (Kd.R_below HO281.out hb)
       replace HO285 := zM (Kd.V_below (Kd.V_elderB HO285.out gb289 (Nat.le_of_eq hg.symm)) hb)
       replace BK276 := pzb BK276 hb
       replace BK277 := pzb BK277 hb
       replace HK := zM (KeepBut.trans (by repeat (first | (with_reducible first | exact HK.out | apply KeepBut.set_ | apply keep_drewN | apply keep_drew | apply keep_alloc | refine keep_far ?_ GW276.out _ | refine keep_far ?_ GW277.out _) | exact HK.out)) (KeepBut.of_below hb g none) (.inl rfl))
       replace HB := zM (below_step (by repeat (first | (with_reducible first | exact HB.out | apply below_alloc | apply pw_below_drewN | apply below_drew1 | refine below_set ?_ (IsS81.ge HI0.out) | refine below_setA ?_ (by assumption)) | exact HB.out)) hb)
       replace HI0 := zM (IsS81.below (by repeat (first | (with_reducible first | exact HI0.out | apply IsS81.alloc | apply IsS81.drewN | apply IsS81.drew | apply IsS81.set_0 | apply IsS81.set_1 | refine IsS81.far ?_ NB0_276.out _ | refine IsS81.far ?_ NB0_277.out _) | exact HI0.out)) hb)
       clear hb hbox hg
       refine hK.out _ _ ⟨(blk_cell BK276.out 0).trans rfl, (blk_cell BK276.out 1).trans rfl⟩ (fun hHeld => ?_)
       clear hK K
       refine norm_ (a' := ?_) ?_ ?_
       rotate_left
       ·show Act.put _ (some 6) _ = _
        simp only [Act.put, zS, z0, z1, i64_w, i32_w]
        rfl
       exact norm_ (by first | (simp only [putAll, Act.put, zS, z0, z1]; done) | (simp only [putAll, Act.put, zS, z0, z1]; rfl)) (hJ1_2_7 (_, v284, gb289) _ ⟨hHeld, HO281.out, (by (with_reducible repeat (first | apply Kd.V_alloc | apply Kd.V_drewN | apply Kd.V_drew)); exact Kd.V_mono HO285.out (fun _ hk => ⟨hk.1.1, ⟨hk.1.2.1, ⟨hk.1.2.2.1, ⟨hk.1.2.2.2, hk.2⟩⟩⟩⟩)), BK276.out, BK277.out, BK289.out, GW289.out, GE289.out, NB0_289.out, NB289_0.out, NB276_289.out, NB289_276.out, NB277_289.out, NB289_277.out, (by repeat (first | (with_reducible first | exact HI0.out | apply IsS81.alloc | apply IsS81.drewN | apply IsS81.drew | apply IsS81.set_0 | apply IsS81.set_1 | refine IsS81.far ?_ NB0_276.out _ | refine IsS81.far ?_ NB0_277.out _ | refine IsS81.far ?_ NB0_289.out _) | exact HI0.out)), (by repeat (first | (with_reducible first | exact HK.out | apply KeepBut.set_ | apply keep_drewN | apply keep_drew | apply keep_alloc | refine keep_far ?_ GW276.out _ | refine keep_far ?_ GW277.out _ | refine keep_far ?_ GW289.out _) | exact HK.out)), (by repeat (first | (with_reducible first | exact HB.out | apply below_alloc | apply pw_below_drewN | apply below_drew1 | refine below_set ?_ (IsS81.ge HI0.out) | refine below_setA ?_ (by assumption)) | exact HB.out))⟩)
    ·skip
     rintro ⟨v280, gb288, gb289⟩ w12 ⟨hS_, h0_, h1_, h2_, h3_, h4_, h5_, h6_, h7_, h8_, h9_, h10_, h11_, h12_, h13_, h14_, h15_, h16_, h17_, h18_, h19_, h20_, h21_, h22_, h23_, h24_, h25_⟩
     have n0_ : Aside0 (Kd.R (Kd.int .u32) 76 w12 w.heap.size (fun _ => True) v280 t279) := ⟨h0_⟩
     have n1_ : Aside0 (w12.heap[gb276]? = some (.cells #[.bool a1_0, .slice A1_1 l1_1.length c1_1] 24 (0, 0))) := ⟨h1_⟩
     have n2_ : Aside0 (w12.heap[gb277]? = some (.cells #[.bool false, .slice none 0 0] 24 (0, 0))) := ⟨h2_⟩
     have n3_ : Aside0 (w12.heap[gb288]? = some (.cells #[.bool false, .slice none 0 0] 24 (0, 0))) := ⟨h3_⟩
     have n4_ : Aside0 (w12.heap[gb289]? = some (.cells #[.int .i64 0, .int .i64 0] 29 (0, 0))) := ⟨h4_⟩
     have n5_ : Aside0 (w.heap.size ≤ gb288) := ⟨h5_⟩
     have n6_ : Aside0 (w0.heap.size ≤ gb288) := ⟨h6_⟩
     have n7_ : Aside0 (g ≠ gb288) := ⟨h7_⟩
     have n8_ : Aside0 (gb288 ≠ g) := ⟨h8_⟩
     have n9_ : Aside0 (gb276 ≠ gb288) := ⟨h9_⟩
     have n10_ : Aside0 (gb288 ≠ gb276) := ⟨h10_⟩
     have n11_ : Aside0 (gb277 ≠ gb288) := ⟨h11_⟩
     have n12_ : Aside0 (gb288 ≠ gb277) := ⟨h12_⟩
     have n13_ : Aside0 (gb289 ≠ gb288) := ⟨h13_⟩
     have n14_ : Aside0 (gb288 ≠ gb289) := ⟨h14_⟩
     have n15_ : Aside0 (w.heap.size ≤ gb289) := ⟨h15_⟩
     have n16_ : Aside0 (w0.heap.size ≤ gb289) := ⟨h16_⟩
     have n17_ : Aside0 (g ≠ gb289) := ⟨h17_⟩
     have n18_ : Aside0 (gb289 ≠ g) := ⟨h18_⟩
     have n19_ : Aside0 (gb276 ≠ gb289) := ⟨h19_⟩
     have n20_ : Aside0 (gb289 ≠ gb276) := ⟨h20_⟩
     have n21_ : Aside0 (gb277 ≠ gb289) := ⟨h21_⟩
     have n22_ : Aside0 (gb289 ≠ gb277) := ⟨h22_⟩
     have n23_ : Aside0 (IsS81 w0 w12 g s0_0 s0_1) := ⟨h23_⟩
     have n24_ : Aside0 (KeepBut w w12 g none) := ⟨h24_⟩
     have n25_ : Aside0 (Below w0.heap.size w0 w12) := ⟨h25_⟩
     clear BK276
     clear BK277
     clear HI0
     clear HK
     clear HB
     clear h0_ h1_ h2_ h3_ h4_ h5_ h6_ h7_ h8_ h9_ h10_ h11_ h12_ h13_ h14_ h15_ h16_ h17_ h18_ h19_ h20_ h21_ h22_ h23_ h24_ h25_
     have HO281 := n0_
     have BK276 := n1_
     have BK277 := n2_
     have BK288 := n3_
     have BK289 := n4_
     have GW288 := n5_
     have GE288 := n6_
     have NB0_288 := n7_
     have NB288_0 := n8_
     have NB276_288 := n9_
     have NB288_276 := n10_
     have NB277_288 := n11_
     have NB288_277 := n12_
     have NB289_288 := n13_
     have NB288_289 := n14_
     have GW289 := n15_
     have GE289 := n16_
     have NB0_289 := n17_
     have NB289_0 := n18_
     have NB276_289 := n19_
     have NB289_276 := n20_
     have NB277_289 := n21_
     have NB289_277 := n22_
     have HI0 := n23_
     have HK := n24_
     have HB := n25_
     clear n0_ n1_ n2_ n3_ n4_ n5_ n6_ n7_ n8_ n9_ n10_ n11_ n12_ n13_ n14_ n15_ n16_ n17_ n18_ n19_ n20_ n21_ n22_ n23_ n24_ n25_
     have hHeld : w12.cell? ⟨gb276, 0, none⟩ = some (.bool a1_0) ∧ w12.cell? ⟨gb276, 1, none⟩ = some (.slice A1_1 l1_1.length c1_1) := hS_
     obtain ⟨Ao13, co13, eo13⟩ := Kd.R_slice HO281.out
     (first | subst eo13 | (injection eo13 with f1_ f2_ f3_; have f4_ := f1_.symm; have f5_ := f3_.symm; clear f1_ f2_ f3_; subst f4_; subst f5_))
     refine norm_ (a' := ?_) ?_ ?_
     rotate_left
     ·simp only [putAll, Act.put, zS, z0, z1]
      rfl
     refine one_ (i := 2) (N := some 15) #[true, true, true, false, false, false, true, true, false, false] rfl rfl (one_of HT_.out (by kernel_rfl)) (by decide) (fun K hK => ?_)
     refine goes_ Try.func45 (by kernel_rfl) rfl #[.agg #[.bool a1_0, .slice A1_1 l1_1.length c1_1], .agg #[.bool t278, .slice Ao13 t279.length co13]] (by rfl) rfl rfl (by (try simp only [zT, zC, zN]); first | done | rfl | (simp only [zR, zL]; rfl)) ?_
     with_reducible refine (integer_Sub.calls k a1_0 _ _ l1_1 t278 _ _ t279 t282 t283 t286 t287 _ ?side1 ?side2 ?side3 ?side4 A4.out).mono ?_
     (case side1 => exact Kd.C_keep 0 HR1_1.out (by repeat (first | (with_reducible first | exact HK.out | apply KeepBut.set_ | apply keep_drewN | apply keep_drew | apply keep_alloc | refine keep_far ?_ GW276.out _ | refine keep_far ?_ GW277.out _ | refine keep_far ?_ GW288.out _ | refine keep_far ?_ GW289.out _) | exact HK.out)) hf1_1)
     (case side2 => exact HC1_1.out)
     (case side3 => repeat (first | exact (Kd.R_reads' HO281.out).2.2 | (with_reducible refine Kd.C_alloc ?_ _) | (with_reducible refine Kd.C_drewN ?_ _) | (with_reducible refine Kd.C_drew ?_)))
     (case side4 => exact (Kd.R_reads' HO281.out).2.1)
     rintro e w14 ⟨v284, rfl, ho0, hb⟩
     refine ⟨_, rfl, ?_⟩
     have HO285 := zM (Kd.V_lower (Kd.V_mono (ok' := fun k_ => some k_ ≠ (.slice Ao13 t279.length co13 : Value).ownBlock ∧ k_ ≠ gb276 ∧ k_ ≠ gb277 ∧ k_ ≠ gb288 ∧ k_ ≠ gb289 ∧ k_ ≠ g) ho0 (fun k_ hk_ => ⟨(Kd.fresh' (Kd.R_lt HO281.out) k_ hk_), (Kd.freshB (g := gb276) (o := .cells #[.bool a1_0, .slice A1_1 l1_1.length c1_1] 24 (0, 0)) BK276.out k_ hk_), (Kd.freshB (g := gb277) (o := .cells #[.bool false, .slice none 0 0] 24 (0, 0)) BK277.out k_ hk_), (Kd.freshB (g := gb288) (o := .cells #[.bool false, .slice none 0 0] 24 (0, 0)) BK288.out k_ hk_), (Kd.freshB (g := gb289) (o := .cells #[.int .i64 0, .int .i64 0] 29 (0, 0)) BK289.out k_ hk_), (IsS81.fresh (by repeat (first | (with_reducible first | exact HI0.out | apply IsS81.alloc | apply IsS81.drewN | apply IsS81.drew | apply IsS81.set_0 | apply IsS81.set_1 | refine IsS81.far ?_ NB0_276.out _ | refine IsS81.far ?_ NB0_277.out _ | refine IsS81.far ?_ NB0_288.out _ | refine IsS81.far ?_ NB0_289.out _) | exact HI0.out)) k_ hk_)⟩)) (keep_size (w := w) (g := g) (row := none) (by repeat (first | (with_reducible first | exact HK.out | apply KeepBut.set_ | apply keep_drewN | apply keep_drew | apply keep_alloc | refine keep_far ?_ GW276.out _ | refine keep_far ?_ GW277.out _ | refine keep_far ?_ GW288.out _ | refine keep_far ?_ GW289.out _) | exact HK.out))))
     replace HO281 := zM (Kd.R_below HO281.out hb)
     replace BK276 := pzb BK276 hb
     replace BK277 := pzb BK277 hb
     replace BK288 := pzb BK288 hb
     replace BK289 := pzb BK289 hb
     replace HK := zM (KeepBut.trans (by repeat (first | (with_reducible first | exact HK.out | apply KeepBut.set_ | apply keep_drewN | apply keep_drew | apply keep_alloc | refine keep_far ?_ GW276.out _ | refine keep_far ?_ GW277.out _ | refine keep_far ?_ GW288.out _ | refine keep_far ?_ GW289.out _) | exact HK.out)) (KeepBut.of_below hb g none) (.inl rfl))
     replace HB := zM (below_step (by repeat (first | (with_reducible first | exact HB.out | apply below_alloc | apply pw_below_drewN | apply below_drew1 | refine below_set ?_ (IsS81.ge HI0.out) | refine below_setA ?_ (by assumption)) | exact HB.out)) hb)
     replace HI0 := zM (IsS81.below (by repeat (first | (with_reducible first | exact HI0.out | apply IsS81.alloc | apply IsS81.drewN | apply IsS81.drew | apply IsS81.set_0 | apply IsS81.set_1 | refine IsS81.far ?_ NB0_276.out _ | refine IsS81.far ?_ NB0_277.out _ | refine IsS81.far ?_ NB0_288.out _ | refine IsS81.far ?_ NB0_289.out _) | exact HI0.out)) hb)
     (try clear hb)
     (try clear hb2)
     (try clear hk)
     (try clear hi)
     (try clear ho0)
     refine hK.out _ _ ⟨(blk_cell BK276.out 0).trans rfl, (blk_cell BK276.out 1).trans rfl⟩ (fun hHeld => ?_)
     clear hK K
     refine norm_ (a' := ?_) ?_ ?_
     rotate_left
     ·show Act.put _ (some 15) _ = _
      simp only [Act.put, zS, z0, z1, i64_w, i32_w]
      rfl
     refine pure_ (i := 3) (N := some 12) (v := ?_) (a' := ?_) #[true, true, true, true, false, false, true, true, false, false] rfl rfl (any_of HT_.out (by kernel_rfl)) (fun _ _ _ h => h) (Or.inl ⟨by rfl, ?_⟩) ?_ ?_
     rotate_left
     ·intro w'
      go_simp
      with_reducible rfl
     rotate_left
     ·simp only [Act.put, zS, z0, z1, i64_w, i32_w]
      rfl
     refine pure_ (i := 4) (N := some 16) (v := ?_) (a' := ?_) #[true, true, true, true, true, false, true, true, false, false] rfl rfl (any_of HT_.out (by kernel_rfl)) (fun _ _ _ h => h) (Or.inl ⟨by rfl, ?_⟩) ?_ ?_
     rotate_left
     ·intro w'
      go_simp
      with_reducible rfl
     rotate_left
     ·simp only [Act.put, zS, z0, z1, i64_w, i32_w]
      rfl
     refine pure_ (i := 5) (N := some 17) (v := ?_) (a' := ?_) #[true, true, true, true, true, true, true, true, false, false] rfl rfl (any_of HT_.out (by kernel_rfl)) (fun _ _ _ h => h) (Or.inl ⟨by rfl, ?_⟩) ?_ ?_
     rotate_left
     ·intro w'
      go_simp
      with_reducible rfl
     rotate_left
     ·simp only [Act.put, zS, z0, z1, i64_w, i32_w]
      rfl
     exact norm_ (by first | (simp only [putAll, Act.put, zS, z0, z1]; done) | (simp only [putAll, Act.put, zS, z0, z1]; rfl)) (hJ1_2_6_7 (.slice Ao13 t279.length co13, v284, gb288, gb289) _ ⟨hHeld, HO281.out, (by (with_reducible repeat (first | apply Kd.V_alloc | apply Kd.V_drewN | apply Kd.V_drew)); exact Kd.V_mono HO285.out (fun _ hk => ⟨hk.1, ⟨hk.2.2.2.2.2, ⟨hk.2.1, ⟨hk.2.2.1, ⟨hk.2.2.2.1, hk.2.2.2.2.1⟩⟩⟩⟩⟩)), BK276.out, BK277.out, BK288.out, BK289.out, GW288.out, GE288.out, NB0_288.out, NB288_0.out, NB276_288.out, NB288_276.out, NB277_288.out, NB288_277.out, NB289_288.out, NB288_289.out, GW289.out, GE289.out, NB0_289.out, NB289_0.out, NB276_289.out, NB289_276.out, NB277_289.out, NB289_277.out, (by repeat (first | (with_reducible first | exact HI0.out | apply IsS81.alloc | apply IsS81.drewN | apply IsS81.drew | apply IsS81.set_0 | apply IsS81.set_1 | refine IsS81.far ?_ NB0_276.out _ | refine IsS81.far ?_ NB0_277.out _ | refine IsS81.far ?_ NB0_288.out _ | refine IsS81.far ?_ NB0_289.out _) | exact HI0.out)), (by repeat (first | (with_reducible first | exact HK.out | apply KeepBut.set_ | apply keep_drewN | apply keep_drew | apply keep_alloc | refine keep_far ?_ GW276.out _ | refine keep_far ?_ GW277.out _ | refine keep_far ?_ GW288.out _ | refine keep_far ?_ GW289.out _) | exact HK.out)), (by repeat (first | (with_reducible first | exact HB.out | apply below_alloc | apply pw_below_drewN | apply below_drew1 | refine below_set ?_ (IsS81.ge HI0.out) | refine below_setA ?_ (by assumption)) | exact HB.out))⟩)
   ·skip
    rintro ⟨v280, v284, gb289⟩ w13 ⟨hS_, h0_, h1_, h2_, h3_, h4_, h5_, h6_, h7_, h8_, h9_, h10_, h11_, h12_, h13_, h14_, h15_⟩
    have n0_ : Aside0 (Kd.R (Kd.int .u32) 76 w13 w.heap.size (fun _ => True) v280 t279) := ⟨h0_⟩
    have n1_ : Aside0 (Kd.V (Kd.int .u32) 76 w13 w.heap.size (fun k_ => some k_ ≠ (v280 : Value).ownBlock ∧ k_ ≠ g ∧ k_ ≠ gb276 ∧ k_ ≠ gb277 ∧ k_ ≠ gb289) v284 t283) := ⟨h1_⟩
    have n2_ : Aside0 (w13.heap[gb276]? = some (.cells #[.bool a1_0, .slice A1_1 l1_1.length c1_1] 24 (0, 0))) := ⟨h2_⟩
    have n3_ : Aside0 (w13.heap[gb277]? = some (.cells #[.bool false, .slice none 0 0] 24 (0, 0))) := ⟨h3_⟩
    have n4_ : Aside0 (w13.heap[gb289]? = some (.cells #[.int .i64 0, .int .i64 0] 29 (0, 0))) := ⟨h4_⟩
    have n5_ : Aside0 (w.heap.size ≤ gb289) := ⟨h5_⟩
    have n6_ : Aside0 (w0.heap.size ≤ gb289) := ⟨h6_⟩
    have n7_ : Aside0 (g ≠ gb289) := ⟨h7_⟩
    have n8_ : Aside0 (gb289 ≠ g) := ⟨h8_⟩
    have n9_ : Aside0 (gb276 ≠ gb289) := ⟨h9_⟩
    have n10_ : Aside0 (gb289 ≠ gb276) := ⟨h10_⟩
    have n11_ : Aside0 (gb277 ≠ gb289) := ⟨h11_⟩
    have n12_ : Aside0 (gb289 ≠ gb277) := ⟨h12_⟩
    have n13_ : Aside0 (IsS81 w0 w13 g s0_0 s0_1) := ⟨h13_⟩
    have n14_ : Aside0 (KeepBut w w13 g none) := ⟨h14_⟩
    have n15_ : Aside0 (Below w0.heap.size w0 w13) := ⟨h15_⟩
    clear BK276
    clear BK277
    clear HI0
    clear HK
    clear HB
    clear h0_ h1_ h2_ h3_ h4_ h5_ h6_ h7_ h8_ h9_ h10_ h11_ h12_ h13_ h14_ h15_
    have HO281 := n0_
    have HO285 := n1_
    have BK276 := n2_
    have BK277 := n3_
    have BK289 := n4_
    have GW289 := n5_
    have GE289 := n6_
    have NB0_289 := n7_
    have NB289_0 := n8_
    have NB276_289 := n9_
    have NB289_276 := n10_
    have NB277_289 := n11_
    have NB289_277 := n12_
    have HI0 := n13_
    have HK := n14_
    have HB := n15_
    clear n0_ n1_ n2_ n3_ n4_ n5_ n6_ n7_ n8_ n9_ n10_ n11_ n12_ n13_ n14_ n15_
    have hHeld : w13.cell? ⟨gb276, 0, none⟩ = some (.bool a1_0) ∧ w13.cell? ⟨gb276, 1, none⟩ = some (.slice A1_1 l1_1.length c1_1) := hS_
    refine norm_ (a' := ?_) ?_ ?_
    rotate_left
    ·simp only [putAll, Act.put, zS, z0, z1]
     rfl
    refine one_ (i := 6) (N := some 5) #[true, true, true, true, true, true, true, true, false, false] rfl rfl (one_of HT_.out (by kernel_rfl)) (by decide) (fun K hK => ?_)
    refine box_step ?hg (N := 5) ?hd (cs := #[.bool false, .slice none 0 0]) (t := 24) ?hr ?_; (case hd => rfl); (case hg => rfl); (case hr => first | (go_simp; done) | (go_simp; rfl))
    intro gb288 hg w14 hbox hb
    have BK288 := zM (hbox)
    have GW288 := zM ((by rw [hg]; exact (keep_size (w := w) (g := g) (row := none) (by repeat (first | (with_reducible first | exact HK.out | apply KeepBut.set_ | apply keep_drewN | apply keep_drew | apply keep_alloc | refine keep_far ?_ GW276.out _ | refine keep_far ?_ GW277.out _ | refine keep_far ?_ GW289.out _) | exact HK.out))) : w.heap.size ≤ gb288))
    have GE288 := zM ((Nat.le_trans HW0.out (by rw [hg]; exact (keep_size (w := w) (g := g) (row := none) (by repeat (first | (with_reducible first | exact HK.out | apply KeepBut.set_ | apply keep_drewN | apply keep_drew | apply keep_alloc | refine keep_far ?_ GW276.out _ | refine keep_far ?_ GW277.out _ | refine keep_far ?_ GW289.out _) | exact HK.out))) : w.heap.size ≤ gb288) : w0.heap.size ≤ gb288))
    have NB276_288 := pzf BK276 hg
    have NB288_276 := pzg BK276 hg
    have NB277_288 := pzf BK277 hg
    have NB288_277 := pzg BK277 hg
    have NB289_288 := pzf BK289 hg
    have NB288_289 := pzg BK289 hg
    have NB0_288 := zM ((by rw [hg]; exact Nat.ne_of_lt (IsS81.lt (show IsS81 w0 _ g s0_0 s0_1 from by repeat (first | (with_reducible first | exact HI0.out | apply IsS81.alloc | apply IsS81.drewN | apply IsS81.drew | apply IsS81.set_0 | apply IsS81.set_1 | refine IsS81.far ?_ NB0_276.out _ | refine IsS81.far ?_ NB0_277.out _ | refine IsS81.far ?_ NB0_289.out _) | exact HI0.out))) : g ≠ gb288))
    have NB288_0 := zM ((by rw [hg]; exact Nat.ne_of_gt (IsS81.lt (show IsS81 w0 _ g s0_0 s0_1 from by repeat (first | (with_reducible first | exact HI0.out | apply IsS81.alloc | apply IsS81.drewN | apply IsS81.drew | apply IsS81.set_0 | apply IsS81.set_1 | refine IsS81.far ?_ NB0_276.out _ | refine IsS81.far ?_ NB0_277.out _ | refine IsS81.far ?_ NB0_289.out _) | exact HI0.out))) : gb288 ≠ g))
    replace HO281 := zM (Kd.R_below HO281.out hb)
    replace HO285 := zM (Kd.V_below (Kd.V_elderB HO285.out gb288 (Nat.le_of_eq hg.symm)) hb)
    replace BK276 := pzb BK276 hb
    replace BK277 := pzb BK277 hb
    replace BK289 := pzb BK289 hb
    replace HK := zM (KeepBut.trans (by repeat (first | (with_reducible first | exact HK.out | apply KeepBut.set_ | apply keep_drewN | apply keep_drew | apply keep_alloc | refine keep_far ?_ GW276.out _ | refine keep_far ?_ GW277.out _ | refine keep_far ?_ GW289.out _) | exact HK.out)) (KeepBut.of_below hb g none) (.inl rfl))
    replace HB := zM (below_step (by repeat (first | (with_reducible first | exact HB.out | apply below_alloc | apply pw_below_drewN | apply below_drew1 | refine below_set ?_ (IsS81.ge HI0.out) | refine below_setA ?_ (by assumption)) | exact HB.out)) hb)
    replace HI0 := zM (IsS81.below (by repeat (first | (with_reducible first | exact HI0.out | apply IsS81.alloc | apply IsS81.drewN | apply IsS81.drew | apply IsS81.set_0 | apply IsS81.set_1 | refine IsS81.far ?_ NB0_276.out _ | refine IsS81.far ?_ NB0_277.out _ | refine IsS81.far ?_ NB0_289.out _) | exact HI0.out)) hb)
    clear hb hbox hg
    refine hK.out _ _ ⟨(blk_cell BK276.out 0).trans rfl, (blk_cell BK276.out 1).trans rfl⟩ (fun hHeld => ?_)
    clear hK K
    refine norm_ (a' := ?_) ?_ ?_
    rotate_left
    ·show Act.put _ (some 5) _ = _
     simp only [Act.put, zS, z0, z1, i64_w, i32_w]
     rfl
    exact norm_ (by first | (simp only [putAll, Act.put, zS, z0, z1]; done) | (simp only [putAll, Act.put, zS, z0, z1]; rfl)) (hJ1_2_6_7 (_, v284, gb288, gb289) _ ⟨hHeld, HO281.out, (by (with_reducible repeat (first | apply Kd.V_alloc | apply Kd.V_drewN | apply Kd.V_drew)); exact Kd.V_mono HO285.out (fun _ hk => ⟨hk.1.1, ⟨hk.1.2.1, ⟨hk.1.2.2.1, ⟨hk.1.2.2.2.1, ⟨hk.2, hk.1.2.2.2.2⟩⟩⟩⟩⟩)), BK276.out, BK277.out, BK288.out, BK289.out, GW288.out, GE288.out, NB0_288.out, NB288_0.out, NB276_288.out, NB288_276.out, NB277_288.out, NB288_277.out, NB289_288.out, NB288_289.out, GW289.out, GE289.out, NB0_289.out, NB289_0.out, NB276_289.out, NB289_276.out, NB277_289.out, NB289_277.out, (by repeat (first | (with_reducible first | exact HI0.out | apply IsS81.alloc | apply IsS81.drewN | apply IsS81.drew | apply IsS81.set_0 | apply IsS81.set_1 | refine IsS81.far ?_ NB0_276.out _ | refine IsS81.far ?_ NB0_277.out _ | refine IsS81.far ?_ NB0_289.out _ | refine IsS81.far ?_ NB0_288.out _) | exact HI0.out)), (by repeat (first | (with_reducible first | exact HK.out | apply KeepBut.set_ | apply keep_drewN | apply keep_drew | apply keep_alloc | refine keep_far ?_ GW276.out _ | refine keep_far ?_ GW277.out _ | refine keep_far ?_ GW289.out _ | refine keep_far ?_ GW288.out _) | exact HK.out)), (by repeat (first | (with_reducible first | exact HB.out | apply below_alloc | apply pw_below_drewN | apply below_drew1 | refine below_set ?_ (IsS81.ge HI0.out) | refine below_setA ?_ (by assumption)) | exact HB.out))⟩)
  ·skip
   rintro ⟨v280, v284, gb288⟩ w13 ⟨hS_, h0_, h1_, h2_, h3_, h4_, h5_, h6_, h7_, h8_, h9_, h10_, h11_, h12_, h13_, h14_, h15_⟩
   have n0_ : Aside0 (Kd.R (Kd.int .u32) 76 w13 w.heap.size (fun _ => True) v280 t279) := ⟨h0_⟩
   have n1_ : Aside0 (Kd.V (Kd.int .u32) 76 w13 w.heap.size (fun k_ => some k_ ≠ (v280 : Value).ownBlock ∧ k_ ≠ g ∧ k_ ≠ gb276 ∧ k_ ≠ gb277 ∧ k_ ≠ gb288) v284 t283) := ⟨h1_⟩
   have n2_ : Aside0 (w13.heap[gb276]? = some (.cells #[.bool a1_0, .slice A1_1 l1_1.length c1_1] 24 (0, 0))) := ⟨h2_⟩
   have n3_ : Aside0 (w13.heap[gb277]? = some (.cells #[.bool false, .slice none 0 0] 24 (0, 0))) := ⟨h3_⟩
   have n4_ : Aside0 (w13.heap[gb288]? = some (.cells #[.bool false, .slice none 0 0] 24 (0, 0))) := ⟨h4_⟩
   have n5_ : Aside0 (w.heap.size ≤ gb288) := ⟨h5_⟩
   have n6_ : Aside0 (w0.heap.size ≤ gb288) := ⟨h6_⟩
   have n7_ : Aside0 (g ≠ gb288) := ⟨h7_⟩
   have n8_ : Aside0 (gb288 ≠ g) := ⟨h8_⟩
   have n9_ : Aside0 (gb276 ≠ gb288) := ⟨h9_⟩
   have n10_ : Aside0 (gb288 ≠ gb276) := ⟨h10_⟩
   have n11_ : Aside0 (gb277 ≠ gb288) := ⟨h11_⟩
   have n12_ : Aside0 (gb288 ≠ gb277) := ⟨h12_⟩
   have n13_ : Aside0 (IsS81 w0 w13 g s0_0 s0_1) := ⟨h13_⟩
   have n14_ : Aside0 (KeepBut w w13 g none) := ⟨h14_⟩
   have n15_ : Aside0 (Below w0.heap.size w0 w13) := ⟨h15_⟩
   clear BK276
   clear BK277
   clear HI0
   clear HK
   clear HB
   clear h0_ h1_ h2_ h3_ h4_ h5_ h6_ h7_ h8_ h9_ h10_ h11_ h12_ h13_ h14_ h15_
   have HO281 := n0_
   have HO285 := n1_
   have BK276 := n2_
   have BK277 := n3_
   have BK288 := n4_
   have GW288 := n5_
   have GE288 := n6_
   have NB0_288 := n7_
   have NB288_0 := n8_
   have NB276_288 := n9_
   have NB288_276 := n10_
   have NB277_288 := n11_
   have NB288_277 := n12_
   have HI0 := n13_
   have HK := n14_
   have HB := n15_
   clear n0_ n1_ n2_ n3_ n4_ n5_ n6_ n7_ n8_ n9_ n10_ n11_ n12_ n13_ n14_ n15_
   have hHeld : w13.cell? ⟨gb276, 0, none⟩ = some (.bool a1_0) ∧ w13.cell? ⟨gb276, 1, none⟩ = some (.slice A1_1 l1_1.length c1_1) := hS_
   refine norm_ (a' := ?_) ?_ ?_
   rotate_left
   ·simp only [putAll, Act.put, zS, z0, z1]
    rfl
   refine one_ (i := 7) (N := some 6) #[true, true, true, true, true, true, true, true, false, false] rfl rfl (one_of HT_.out (by kernel_rfl)) (by decide) (fun K hK => ?_)
   refine box_step ?hg (N := 6) ?hd (cs := #[.int .i64 0, .int .i64 0]) (t := 29) ?hr ?_; (case hd => rfl); (case hg => rfl); (case hr => first | (go_simp; done) | (go_simp; rfl))
   intro gb289 hg w14 hbox hb
   have BK289 := zM (hbox)
   have GW289 := zM ((by rw [hg]; exact (keep_size (w := w) (g := g) (row := none) (by repeat (first | (with_reducible first | exact HK.out | apply KeepBut.set_ | apply keep_drewN | apply keep_drew | apply keep_alloc | refine keep_far ?_ GW276.out _ | refine keep_far ?_ GW277.out _ | refine keep_far ?_ GW288.out _) | exact HK.out))) : w.heap.size ≤ gb289))
   have GE289 := zM ((Nat.le_trans HW0.out (by rw [hg]; exact (keep_size (w := w) (g := g) (row := none) (by repeat (first | (with_reducible first | exact HK.out | apply KeepBut.set_ | apply keep_drewN | apply keep_drew | apply keep_alloc | refine keep_far ?_ GW276.out _ | refine keep_far ?_ GW277.out _ | refine keep_far ?_ GW288.out _) | exact HK.out))) : w.heap.size ≤ gb289) : w0.heap.size ≤ gb289))
   have NB276_289 := pzf BK276 hg
   have NB289_276 := pzg BK276 hg
   have NB277_289 := pzf BK277 hg
   have NB289_277 := pzg BK277 hg
   have NB288_289 := pzf BK288 hg
   have NB289_288 := pzg BK288 hg
   have NB0_289 := zM ((by rw [hg]; exact Nat.ne_of_lt (IsS81.lt (show IsS81 w0 _ g s0_0 s0_1 from by repeat (first | (with_reducible first | exact HI0.out | apply IsS81.alloc | apply IsS81.drewN | apply IsS81.drew | apply IsS81.set_0 | apply IsS81.set_1 | refine IsS81.far ?_ NB0_276.out _ | refine IsS81.far ?_ NB0_277.out _ | refine IsS81.far ?_ NB0_288.out _) | exact HI0.out))) : g ≠ gb289))
   have NB289_0 := zM ((by rw [hg]; exact Nat.ne_of_gt (IsS81.lt (show IsS81 w0 _ g s0_0 s0_1 from by repeat (first | (with_reducible first | exact HI0.out | apply IsS81.alloc | apply IsS81.drewN | apply IsS81.drew | apply IsS81.set_0 | apply IsS81.set_1 | refine IsS81.far ?_ NB0_276.out _ | refine IsS81.far ?_ NB0_277.out _ | refine IsS81.far ?_ NB0_288.out _) | exact HI0.out))) : gb289 ≠ g))
   replace HO281 := zM (Kd.R_below HO281.out hb)
   replace HO285 := zM (Kd.V_below (Kd.V_elderB HO285.out gb289 (Nat.le_of_eq hg.symm)) hb)
   replace BK276 := pzb BK276 hb
   replace BK277 := pzb BK277 hb
   replace BK288 := pzb BK288 hb
   replace HK := zM (KeepBut.trans (by repeat (first | (with_reducible first | exact HK.out | apply KeepBut.set_ | apply keep_drewN | apply keep_drew | apply keep_alloc | refine keep_far ?_ GW276.out _ | refine keep_far ?_ GW277.out _ | refine keep_far ?_ GW288.out _) | exact HK.out)) (KeepBut.of_below hb g none) (.inl rfl))
   replace HB := zM (below_step (by repeat (first | (with_reducible first | exact HB.out | apply below_alloc | apply pw_below_drewN | apply below_drew1 | refine below_set ?_ (IsS81.ge HI0.out) | refine below_setA ?_ (by assumption)) | exact HB.out)) hb)
   replace HI0 := zM (IsS81.below (by repeat (first | (with_reducible first | exact HI0.out | apply IsS81.alloc | apply IsS81.drewN | apply IsS81.drew | apply IsS81.set_0 | apply IsS81.set_1 | refine IsS81.far ?_ NB0_276.out _ | refine IsS81.far ?_ NB0_277.out _ | refine IsS81.far ?_ NB0_288.out _) | exact HI0.out)) hb)
   clear hb hbox hg
   refine hK.out _ _ ⟨(blk_cell BK276.out 0).trans rfl, (blk_cell BK276.out 1).trans rfl⟩ (fun hHeld => ?_)
   clear hK K
   refine norm_ (a' := ?_) ?_ ?_
   rotate_left
   ·show Act.put _ (some 6) _ = _
    simp only [Act.put, zS, z0, z1, i64_w, i32_w]
    rfl
   exact norm_ (by first | (simp only [putAll, Act.put, zS, z0, z1]; done) | (simp only [putAll, Act.put, zS, z0, z1]; rfl)) (hJ1_2_6_7 (_, v284, gb288, gb289) _ ⟨hHeld, HO281.out, (by (with_reducible repeat (first | apply Kd.V_alloc | apply Kd.V_drewN | apply Kd.V_drew)); exact Kd.V_mono HO285.out (fun _ hk => ⟨hk.1.1, ⟨hk.1.2.1, ⟨hk.1.2.2.1, ⟨hk.1.2.2.2.1, ⟨hk.1.2.2.2.2, hk.2⟩⟩⟩⟩⟩)), BK276.out, BK277.out, BK288.out, BK289.out, GW288.out, GE288.out, NB0_288.out, NB288_0.out, NB276_288.out, NB288_276.out, NB277_288.out, NB288_277.out, NB289_288.out, NB288_289.out, GW289.out, GE289.out, NB0_289.out, NB289_0.out, NB276_289.out, NB289_276.out, NB277_289.out, NB289_277.out, (by repeat (first | (with_reducible first | exact HI0.out | apply IsS81.alloc | apply IsS81.drewN | apply IsS81.drew | apply IsS81.set_0 | apply IsS81.set_1 | refine IsS81.far ?_ NB0_276.out _ | refine IsS81.far ?_ NB0_277.out _ | refine IsS81.far ?_ NB0_288.out _ | refine IsS81.far ?_ NB0_289.out _) | exact HI0.out)), (by repeat (first | (with_reducible first | exact HK.out | apply KeepBut.set_ | apply keep_drewN | apply keep_drew | apply keep_alloc | refine keep_far ?_ GW276.out _ | refine keep_far ?_ GW277.out _ | refine keep_far ?_ GW288.out _ | refine keep_far ?_ GW289.out _) | exact HK.out)), (by repeat (first | (with_reducible first | exact HB.out | apply below_alloc | apply pw_below_drewN | apply below_drew1 | refine below_set ?_ (IsS81.ge HI0.out) | refine below_setA ?_ (by assumption)) | exact HB.out))⟩)
 rintro ⟨v280, v284, gb288, gb289⟩ w14 ⟨hS_, h0_, h1_, h2_, h3_, h4_, h5_, h6_, h7_, h8_, h9_, h10_, h11_, h12_, h13_, h14_, h15_, h16_, h17_, h18_, h19_, h20_, h21_, h22_, h23_, h24_, h25_, h26_⟩
 have n0_ : Aside0 (Kd.R (Kd.int .u32) 76 w14 w.heap.size (fun _ => True) v280 t279) := ⟨h0_⟩
 have n1_ : Aside0 (Kd.V (Kd.int .u32) 76 w14 w.heap.size (fun k_ => some k_ ≠ (v280 : Value).ownBlock ∧ k_ ≠ g ∧ k_ ≠ gb276 ∧ k_ ≠ gb277 ∧ k_ ≠ gb288 ∧ k_ ≠ gb289) v284 t283) := ⟨h1_⟩
 have n2_ : Aside0 (w14.heap[gb276]? = some (.cells #[.bool a1_0, .slice A1_1 l1_1.length c1_1] 24 (0, 0))) := ⟨h2_⟩
 have n3_ : Aside0 (w14.heap[gb277]? = some (.cells #[.bool false, .slice none 0 0] 24 (0, 0))) := ⟨h3_⟩
 have n4_ : Aside0 (w14.heap[gb288]? = some (.cells #[.bool false, .slice none 0 0] 24 (0, 0))) := ⟨h4_⟩
 have n5_ : Aside0 (w14.heap[gb289]? = some (.cells #[.int .i64 0, .int .i64 0] 29 (0, 0))) := ⟨h5_⟩
 have n6_ : Aside0 (w.heap.size ≤ gb288) := ⟨h6_⟩
 have n7_ : Aside0 (w0.heap.size ≤ gb288) := ⟨h7_⟩
 have n8_ : Aside0 (g ≠ gb288) := ⟨h8_⟩
 have n9_ : Aside0 (gb288 ≠ g) := ⟨h9_⟩
 have n10_ : Aside0 (gb276 ≠ gb288) := ⟨h10_⟩
 have n11_ : Aside0 (gb288 ≠ gb276) := ⟨h11_⟩
 have n12_ : Aside0 (gb277 ≠ gb288) := ⟨h12_⟩
 have n13_ : Aside0 (gb288 ≠ gb277) := ⟨h13_⟩
 have n14_ : Aside0 (gb289 ≠ gb288) := ⟨h14_⟩
 have n15_ : Aside0 (gb288 ≠ gb289) := ⟨h15_⟩
 have n16_ : Aside0 (w.heap.size ≤ gb289) := ⟨h16_⟩
 have n17_ : Aside0 (w0.heap.size ≤ gb289) := ⟨h17_⟩
 have n18_ : Aside0 (g ≠ gb289) := ⟨h18_⟩
 have n19_ : Aside0 (gb289 ≠ g) := ⟨h19_⟩
 have n20_ : Aside0 (gb276 ≠ gb289) := ⟨h20_⟩
 have n21_ : Aside0 (gb289 ≠ gb276) := ⟨h21_⟩
 have n22_ : Aside0 (gb277 ≠ gb289) := ⟨h22_⟩
 have n23_ : Aside0 (gb289 ≠ gb277) := ⟨h23_⟩
 have n24_ : Aside0 (IsS81 w0 w14 g s0_0 s0_1) := ⟨h24_⟩
 have n25_ : Aside0 (KeepBut w w14 g none) := ⟨h25_⟩
 have n26_ : Aside0 (Below w0.heap.size w0 w14) := ⟨h26_⟩
 clear BK276
 clear BK277
 clear HI0
 clear HK
 clear HB
 clear h0_ h1_ h2_ h3_ h4_ h5_ h6_ h7_ h8_ h9_ h10_ h11_ h12_ h13_ h14_ h15_ h16_ h17_ h18_ h19_ h20_ h21_ h22_ h23_ h24_ h25_ h26_
 have HO281 := n0_
 have HO285 := n1_
 have BK276 := n2_
 have BK277 := n3_
 have BK288 := n4_
 have BK289 := n5_
 have GW288 := n6_
 have GE288 := n7_
 have NB0_288 := n8_
 have NB288_0 := n9_
 have NB276_288 := n10_
 have NB288_276 := n11_
 have NB277_288 := n12_
 have NB288_277 := n13_
 have NB289_288 := n14_
 have NB288_289 := n15_
 have GW289 := n16_
 have GE289 := n17_
 have NB0_289 := n18_
 have NB289_0 := n19_
 have NB276_289 := n20_
 have NB289_276 := n21_
 have NB277_289 := n22_
 have NB289_277 := n23_
 have HI0 := n24_
 have HK := n25_
 have HB := n26_
 clear n0_ n1_ n2_ n3_ n4_ n5_ n6_ n7_ n8_ n9_ n10_ n11_ n12_ n13_ n14_ n15_ n16_ n17_ n18_ n19_ n20_ n21_ n22_ n23_ n24_ n25_ n26_
 have hHeld : w14.cell? ⟨gb276, 0, none⟩ = some (.bool a1_0) ∧ w14.cell? ⟨gb276, 1, none⟩ = some (.slice A1_1 l1_1.length c1_1) := hS_
 obtain ⟨Ao16, co16, eo16⟩ := Kd.V_slice HO285.out
 (first | subst eo16 | (injection eo16 with f1_ f2_ f3_; have f4_ := f1_.symm; have f5_ := f3_.symm; clear f1_ f2_ f3_; subst f4_; subst f5_))
 refine norm_ (a' := ?_) ?_ ?_
 rotate_left
 ·simp only [putAll, Act.put, zS, z0, z1]
  rfl
 refine one_ (i := 8) (N := none) #[true, true, true, true, true, true, true, true, true, false] rfl rfl (one_of HT_.out (by kernel_rfl)) (by decide) (fun K hK => ?_)
 have hs15 : w14.cell? ⟨gb288, 0, none⟩ = some (.bool false) := (blk_cell BK288.out 0).trans rfl
 have hfs15 := zF BK288.out 0
 have hns15_0 := NB276_288.out
 have hns15_1 := NB277_288.out
 have hns15_3 := NB289_288.out
 have hms15_0 := NB288_276.out
 have hms15_1 := NB288_277.out
 have hms15_3 := NB288_289.out
 have hs17 : w14.cell? ⟨gb288, 1, none⟩ = some (.slice none 0 0) := (blk_cell BK288.out 1).trans rfl
 have hfs17 := zF BK288.out 1
 have hns17_0 := NB276_288.out
 have hns17_1 := NB277_288.out
 have hns17_3 := NB289_288.out
 have hms17_0 := NB288_276.out
 have hms17_1 := NB288_277.out
 have hms17_3 := NB288_289.out
 refine skip_ (w1 := ?_) (by rfl) rfl ?_ ?_
 rotate_left
 ·go_simp
  rfl
 refine hK.out _ _ ⟨((cell_far (p := ⟨gb288, _, none⟩) NB276_288.out _).trans (((cell_far (p := ⟨gb288, _, none⟩) NB276_288.out _).trans (hHeld.1)))), ((cell_far (p := ⟨gb288, _, none⟩) NB276_288.out _).trans (((cell_far (p := ⟨gb288, _, none⟩) NB276_288.out _).trans (hHeld.2))))⟩ (fun hHeld => ?_)
 clear hK K
 refine one_ (i := 9) (N := none) #[true, true, true, true, true, true, true, true, true, true] rfl rfl (one_of HT_.out (by kernel_rfl)) (by decide) (fun K hK => ?_)
 have hs18 : w14.cell? ⟨gb289, 0, none⟩ = some (.int .i64 0) := (blk_cell BK289.out 0).trans rfl
 have hfs18 := zF BK289.out 0
 have hns18_0 := NB276_289.out
 have hns18_1 := NB277_289.out
 have hns18_2 := NB288_289.out
 have hms18_0 := NB289_276.out
 have hms18_1 := NB289_277.out
 have hms18_2 := NB289_288.out
 have hs19 : w14.cell? ⟨gb289, 1, none⟩ = some (.int .i64 0) := (blk_cell BK289.out 1).trans rfl
 have hfs19 := zF BK289.out 1
 have hns19_0 := NB276_289.out
 have hns19_1 := NB277_289.out
 have hns19_2 := NB288_289.out
 have hms19_0 := NB289_276.out
 have hms19_1 := NB289_277.out
 have hms19_2 := NB289_288.out
 refine skip_ (w1 := ?_) (by rfl) rfl ?_ ?_
 rotate_left
 ·go_simp
  rfl
 refine hK.out _ _ ⟨((cell_far (p := ⟨gb289, _, none⟩) NB276_289.out _).trans (((cell_far (p := ⟨gb289, _, none⟩) NB276_289.out _).trans (hHeld.1)))), ((cell_far (p := ⟨gb289, _, none⟩) NB276_289.out _).trans (((cell_far (p := ⟨gb289, _, none⟩) NB276_289.out _).trans (hHeld.2))))⟩ (fun hHeld => ?_)
 clear hK K
 refine done_ (done_of HT_.out (by kernel_rfl)) ?_
 have hnb20 := NB288_276.out
 have hnc20 := NB276_288.out
 have hnb21 := NB288_277.out
 have hnc21 := NB277_288.out
 have hnb22 := NB288_289.out
 have hnc22 := NB289_288.out
 have hcz24_0 := pzc (v := .bool false) BK288 0 rfl
 have hcz24_1 := pzc (v := .slice none 0 0) BK288 1 rfl
 have hfz24_0 := zF BK288.out 0
 have hfz24_1 := zF BK288.out 1
 try go_wp2_with (first | ((with_reducible refine gate_callee (f := 60) rfl ?_); refine goesL_ (some 20) rfl rfl Try.func60 (by kernel_rfl) rfl #[.agg #[.bool t282, .slice Ao16 t283.length co16]] rfl (by (try simp only [zT, zC, zN]); first | done | rfl | (simp only [zR, zL]; rfl)) ?_; (with_reducible refine (integer_Bits.calls k t282 _ _ t283 t290 t291 t292 _ ?side1 ?side2 A5.out).mono ?_); (case side1 => refine (Kd.V_reads' (e := 76) (base := w.heap.size) (ok := fun k_ => (some k_ ≠ (v280 : Value).ownBlock ∧ (k_ ≠ g ∧ (k_ ≠ gb276 ∧ (k_ ≠ gb277 ∧ (k_ ≠ gb288 ∧ k_ ≠ gb289)))))) (n := t283.length) (c := co16) ?_).2.2; exact (by (with_reducible repeat (first | apply Kd.V_alloc | apply Kd.V_drewN | apply Kd.V_drew)); exact (Kd.V_mono (Kd.V_mono (Kd.V_far (p := ⟨gb289, 1, none⟩) (Kd.V_far (p := ⟨gb289, 0, none⟩) (Kd.V_far (p := ⟨gb288, 1, none⟩) (Kd.V_far (p := ⟨gb288, 0, none⟩) (Kd.V_mono (Kd.V_mono HO285.out (fun k_ hk => (⟨hk, hk.2.2.2.2.1⟩ : _ ∧ k_ ≠ gb288))) (fun k_ hk => (⟨hk, hk.1.2.2.2.2.2⟩ : _ ∧ k_ ≠ gb289))) (fun _ hk => hk.1.2) (.bool t282)) (fun _ hk => hk.1.2) (.slice Ao16 t283.length co16)) (fun _ hk => hk.2) (.int .i64 t286)) (fun _ hk => hk.2) (.int .i64 t287)) (fun _ h_ => h_.1)) (fun _ h_ => h_.1)))); (case side2 => exact (Kd.V_reads' HO285.out).2.1); rintro e w25 ⟨rfl, hb⟩; refine ⟨_, rfl, ?_⟩; have n0_ := zM (Kd.R_below (by (with_reducible repeat (first | apply Kd.R_alloc | apply Kd.R_drewN | apply Kd.R_drew)); exact (Kd.R_mono (Kd.R_mono (Kd.R_far (p := ⟨gb289, 1, none⟩) (Kd.R_far (p := ⟨gb289, 0, none⟩) (Kd.R_far (p := ⟨gb288, 1, none⟩) (Kd.R_far (p := ⟨gb288, 0, none⟩) (Kd.R_types (Kd.R_types HO281.out BK288.out (by decide)) BK289.out (by decide)) (fun _ hk => hk.1.2) (.bool t282)) (fun _ hk => hk.1.2) (.slice Ao16 t283.length co16)) (fun _ hk => hk.2) (.int .i64 t286)) (fun _ hk => hk.2) (.int .i64 t287)) (fun _ h_ => h_.1)) (fun _ h_ => h_.1))) hb); have n1_ := zM (Kd.V_below (by (with_reducible repeat (first | apply Kd.V_alloc | apply Kd.V_drewN | apply Kd.V_drew)); exact (Kd.V_mono (Kd.V_mono (Kd.V_far (p := ⟨gb289, 1, none⟩) (Kd.V_far (p := ⟨gb289, 0, none⟩) (Kd.V_far (p := ⟨gb288, 1, none⟩) (Kd.V_far (p := ⟨gb288, 0, none⟩) (Kd.V_mono (Kd.V_mono HO285.out (fun k_ hk => (⟨hk, hk.2.2.2.2.1⟩ : _ ∧ k_ ≠ gb288))) (fun k_ hk => (⟨hk, hk.1.2.2.2.2.2⟩ : _ ∧ k_ ≠ gb289))) (fun _ hk => hk.1.2) (.bool t282)) (fun _ hk => hk.1.2) (.slice Ao16 t283.length co16)) (fun _ hk => hk.2) (.int .i64 t286)) (fun _ hk => hk.2) (.int .i64 t287)) (fun _ h_ => h_.1)) (fun _ h_ => h_.1))) hb); have n2_ := zM (IsS81.below (show IsS81 w0 ((((w14.setCell ⟨gb288, 0, none⟩ (.bool t282)).setCell ⟨gb288, 1, none⟩ (.slice Ao16 t283.length co16)).setCell ⟨gb289, 0, none⟩ (.int .i64 t286)).setCell ⟨gb289, 1, none⟩ (.int .i64 t287)) g s0_0 s0_1 from by repeat (first | (with_reducible first | exact HI0.out | apply IsS81.alloc | apply IsS81.drewN | apply IsS81.drew | apply IsS81.set_0 | apply IsS81.set_1 | refine IsS81.far ?_ NB0_276.out _ | refine IsS81.far ?_ NB0_277.out _ | refine IsS81.far ?_ NB0_288.out _ | refine IsS81.far ?_ NB0_289.out _) | exact HI0.out)) hb); have n3_ := zM (blk_below (g := gb276) (o := .cells #[.bool a1_0, .slice A1_1 l1_1.length c1_1] 24 (0, 0)) (by (with_reducible repeat (first | apply pzN | apply pzd | apply pza)); refine blk_far ?_ NB276_289.out _; (with_reducible repeat (first | apply pzN | apply pzd | apply pza)); refine blk_far ?_ NB276_289.out _; (with_reducible repeat (first | apply pzN | apply pzd | apply pza)); refine blk_far ?_ NB276_288.out _; (with_reducible repeat (first | apply pzN | apply pzd | apply pza)); refine blk_far ?_ NB276_288.out _; (with_reducible repeat (first | apply pzN | apply pzd | apply pza)); exact BK276.out) hb); have n4_ := zM (blk_below (g := gb277) (o := .cells #[.bool false, .slice none 0 0] 24 (0, 0)) (by (with_reducible repeat (first | apply pzN | apply pzd | apply pza)); refine blk_far ?_ NB277_289.out _; (with_reducible repeat (first | apply pzN | apply pzd | apply pza)); refine blk_far ?_ NB277_289.out _; (with_reducible repeat (first | apply pzN | apply pzd | apply pza)); refine blk_far ?_ NB277_288.out _; (with_reducible repeat (first | apply pzN | apply pzd | apply pza)); refine blk_far ?_ NB277_288.out _; (with_reducible repeat (first | apply pzN | apply pzd | apply pza)); exact BK277.out) hb); have n5_ := zM (blk_below (g := gb288) (o := .cells #[.bool t282, .slice Ao16 t283.length co16] 24 (0, 0)) (by (with_reducible repeat (first | apply pzN | apply pzd | apply pza)); refine blk_far ?_ NB288_289.out _; (with_reducible repeat (first | apply pzN | apply pzd | apply pza)); refine blk_far ?_ NB288_289.out _; (with_reducible repeat (first | apply pzN | apply pzd | apply pza)); refine blk_put (cs := #[.bool t282, .slice none 0 0]) ?_ 1 _ rfl; (with_reducible repeat (first | apply pzN | apply pzd | apply pza)); refine blk_put (cs := #[.bool false, .slice none 0 0]) ?_ 0 _ rfl; (with_reducible repeat (first | apply pzN | apply pzd | apply pza)); exact BK288.out) hb); have n6_ := zM (blk_below (g := gb289) (o := .cells #[.int .i64 t286, .int .i64 t287] 29 (0, 0)) (by (with_reducible repeat (first | apply pzN | apply pzd | apply pza)); refine blk_put (cs := #[.int .i64 t286, .int .i64 0]) ?_ 1 _ rfl; (with_reducible repeat (first | apply pzN | apply pzd | apply pza)); refine blk_put (cs := #[.int .i64 0, .int .i64 0]) ?_ 0 _ rfl; (with_reducible repeat (first | apply pzN | apply pzd | apply pza)); refine blk_far ?_ NB289_288.out _; (with_reducible repeat (first | apply pzN | apply pzd | apply pza)); refine blk_far ?_ NB289_288.out _; (with_reducible repeat (first | apply pzN | apply pzd | apply pza)); exact BK289.out) hb); have n7_ := zM (KeepBut.trans (by repeat (first | (with_reducible first | exact HK.out | apply KeepBut.set_ | apply keep_drewN | apply keep_drew | apply keep_alloc | refine keep_far ?_ GW276.out _ | refine keep_far ?_ GW277.out _ | refine keep_far ?_ GW288.out _ | refine keep_far ?_ GW289.out _) | exact HK.out)) (KeepBut.of_below hb g none) (.inl rfl)); have n8_ := zM (below_step (by repeat (first | (with_reducible first | exact HB.out | apply below_alloc | apply pw_below_drewN | apply below_drew1 | refine below_set ?_ (IsS81.ge HI0.out) | refine below_setA ?_ (by assumption)) | exact HB.out)) hb); clear HO281; clear HO285; clear HI0; clear BK276; clear BK277; clear BK288; clear BK289; clear HK; clear HB; have HO281 := n0_; have HO285 := n1_; have HI0 := n2_; have BK276 := n3_; have BK277 := n4_; have BK288 := n5_; have BK289 := n6_; have HK := n7_; have HB := n8_; clear n0_ n1_ n2_ n3_ n4_ n5_ n6_ n7_ n8_; (try clear hb); (try clear hb2); (try clear hk); (try clear hi)) | ((with_reducible refine gate_dst (N := 8) rfl ?_); refine box_event ?hg (N := 8) ?hd (cs := #[.int .i64 0, .int .i64 0]) (t := 29) ?hr ?_; (case hd => rfl); (case hg => rfl); (case hr => first | (go_simp; done) | (go_simp; rfl)); intro gb293 hg w26 hbox hb; have BK293 := zM (hbox); have GW293 := zM ((by rw [hg]; exact (keep_size (w := w) (g := g) (row := none) (by repeat (first | (with_reducible first | exact HK.out | apply KeepBut.set_ | apply keep_drewN | apply keep_drew | apply keep_alloc | refine keep_far ?_ GW276.out _ | refine keep_far ?_ GW277.out _ | refine keep_far ?_ GW288.out _ | refine keep_far ?_ GW289.out _) | exact HK.out))) : w.heap.size ≤ gb293)); have GE293 := zM ((Nat.le_trans HW0.out (by rw [hg]; exact (keep_size (w := w) (g := g) (row := none) (by repeat (first | (with_reducible first | exact HK.out | apply KeepBut.set_ | apply keep_drewN | apply keep_drew | apply keep_alloc | refine keep_far ?_ GW276.out _ | refine keep_far ?_ GW277.out _ | refine keep_far ?_ GW288.out _ | refine keep_far ?_ GW289.out _) | exact HK.out))) : w.heap.size ≤ gb293) : w0.heap.size ≤ gb293)); have NB276_293 := pzf BK276 hg; have NB293_276 := pzg BK276 hg; have NB277_293 := pzf BK277 hg; have NB293_277 := pzg BK277 hg; have NB0_293 := zM ((by rw [hg]; exact Nat.ne_of_lt (IsS81.lt (show IsS81 w0 _ g s0_0 s0_1 from by repeat (first | (with_reducible first | exact HI0.out | apply IsS81.alloc | apply IsS81.drewN | apply IsS81.drew | apply IsS81.set_0 | apply IsS81.set_1 | refine IsS81.far ?_ NB0_276.out _ | refine IsS81.far ?_ NB0_277.out _ | refine IsS81.far ?_ NB0_288.out _ | refine IsS81.far ?_ NB0_289.out _) | exact HI0.out))) : g ≠ gb293)); replace HO281 := zM (Kd.R_below HO281.out hb); replace HO285 := zM (Kd.V_below (Kd.V_elderB HO285.out gb293 (Nat.le_of_eq hg.symm)) hb); replace BK276 := pzb BK276 hb; replace BK277 := pzb BK277 hb; replace HK := zM (KeepBut.trans (by repeat (first | (with_reducible first | exact HK.out | apply KeepBut.set_ | apply keep_drewN | apply keep_drew | apply keep_alloc | refine keep_far ?_ GW276.out _ | refine keep_far ?_ GW277.out _ | refine keep_far ?_ GW288.out _ | refine keep_far ?_ GW289.out _) | exact HK.out)) (KeepBut.of_below hb g none) (.inl rfl)); replace HB := zM (below_step (by repeat (first | (with_reducible first | exact HB.out | apply below_alloc | apply pw_below_drewN | apply below_drew1 | refine below_set ?_ (IsS81.ge HI0.out) | refine below_setA ?_ (by assumption)) | exact HB.out)) hb); replace HI0 := zM (IsS81.below (by repeat (first | (with_reducible first | exact HI0.out | apply IsS81.alloc | apply IsS81.drewN | apply IsS81.drew | apply IsS81.set_0 | apply IsS81.set_1 | refine IsS81.far ?_ NB0_276.out _ | refine IsS81.far ?_ NB0_277.out _ | refine IsS81.far ?_ NB0_288.out _ | refine IsS81.far ?_ NB0_289.out _) | exact HI0.out)) hb); clear hb hbox hg; have hnb27 := NB293_276.out; have hnc27 := NB276_293.out; have hnb28 := NB293_277.out; have hnc28 := NB277_293.out; have hcz32_0 := pzc (v := .int .i64 0) BK293 0 rfl; have hcz32_1 := pzc (v := .int .i64 0) BK293 1 rfl; have hfz32_0 := zF BK293.out 0; have hfz32_1 := zF BK293.out 1))
 go_loopg [] k (fun kq w' => ∃ (x1000_1 : Int) (x1001_1 : Int) (x278000_1 : Bool), Aside0 (random_source_below.l0 kq t290 x1000_1 x1001_1 a1_0 l1_1 = some (r1, r2, r3, r4)) ∧ Aside0 (kq ≤ k) ∧ Aside0 (w'.heap[gb276]? = some (.cells #[.bool a1_0, (.slice A1_1 l1_1.length c1_1)] 24 (0, 0))) ∧ Aside0 (w'.heap[gb277]? = some (.cells #[.bool x278000_1, (.slice none 0 0)] 24 (0, 0))) ∧ Aside0 (IsS81 w0 w' g x1000_1 x1001_1) ∧ Aside0 (KeepBut w w' g none) ∧ Aside0 (Below w0.heap.size w0 w'))
 case atStart => exact ⟨(s0_0), (s0_1), (false), H', ⟨Nat.le_refl _⟩, ⟨by (with_reducible repeat (first | apply pzN | apply pzd | apply pza)); refine blk_far ?_ NB276_293.out _; (with_reducible repeat (first | apply pzN | apply pzd | apply pza)); refine blk_far ?_ NB276_293.out _; (with_reducible repeat (first | apply pzN | apply pzd | apply pza)); exact BK276.out⟩, ⟨by (with_reducible repeat (first | apply pzN | apply pzd | apply pza)); refine blk_far ?_ NB277_293.out _; (with_reducible repeat (first | apply pzN | apply pzd | apply pza)); refine blk_far ?_ NB277_293.out _; (with_reducible repeat (first | apply pzN | apply pzd | apply pza)); exact BK277.out⟩, ⟨by repeat (first | (with_reducible first | exact HI0.out | apply IsS81.alloc | apply IsS81.drewN | apply IsS81.drew | apply IsS81.set_0 | apply IsS81.set_1 | refine IsS81.far ?_ NB0_276.out _ | refine IsS81.far ?_ NB0_277.out _ | refine IsS81.far ?_ NB0_288.out _ | refine IsS81.far ?_ NB0_289.out _ | refine IsS81.far ?_ NB0_293.out _) | exact HI0.out)⟩, ⟨by repeat (first | (with_reducible first | exact HK.out | apply KeepBut.set_ | apply keep_drewN | apply keep_drew | apply keep_alloc | refine keep_far ?_ GW276.out _ | refine keep_far ?_ GW277.out _ | refine keep_far ?_ GW288.out _ | refine keep_far ?_ GW289.out _ | refine keep_far ?_ GW293.out _) | exact HK.out)⟩, ⟨by repeat (first | (with_reducible first | exact HB.out | apply below_alloc | apply pw_below_drewN | apply below_drew1 | refine below_set ?_ (IsS81.ge HI0.out) | refine below_setA ?_ (by assumption)) | exact HB.out)⟩⟩
 case round =>
  clear H'
  try clear c1
  try clear c2
  try clear p2
  try clear c3
  try clear c4
  try clear c6
  try clear c20
  try clear c21
  try clear c22
  try clear c23
  try clear c27
  try clear c28
  try clear c29
  try clear c30
  try clear c31
  try clear hcz24_0
  try clear hcz24_1
  try clear hcz32_0
  try clear hcz32_1
  try clear hfz24_0
  try clear hfz24_1
  try clear hfz32_0
  try clear hfz32_1
  obtain ⟨x1000_1, x1001_1, x278000_1, HA, HK1, BK276, BK277, HI0, HK, HB⟩ := hrel
  cases gk with
  | zero => exact absurd HA.out (by simp [random_source_below.l0])
  | succ k1 =>
   have H := HA.out
   clear HA
   simp only [random_source_below.l0] at H
   replace H := zB H
   obtain ⟨⟨t294, t295, t298, t299⟩, A330, H⟩ := H
   replace H : ((integer_Cmp.f k1 t294 t295 a1_0 l1_1).bind fun bt301 => (if bt301.1 < 0 then (some (t294, t295, t298, t299)) else (random_source_below.l0 k1 t290 t298 t299 a1_0 l1_1))) = some (r1, r2, r3, r4) := H
   have A33 := zM A330
   clear A330
   replace H := zB H
   obtain ⟨⟨t301, t302, t303⟩, A340, H⟩ := H
   replace H : (if t301 < 0 then (some (t294, t295, t298, t299)) else (random_source_below.l0 k1 t290 t298 t299 a1_0 l1_1)) = some (r1, r2, r3, r4) := H
   have A34 := zM A340
   clear A340
   by_cases c35 : t301 < 0
   ·rw [if_pos c35] at H
    have c35b0 : decide (t301 < 0) = true := zE c35
    clear c35
    simp only [Option.some.injEq, Prod.mk.injEq] at H
    obtain ⟨rfl, rfl, rfl, rfl⟩ := H
    go_wp2_with (first | ((with_reducible refine gate_callee (f := 61) rfl ?_); refine goesL_ (some 25) rfl rfl Try.func61 (by kernel_rfl) rfl #[.pointer (some ⟨g, 0, none⟩), .int .i64 t290] rfl (by (try simp only [zT, zC, zN]); first | done | rfl | (simp only [zR, zL]; rfl)) ?_; (with_reducible refine (random_source_bits.calls k1 g x1000_1 x1001_1 t290 t294 t295 t298 t299 w0 _ ?side1 ?side2 A33.out).mono ?_); (case side1 => repeat (first | (with_reducible first | exact HI0.out | apply IsS81.alloc | apply IsS81.drewN | apply IsS81.drew | apply IsS81.set_0 | apply IsS81.set_1 | refine IsS81.far ?_ NB0_276.out _ | refine IsS81.far ?_ NB0_277.out _) | exact HI0.out)); (case side2 => repeat (first | (with_reducible first | exact HB.out | apply below_alloc | apply pw_below_drewN | apply below_drew1 | refine below_set ?_ (IsS81.ge HI0.out) | refine below_setA ?_ (by assumption)) | exact HB.out)); rintro e w36 ⟨v296, rfl, ho0, hi, hb, hk⟩; refine ⟨_, rfl, ?_⟩; have HO297 := zM (Kd.R_lower ho0 (keep_size (w := w) (g := g) (row := none) (by repeat (first | (with_reducible first | exact HK.out | apply KeepBut.set_ | apply keep_drewN | apply keep_drew | apply keep_alloc | refine keep_far ?_ GW276.out _ | refine keep_far ?_ GW277.out _) | exact HK.out)))); replace BK276 := zM (KeepBut.blk hk (g' := gb276) (o := .cells #[.bool a1_0, .slice A1_1 l1_1.length c1_1] 24 (0, 0)) BK276.out NB276_0.out (by simp)); replace BK277 := zM (KeepBut.blk hk (g' := gb277) (o := .cells #[.bool x278000_1, .slice none 0 0] 24 (0, 0)) BK277.out NB277_0.out (by simp)); replace HK := zM (KeepBut.trans (by repeat (first | (with_reducible first | exact HK.out | apply KeepBut.set_ | apply keep_drewN | apply keep_drew | apply keep_alloc | refine keep_far ?_ GW276.out _ | refine keep_far ?_ GW277.out _) | exact HK.out)) hk (.inl rfl)); replace HB := zM (hb); replace HI0 := zM (hi); (try clear hb); (try clear hb2); (try clear hk); (try clear hi); (try clear ho0)) | ((with_reducible refine gate_dst (N := 9) rfl ?_); refine box_event ?hg (N := 9) ?hd (cs := #[.bool false, .slice none 0 0]) (t := 24) ?hr ?_; (case hd => rfl); (case hg => rfl); (case hr => first | (go_simp; done) | (go_simp; rfl)); intro gb300 hg w37 hbox hb; have BK300 := zM (hbox); have GW300 := zM ((by rw [hg]; exact (keep_size (w := w) (g := g) (row := none) (by repeat (first | (with_reducible first | exact HK.out | apply KeepBut.set_ | apply keep_drewN | apply keep_drew | apply keep_alloc | refine keep_far ?_ GW276.out _ | refine keep_far ?_ GW277.out _) | exact HK.out))) : w.heap.size ≤ gb300)); have GE300 := zM ((Nat.le_trans HW0.out (by rw [hg]; exact (keep_size (w := w) (g := g) (row := none) (by repeat (first | (with_reducible first | exact HK.out | apply KeepBut.set_ | apply keep_drewN | apply keep_drew | apply keep_alloc | refine keep_far ?_ GW276.out _ | refine keep_far ?_ GW277.out _) | exact HK.out))) : w.heap.size ≤ gb300) : w0.heap.size ≤ gb300)); have NB276_300 := pzf BK276 hg; have NB300_276 := pzg BK276 hg; have NB277_300 := pzf BK277 hg; have NB300_277 := pzg BK277 hg; have NB0_300 := zM ((by rw [hg]; exact Nat.ne_of_lt (IsS81.lt (show IsS81 w0 _ g t298 t299 from by repeat (first | (with_reducible first | exact HI0.out | apply IsS81.alloc | apply IsS81.drewN | apply IsS81.drew | apply IsS81.set_0 | apply IsS81.set_1 | refine IsS81.far ?_ NB0_276.out _ | refine IsS81.far ?_ NB0_277.out _) | exact HI0.out))) : g ≠ gb300)); replace HO297 := zM (Kd.R_below HO297.out hb); replace BK276 := pzb BK276 hb; replace BK277 := pzb BK277 hb; replace HK := zM (KeepBut.trans (by repeat (first | (with_reducible first | exact HK.out | apply KeepBut.set_ | apply keep_drewN | apply keep_drew | apply keep_alloc | refine keep_far ?_ GW276.out _ | refine keep_far ?_ GW277.out _) | exact HK.out)) (KeepBut.of_below hb g none) (.inl rfl)); replace HB := zM (below_step (by repeat (first | (with_reducible first | exact HB.out | apply below_alloc | apply pw_below_drewN | apply below_drew1 | refine below_set ?_ (IsS81.ge HI0.out) | refine below_setA ?_ (by assumption)) | exact HB.out)) hb); replace HI0 := zM (IsS81.below (by repeat (first | (with_reducible first | exact HI0.out | apply IsS81.alloc | apply IsS81.drewN | apply IsS81.drew | apply IsS81.set_0 | apply IsS81.set_1 | refine IsS81.far ?_ NB0_276.out _ | refine IsS81.far ?_ NB0_277.out _) | exact HI0.out)) hb); clear hb hbox hg; have hnb38 := NB300_276.out; have hnc38 := NB276_300.out; have hnb39 := NB300_277.out; have hnc39 := NB277_300.out; have hcz41_0 := pzc (v := .bool false) BK300 0 rfl; have hcz41_1 := pzc (v := .slice none 0 0) BK300 1 rfl; have hfz41_0 := zF BK300.out 0; have hfz41_1 := zF BK300.out 1; obtain ⟨Ao42, co42, eo42⟩ := Kd.R_slice HO297.out; subst eo42; have hnb43 := NB276_277.out; have hnc43 := NB277_276.out; have hcz45_0 := pzc (v := .bool a1_0) BK276 0 rfl; have hcz45_1 := pzc (v := .slice A1_1 l1_1.length c1_1) BK276 1 rfl; have hfz45_0 := zF BK276.out 0; have hfz45_1 := zF BK276.out 1) | ((with_reducible refine gate_callee (f := 44) rfl ?_); refine goesL_ (some 29) rfl rfl Try.func44 (by kernel_rfl) rfl #[.agg #[.bool t294, .slice Ao42 t295.length co42], .agg #[.bool a1_0, .slice A1_1 l1_1.length c1_1]] rfl (by (try simp only [zT, zC, zN]); first | done | rfl | (simp only [zR, zL]; rfl)) ?_; (with_reducible refine (integer_Cmp.calls k1 t294 _ _ t295 a1_0 _ _ l1_1 t301 t302 t303 _ ?side1 ?side2 ?side3 ?side4 A34.out).mono ?_); (case side1 => refine (Kd.R_reads' (e := 76) (base := w.heap.size) (ok := fun k_ => True) (n := t295.length) (c := co42) ?_).2.2; exact (by (with_reducible repeat (first | apply Kd.R_alloc | apply Kd.R_drewN | apply Kd.R_drew)); exact (Kd.R_mono (Kd.R_far (p := ⟨gb300, 1, none⟩) (Kd.R_far (p := ⟨gb300, 0, none⟩) (Kd.R_types HO297.out BK300.out (by decide)) (fun _ hk => hk.2) (.bool t294)) (fun _ hk => hk.2) (.slice Ao42 t295.length co42)) (fun _ h_ => h_.1)))); (case side2 => exact (Kd.R_reads' HO297.out).2.1); (case side3 => exact Kd.C_keep 0 HR1_1.out (by repeat (first | (with_reducible first | exact HK.out | apply KeepBut.set_ | apply keep_drewN | apply keep_drew | apply keep_alloc | refine keep_far ?_ GW276.out _ | refine keep_far ?_ GW277.out _ | refine keep_far ?_ GW300.out _) | exact HK.out)) hf1_1); (case side4 => exact HC1_1.out); rintro e w46 ⟨rfl, hb⟩; refine ⟨_, rfl, ?_⟩; replace HO297 := zM (Kd.R_below (by (with_reducible repeat (first | apply Kd.R_alloc | apply Kd.R_drewN | apply Kd.R_drew)); exact (Kd.R_mono (Kd.R_far (p := ⟨gb300, 1, none⟩) (Kd.R_far (p := ⟨gb300, 0, none⟩) (Kd.R_types HO297.out BK300.out (by decide)) (fun _ hk => hk.2) (.bool t294)) (fun _ hk => hk.2) (.slice Ao42 t295.length co42)) (fun _ h_ => h_.1))) hb); replace BK277 := zM (blk_below (g := gb277) (o := .cells #[.bool x278000_1, .slice none 0 0] 24 (0, 0)) (by (with_reducible repeat (first | apply pzN | apply pzd | apply pza)); refine blk_far ?_ NB277_300.out _; (with_reducible repeat (first | apply pzN | apply pzd | apply pza)); refine blk_far ?_ NB277_300.out _; (with_reducible repeat (first | apply pzN | apply pzd | apply pza)); exact BK277.out) hb); replace BK300 := zM (blk_below (g := gb300) (o := .cells #[.bool t294, .slice Ao42 t295.length co42] 24 (0, 0)) (by (with_reducible repeat (first | apply pzN | apply pzd | apply pza)); refine blk_put (cs := #[.bool t294, .slice none 0 0]) ?_ 1 _ rfl; (with_reducible repeat (first | apply pzN | apply pzd | apply pza)); refine blk_put (cs := #[.bool false, .slice none 0 0]) ?_ 0 _ rfl; (with_reducible repeat (first | apply pzN | apply pzd | apply pza)); exact BK300.out) hb); replace HK := zM (KeepBut.trans (by repeat (first | (with_reducible first | exact HK.out | apply KeepBut.set_ | apply keep_drewN | apply keep_drew | apply keep_alloc | refine keep_far ?_ GW276.out _ | refine keep_far ?_ GW277.out _ | refine keep_far ?_ GW300.out _) | exact HK.out)) (KeepBut.of_below hb g none) (.inl rfl)); replace HB := zM (below_step (by repeat (first | (with_reducible first | exact HB.out | apply below_alloc | apply pw_below_drewN | apply below_drew1 | refine below_set ?_ (IsS81.ge HI0.out) | refine below_setA ?_ (by assumption)) | exact HB.out)) hb); replace HI0 := zM (IsS81.below (show IsS81 w0 ((w37.setCell ⟨gb300, 0, none⟩ (.bool t294)).setCell ⟨gb300, 1, none⟩ (.slice Ao42 t295.length co42)) g t298 t299 from by repeat (first | (with_reducible first | exact HI0.out | apply IsS81.alloc | apply IsS81.drewN | apply IsS81.drew | apply IsS81.set_0 | apply IsS81.set_1 | refine IsS81.far ?_ NB0_276.out _ | refine IsS81.far ?_ NB0_277.out _ | refine IsS81.far ?_ NB0_300.out _) | exact HI0.out)) hb); (try clear hb); (try clear hb2); (try clear hk); (try clear hi)) | ((with_reducible refine gate_dst (N := 11) rfl ?_); refine box_event ?hg (N := 11) ?hd (cs := #[.int .i64 0, .int .i64 0]) (t := 29) ?hr ?_; (case hd => rfl); (case hg => rfl); (case hr => first | (go_simp; done) | (go_simp; rfl)); intro gb304 hg w47 hbox hb; have BK304 := zM (hbox); have GW304 := zM ((by rw [hg]; exact (keep_size (w := w) (g := g) (row := none) (by repeat (first | (with_reducible first | exact HK.out | apply KeepBut.set_ | apply keep_drewN | apply keep_drew | apply keep_alloc | refine keep_far ?_ GW276.out _ | refine keep_far ?_ GW277.out _ | refine keep_far ?_ GW300.out _) | exact HK.out))) : w.heap.size ≤ gb304)); have GE304 := zM ((Nat.le_trans HW0.out (by rw [hg]; exact (keep_size (w := w) (g := g) (row := none) (by repeat (first | (with_reducible first | exact HK.out | apply KeepBut.set_ | apply keep_drewN | apply keep_drew | apply keep_alloc | refine keep_far ?_ GW276.out _ | refine keep_far ?_ GW277.out _ | refine keep_far ?_ GW300.out _) | exact HK.out))) : w.heap.size ≤ gb304) : w0.heap.size ≤ gb304)); have NB277_304 := pzf BK277 hg; have NB304_277 := pzg BK277 hg; have NB300_304 := pzf BK300 hg; have NB304_300 := pzg BK300 hg; have NB0_304 := zM ((by rw [hg]; exact Nat.ne_of_lt (IsS81.lt (show IsS81 w0 _ g t298 t299 from by repeat (first | (with_reducible first | exact HI0.out | apply IsS81.alloc | apply IsS81.drewN | apply IsS81.drew | apply IsS81.set_0 | apply IsS81.set_1 | refine IsS81.far ?_ NB0_276.out _ | refine IsS81.far ?_ NB0_277.out _ | refine IsS81.far ?_ NB0_300.out _) | exact HI0.out))) : g ≠ gb304)); replace HO297 := zM (Kd.R_below HO297.out hb); replace BK277 := pzb BK277 hb; replace BK300 := pzb BK300 hb; replace HK := zM (KeepBut.trans (by repeat (first | (with_reducible first | exact HK.out | apply KeepBut.set_ | apply keep_drewN | apply keep_drew | apply keep_alloc | refine keep_far ?_ GW276.out _ | refine keep_far ?_ GW277.out _ | refine keep_far ?_ GW300.out _) | exact HK.out)) (KeepBut.of_below hb g none) (.inl rfl)); replace HB := zM (below_step (by repeat (first | (with_reducible first | exact HB.out | apply below_alloc | apply pw_below_drewN | apply below_drew1 | refine below_set ?_ (IsS81.ge HI0.out) | refine below_setA ?_ (by assumption)) | exact HB.out)) hb); replace HI0 := zM (IsS81.below (by repeat (first | (with_reducible first | exact HI0.out | apply IsS81.alloc | apply IsS81.drewN | apply IsS81.drew | apply IsS81.set_0 | apply IsS81.set_1 | refine IsS81.far ?_ NB0_276.out _ | refine IsS81.far ?_ NB0_277.out _ | refine IsS81.far ?_ NB0_300.out _) | exact HI0.out)) hb); clear hb hbox hg; have hnb49 := NB304_277.out; have hnc49 := NB277_304.out; have hnb50 := NB304_300.out; have hnc50 := NB300_304.out; have hcz52_0 := pzc (v := .int .i64 0) BK304 0 rfl; have hcz52_1 := pzc (v := .int .i64 0) BK304 1 rfl; have hfz52_0 := zF BK304.out 0; have hfz52_1 := zF BK304.out 1; have hcz53_0 := pzc (v := .bool t294) BK300 0 rfl; have hcz53_1 := pzc (v := .slice Ao42 t295.length co42) BK300 1 rfl; have hfz53_0 := zF BK300.out 0; have hfz53_1 := zF BK300.out 1; have hcz55_0 := pzc (v := .bool x278000_1) BK277 0 rfl; have hcz55_1 := pzc (v := .slice none 0 0) BK277 1 rfl; have hfz55_0 := zF BK277.out 0; have hfz55_1 := zF BK277.out 1))
    refine bodyPost_ret (results_cell_row rfl _ _ gb277 24 #[.bool t294, .slice Ao42 t295.length co42] (0, 0) _ rfl (by (with_reducible repeat (first | apply pzN | apply pzd | apply pza)); refine blk_put (cs := #[.bool t294, .slice none 0 0]) ?_ 1 _ rfl; (with_reducible repeat (first | apply pzN | apply pzd | apply pza)); refine blk_put (cs := #[.bool x278000_1, .slice none 0 0]) ?_ 0 _ rfl; (with_reducible repeat (first | apply pzN | apply pzd | apply pza)); refine blk_far ?_ NB277_304.out _; (with_reducible repeat (first | apply pzN | apply pzd | apply pza)); refine blk_far ?_ NB277_304.out _; (with_reducible repeat (first | apply pzN | apply pzd | apply pza)); exact BK277.out) Try.underlying24 rfl (by kernel_rfl)) rfl ?_
    exact ⟨_, by first | rfl | (simp [errW_none, errW_some] <;> rfl) | (simp [*, errW_none, errW_some] <;> rfl), by (with_reducible repeat (first | apply Kd.R_alloc | apply Kd.R_drewN | apply Kd.R_drew)); exact Kd.R_mono (Kd.R_far (p := ⟨gb277, 1, none⟩) (Kd.R_far (p := ⟨gb277, 0, none⟩) (Kd.R_far (p := ⟨gb304, 1, none⟩) (Kd.R_far (p := ⟨gb304, 0, none⟩) (Kd.R_types (Kd.R_types HO297.out BK304.out (by decide)) BK277.out (by decide)) (fun _ hk => hk.1.2) (.int .i64 t302)) (fun _ hk => hk.1.2) (.int .i64 t303)) (fun _ hk => hk.2) (.bool t294)) (fun _ hk => hk.2) (.slice Ao42 t295.length co42)) (fun _ hk => trivial), by repeat (first | (with_reducible first | exact HI0.out | apply IsS81.alloc | apply IsS81.drewN | apply IsS81.drew | apply IsS81.set_0 | apply IsS81.set_1 | refine IsS81.far ?_ NB0_276.out _ | refine IsS81.far ?_ NB0_277.out _ | refine IsS81.far ?_ NB0_300.out _ | refine IsS81.far ?_ NB0_304.out _) | exact HI0.out), by repeat (first | (with_reducible first | exact HB.out | apply below_alloc | apply pw_below_drewN | apply below_drew1 | refine below_set ?_ (IsS81.ge HI0.out) | refine below_setA ?_ (by assumption)) | exact HB.out), by repeat (first | (with_reducible first | exact HK.out | apply KeepBut.set_ | apply keep_drewN | apply keep_drew | apply keep_alloc | refine keep_far ?_ GW276.out _ | refine keep_far ?_ GW277.out _ | refine keep_far ?_ GW300.out _ | refine keep_far ?_ GW304.out _) | exact HK.out)⟩
   ·rw [if_neg c35] at H
    have c35b0 : decide (t301 < 0) = false := decide_eq_false c35
    clear c35
    have H' := zM H
    clear H
    go_wp2_with (first | ((with_reducible refine gate_callee (f := 61) rfl ?_); refine goesL_ (some 25) rfl rfl Try.func61 (by kernel_rfl) rfl #[.pointer (some ⟨g, 0, none⟩), .int .i64 t290] rfl (by (try simp only [zT, zC, zN]); first | done | rfl | (simp only [zR, zL]; rfl)) ?_; (with_reducible refine (random_source_bits.calls k1 g x1000_1 x1001_1 t290 t294 t295 t298 t299 w0 _ ?side1 ?side2 A33.out).mono ?_); (case side1 => repeat (first | (with_reducible first | exact HI0.out | apply IsS81.alloc | apply IsS81.drewN | apply IsS81.drew | apply IsS81.set_0 | apply IsS81.set_1 | refine IsS81.far ?_ NB0_276.out _ | refine IsS81.far ?_ NB0_277.out _) | exact HI0.out)); (case side2 => repeat (first | (with_reducible first | exact HB.out | apply below_alloc | apply pw_below_drewN | apply below_drew1 | refine below_set ?_ (IsS81.ge HI0.out) | refine below_setA ?_ (by assumption)) | exact HB.out)); rintro e w56 ⟨v296, rfl, ho0, hi, hb, hk⟩; refine ⟨_, rfl, ?_⟩; have HO297 := zM (Kd.R_lower ho0 (keep_size (w := w) (g := g) (row := none) (by repeat (first | (with_reducible first | exact HK.out | apply KeepBut.set_ | apply keep_drewN | apply keep_drew | apply keep_alloc | refine keep_far ?_ GW276.out _ | refine keep_far ?_ GW277.out _) | exact HK.out)))); replace BK276 := zM (KeepBut.blk hk (g' := gb276) (o := .cells #[.bool a1_0, .slice A1_1 l1_1.length c1_1] 24 (0, 0)) BK276.out NB276_0.out (by simp)); replace BK277 := zM (KeepBut.blk hk (g' := gb277) (o := .cells #[.bool x278000_1, .slice none 0 0] 24 (0, 0)) BK277.out NB277_0.out (by simp)); replace HK := zM (KeepBut.trans (by repeat (first | (with_reducible first | exact HK.out | apply KeepBut.set_ | apply keep_drewN | apply keep_drew | apply keep_alloc | refine keep_far ?_ GW276.out _ | refine keep_far ?_ GW277.out _) | exact HK.out)) hk (.inl rfl)); replace HB := zM (hb); replace HI0 := zM (hi); (try clear hb); (try clear hb2); (try clear hk); (try clear hi); (try clear ho0)) | ((with_reducible refine gate_dst (N := 9) rfl ?_); refine box_event ?hg (N := 9) ?hd (cs := #[.bool false, .slice none 0 0]) (t := 24) ?hr ?_; (case hd => rfl); (case hg => rfl); (case hr => first | (go_simp; done) | (go_simp; rfl)); intro gb300 hg w57 hbox hb; have BK300 := zM (hbox); have GW300 := zM ((by rw [hg]; exact (keep_size (w := w) (g := g) (row := none) (by repeat (first | (with_reducible first | exact HK.out | apply KeepBut.set_ | apply keep_drewN | apply keep_drew | apply keep_alloc | refine keep_far ?_ GW276.out _ | refine keep_far ?_ GW277.out _) | exact HK.out))) : w.heap.size ≤ gb300)); have GE300 := zM ((Nat.le_trans HW0.out (by rw [hg]; exact (keep_size (w := w) (g := g) (row := none) (by repeat (first | (with_reducible first | exact HK.out | apply KeepBut.set_ | apply keep_drewN | apply keep_drew | apply keep_alloc | refine keep_far ?_ GW276.out _ | refine keep_far ?_ GW277.out _) | exact HK.out))) : w.heap.size ≤ gb300) : w0.heap.size ≤ gb300)); have NB276_300 := pzf BK276 hg; have NB300_276 := pzg BK276 hg; have NB277_300 := pzf BK277 hg; have NB300_277 := pzg BK277 hg; have NB0_300 := zM ((by rw [hg]; exact Nat.ne_of_lt (IsS81.lt (show IsS81 w0 _ g t298 t299 from by repeat (first | (with_reducible first | exact HI0.out | apply IsS81.alloc | apply IsS81.drewN | apply IsS81.drew | apply IsS81.set_0 | apply IsS81.set_1 | refine IsS81.far ?_ NB0_276.out _ | refine IsS81.far ?_ NB0_277.out _) | exact HI0.out))) : g ≠ gb300)); replace HO297 := zM (Kd.R_below HO297.out hb); replace BK276 := pzb BK276 hb; replace BK277 := pzb BK277 hb; replace HK := zM (KeepBut.trans (by repeat (first | (with_reducible first | exact HK.out | apply KeepBut.set_ | apply keep_drewN | apply keep_drew | apply keep_alloc | refine keep_far ?_ GW276.out _ | refine keep_far ?_ GW277.out _) | exact HK.out)) (KeepBut.of_below hb g none) (.inl rfl)); replace HB := zM (below_step (by repeat (first | (with_reducible first | exact HB.out | apply below_alloc | apply pw_below_drewN | apply below_drew1 | refine below_set ?_ (IsS81.ge HI0.out) | refine below_setA ?_ (by assumption)) | exact HB.out)) hb); replace HI0 := zM (IsS81.below (by repeat (first | (with_reducible first | exact HI0.out | apply IsS81.alloc | apply IsS81.drewN | apply IsS81.drew | apply IsS81.set_0 | apply IsS81.set_1 | refine IsS81.far ?_ NB0_276.out _ | refine IsS81.far ?_ NB0_277.out _) | exact HI0.out)) hb); clear hb hbox hg; have hnb58 := NB300_276.out; have hnc58 := NB276_300.out; have hnb59 := NB300_277.out; have hnc59 := NB277_300.out; have hcz61_0 := pzc (v := .bool false) BK300 0 rfl; have hcz61_1 := pzc (v := .slice none 0 0) BK300 1 rfl; have hfz61_0 := zF BK300.out 0; have hfz61_1 := zF BK300.out 1; obtain ⟨Ao62, co62, eo62⟩ := Kd.R_slice HO297.out; subst eo62; have hnb63 := NB276_277.out; have hnc63 := NB277_276.out; have hcz65_0 := pzc (v := .bool a1_0) BK276 0 rfl; have hcz65_1 := pzc (v := .slice A1_1 l1_1.length c1_1) BK276 1 rfl; have hfz65_0 := zF BK276.out 0; have hfz65_1 := zF BK276.out 1) | ((with_reducible refine gate_callee (f := 44) rfl ?_); refine goesL_ (some 29) rfl rfl Try.func44 (by kernel_rfl) rfl #[.agg #[.bool t294, .slice Ao62 t295.length co62], .agg #[.bool a1_0, .slice A1_1 l1_1.length c1_1]] rfl (by (try simp only [zT, zC, zN]); first | done | rfl | (simp only [zR, zL]; rfl)) ?_; (with_reducible refine (integer_Cmp.calls k1 t294 _ _ t295 a1_0 _ _ l1_1 t301 t302 t303 _ ?side1 ?side2 ?side3 ?side4 A34.out).mono ?_); (case side1 => refine (Kd.R_reads' (e := 76) (base := w.heap.size) (ok := fun k_ => True) (n := t295.length) (c := co62) ?_).2.2; exact (by (with_reducible repeat (first | apply Kd.R_alloc | apply Kd.R_drewN | apply Kd.R_drew)); exact (Kd.R_mono (Kd.R_far (p := ⟨gb300, 1, none⟩) (Kd.R_far (p := ⟨gb300, 0, none⟩) (Kd.R_types HO297.out BK300.out (by decide)) (fun _ hk => hk.2) (.bool t294)) (fun _ hk => hk.2) (.slice Ao62 t295.length co62)) (fun _ h_ => h_.1)))); (case side2 => exact (Kd.R_reads' HO297.out).2.1); (case side3 => exact Kd.C_keep 0 HR1_1.out (by repeat (first | (with_reducible first | exact HK.out | apply KeepBut.set_ | apply keep_drewN | apply keep_drew | apply keep_alloc | refine keep_far ?_ GW276.out _ | refine keep_far ?_ GW277.out _ | refine keep_far ?_ GW300.out _) | exact HK.out)) hf1_1); (case side4 => exact HC1_1.out); rintro e w66 ⟨rfl, hb⟩; refine ⟨_, rfl, ?_⟩; replace HO297 := zM (Kd.R_below (by (with_reducible repeat (first | apply Kd.R_alloc | apply Kd.R_drewN | apply Kd.R_drew)); exact (Kd.R_mono (Kd.R_far (p := ⟨gb300, 1, none⟩) (Kd.R_far (p := ⟨gb300, 0, none⟩) (Kd.R_types HO297.out BK300.out (by decide)) (fun _ hk => hk.2) (.bool t294)) (fun _ hk => hk.2) (.slice Ao62 t295.length co62)) (fun _ h_ => h_.1))) hb); replace BK276 := zM (blk_below (g := gb276) (o := .cells #[.bool a1_0, .slice A1_1 l1_1.length c1_1] 24 (0, 0)) (by (with_reducible repeat (first | apply pzN | apply pzd | apply pza)); refine blk_far ?_ NB276_300.out _; (with_reducible repeat (first | apply pzN | apply pzd | apply pza)); refine blk_far ?_ NB276_300.out _; (with_reducible repeat (first | apply pzN | apply pzd | apply pza)); exact BK276.out) hb); replace BK277 := zM (blk_below (g := gb277) (o := .cells #[.bool x278000_1, .slice none 0 0] 24 (0, 0)) (by (with_reducible repeat (first | apply pzN | apply pzd | apply pza)); refine blk_far ?_ NB277_300.out _; (with_reducible repeat (first | apply pzN | apply pzd | apply pza)); refine blk_far ?_ NB277_300.out _; (with_reducible repeat (first | apply pzN | apply pzd | apply pza)); exact BK277.out) hb); replace HK := zM (KeepBut.trans (by repeat (first | (with_reducible first | exact HK.out | apply KeepBut.set_ | apply keep_drewN | apply keep_drew | apply keep_alloc | refine keep_far ?_ GW276.out _ | refine keep_far ?_ GW277.out _ | refine keep_far ?_ GW300.out _) | exact HK.out)) (KeepBut.of_below hb g none) (.inl rfl)); replace HB := zM (below_step (by repeat (first | (with_reducible first | exact HB.out | apply below_alloc | apply pw_below_drewN | apply below_drew1 | refine below_set ?_ (IsS81.ge HI0.out) | refine below_setA ?_ (by assumption)) | exact HB.out)) hb); replace HI0 := zM (IsS81.below (show IsS81 w0 ((w57.setCell ⟨gb300, 0, none⟩ (.bool t294)).setCell ⟨gb300, 1, none⟩ (.slice Ao62 t295.length co62)) g t298 t299 from by repeat (first | (with_reducible first | exact HI0.out | apply IsS81.alloc | apply IsS81.drewN | apply IsS81.drew | apply IsS81.set_0 | apply IsS81.set_1 | refine IsS81.far ?_ NB0_276.out _ | refine IsS81.far ?_ NB0_277.out _ | refine IsS81.far ?_ NB0_300.out _) | exact HI0.out)) hb); (try clear hb); (try clear hb2); (try clear hk); (try clear hi)) | ((with_reducible refine gate_dst (N := 11) rfl ?_); refine box_event ?hg (N := 11) ?hd (cs := #[.int .i64 0, .int .i64 0]) (t := 29) ?hr ?_; (case hd => rfl); (case hg => rfl); (case hr => first | (go_simp; done) | (go_simp; rfl)); intro gb304 hg w67 hbox hb; have BK304 := zM (hbox); have GW304 := zM ((by rw [hg]; exact (keep_size (w := w) (g := g) (row := none) (by repeat (first | (with_reducible first | exact HK.out | apply KeepBut.set_ | apply keep_drewN | apply keep_drew | apply keep_alloc | refine keep_far ?_ GW276.out _ | refine keep_far ?_ GW277.out _ | refine keep_far ?_ GW300.out _) | exact HK.out))) : w.heap.size ≤ gb304)); have GE304 := zM ((Nat.le_trans HW0.out (by rw [hg]; exact (keep_size (w := w) (g := g) (row := none) (by repeat (first | (with_reducible first | exact HK.out | apply KeepBut.set_ | apply keep_drewN | apply keep_drew | apply keep_alloc | refine keep_far ?_ GW276.out _ | refine keep_far ?_ GW277.out _ | refine keep_far ?_ GW300.out _) | exact HK.out))) : w.heap.size ≤ gb304) : w0.heap.size ≤ gb304)); have NB276_304 := pzf BK276 hg; have NB304_276 := pzg BK276 hg; have NB277_304 := pzf BK277 hg; have NB304_277 := pzg BK277 hg; have NB0_304 := zM ((by rw [hg]; exact Nat.ne_of_lt (IsS81.lt (show IsS81 w0 _ g t298 t299 from by repeat (first | (with_reducible first | exact HI0.out | apply IsS81.alloc | apply IsS81.drewN | apply IsS81.drew | apply IsS81.set_0 | apply IsS81.set_1 | refine IsS81.far ?_ NB0_276.out _ | refine IsS81.far ?_ NB0_277.out _ | refine IsS81.far ?_ NB0_300.out _) | exact HI0.out))) : g ≠ gb304)); replace HO297 := zM (Kd.R_below HO297.out hb); replace BK276 := pzb BK276 hb; replace BK277 := pzb BK277 hb; replace HK := zM (KeepBut.trans (by repeat (first | (with_reducible first | exact HK.out | apply KeepBut.set_ | apply keep_drewN | apply keep_drew | apply keep_alloc | refine keep_far ?_ GW276.out _ | refine keep_far ?_ GW277.out _ | refine keep_far ?_ GW300.out _) | exact HK.out)) (KeepBut.of_below hb g none) (.inl rfl)); replace HB := zM (below_step (by repeat (first | (with_reducible first | exact HB.out | apply below_alloc | apply pw_below_drewN | apply below_drew1 | refine below_set ?_ (IsS81.ge HI0.out) | refine below_setA ?_ (by assumption)) | exact HB.out)) hb); replace HI0 := zM (IsS81.below (by repeat (first | (with_reducible first | exact HI0.out | apply IsS81.alloc | apply IsS81.drewN | apply IsS81.drew | apply IsS81.set_0 | apply IsS81.set_1 | refine IsS81.far ?_ NB0_276.out _ | refine IsS81.far ?_ NB0_277.out _ | refine IsS81.far ?_ NB0_300.out _) | exact HI0.out)) hb); clear hb hbox hg; have hnb68 := NB304_276.out; have hnc68 := NB276_304.out; have hnb69 := NB304_277.out; have hnc69 := NB277_304.out; have hcz72_0 := pzc (v := .int .i64 0) BK304 0 rfl; have hcz72_1 := pzc (v := .int .i64 0) BK304 1 rfl; have hfz72_0 := zF BK304.out 0; have hfz72_1 := zF BK304.out 1))
    go_roundg k1
    case measure => have := HK1.out; omega
    case rel => exact ⟨(t298), (t299), (x278000_1), H', ⟨by have := HK1.out; omega⟩, ⟨by (with_reducible repeat (first | apply pzN | apply pzd | apply pza)); refine blk_far ?_ NB276_304.out _; (with_reducible repeat (first | apply pzN | apply pzd | apply pza)); refine blk_far ?_ NB276_304.out _; (with_reducible repeat (first | apply pzN | apply pzd | apply pza)); exact BK276.out⟩, ⟨by (with_reducible repeat (first | apply pzN | apply pzd | apply pza)); refine blk_far ?_ NB277_304.out _; (with_reducible repeat (first | apply pzN | apply pzd | apply pza)); refine blk_far ?_ NB277_304.out _; (with_reducible repeat (first | apply pzN | apply pzd | apply pza)); exact BK277.out⟩, ⟨by repeat (first | (with_reducible first | exact HI0.out | apply IsS81.alloc | apply IsS81.drewN | apply IsS81.drew | apply IsS81.set_0 | apply IsS81.set_1 | refine IsS81.far ?_ NB0_276.out _ | refine IsS81.far ?_ NB0_277.out _ | refine IsS81.far ?_ NB0_300.out _ | refine IsS81.far ?_ NB0_304.out _) | exact HI0.out)⟩, ⟨by repeat (first | (with_reducible first | exact HK.out | apply KeepBut.set_ | apply keep_drewN | apply keep_drew | apply keep_alloc | refine keep_far ?_ GW276.out _ | refine keep_far ?_ GW277.out _ | refine keep_far ?_ GW300.out _ | refine keep_far ?_ GW304.out _) | exact HK.out)⟩, ⟨by repeat (first | (with_reducible first | exact HB.out | apply below_alloc | apply pw_below_drewN | apply below_drew1 | refine below_set ?_ (IsS81.ge HI0.out) | refine below_setA ?_ (by assumption)) | exact HB.out)⟩⟩

end Go.Proofs.Ytkhiohlfdkkhdaa.P
