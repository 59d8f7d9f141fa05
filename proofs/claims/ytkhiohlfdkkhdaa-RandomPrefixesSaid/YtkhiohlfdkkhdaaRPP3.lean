-- Written by the session's own program wip/tools/mp.py (over the kit's print) out of the translation. Not trusted: Lean checks it.
import Derived.Test.YtkhiohlfdkkhdaaRPP0
import Derived.Test.YtkhiohlfdkkhdaaRPP2
namespace Go.Proofs.Ytkhiohlfdkkhdaa.P
open Go.RowKit Go.Proofs.YtkhiohlfdkkhdaaW.PrintWords Go.Proofs.YtkhiohlfdkkhdaaW.PrintLast Go.Proofs.YtkhiohlfdkkhdaaW.PrintMore
attribute [local go_sem] max2_int min2_int max_two min_two max_three min_three max_four min_four   -- for this text's walks alone
set_option linter.unusedVariables false
set_option linter.unusedSimpArgs false

/-! ### integer_Cmp: function 44 -/

def integer_Cmp.f (k : Nat) (a0_0 : Bool) (l0_1 : List Int) (a1_0 : Bool) (l1_1 : List Int) : Option (Int × Int × Int) :=
  (integer_check.f k [(⟨a0_0, l0_1⟩ : S24), (⟨a1_0, l1_1⟩ : S24)]).bind fun f => if f.1 = 0 then ((natural_Cmp.f k l0_1 l1_1).bind fun x => some (if a0_0 = true then (if a1_0 = true then wrap64 (-x.1) else -1) else (if a1_0 = true then 1 else x.1), 0, 0)) else some (0, f.1, f.2)
theorem integer_Cmp.mono : ∀ a0 a1 a2 a3 k, LeO (integer_Cmp.f k a0 a1 a2 a3) (integer_Cmp.f (k + 1) a0 a1 a2 a3) := by
  intro a0 a1 a2 a3 k
  unfold integer_Cmp.f
  exact LeO.bind (integer_check.mono _ _) (fun _ => LeO.ite (LeO.bind (natural_Cmp.mono _ _ _) (fun _ => LeO.refl _)) (LeO.refl _))
set_option maxHeartbeats 1000000 in
set_option maxRecDepth 100000 in
theorem integer_Cmp.calls (k : Nat) (a0_0 : Bool) (A0_1 : Option Addr) (c0_1 : Nat) (l0_1 : List Int) (a1_0 : Bool) (A1_1 : Option Addr) (c1_1 : Nat) (l1_1 : List Int) (r1 : Int) (r2 : Int) (r3 : Int) (w : World) (hr0_1 : Kd.C (Kd.int .u32) w A0_1 l0_1.length l0_1) (hc0_1 : l0_1.length ≤ c0_1) (hr1_1 : Kd.C (Kd.int .u32) w A1_1 l1_1.length l1_1) (hc1_1 : l1_1.length ≤ c1_1) (h : integer_Cmp.f k a0_0 l0_1 a1_0 l1_1 = some (r1, r2, r3)) :
    Calls Try.prog 44 #[.agg #[.bool a0_0, .slice A0_1 l0_1.length c0_1], .agg #[.bool a1_0, .slice A1_1 l1_1.length c1_1]] w fun e w' => e = .returned (.tuple #[.int .i64 r1, .agg #[.int .i64 r2, .int .i64 r3]]) ∧ Below w.heap.size w w' := by
  unfold integer_Cmp.f at h
  obtain ⟨⟨f1, f2⟩, h1, h⟩ := Option.bind_eq_some_iff.mp h
  have H1 := Aside0.mk h1
  have R0 := Aside0.mk hr0_1
  have R1 := Aside0.mk hr1_1
  have C0 := Aside0.mk hc0_1
  have C1 := Aside0.mk hc1_1
  clear h1 hr0_1 hr1_1 hc0_1 hc1_1
  have hu24 := Try.underlying24
  have hu29 := Try.underlying29
  dsimp only at h
  go_enter Try.func44, Try.ntmps44
  go_wp2_with fail
  go_at_call 62
  refine (integer_check.calls k _ _ _ f1 f2 _ (Kd.C_new (cs := #[.bool a0_0, .slice A0_1 l0_1.length c0_1, .bool a1_0, .slice A1_1 l1_1.length c1_1]) (t := 24) ?hb (Reps.c2 (k24_mk _ ⟨a0_0, l0_1⟩ C0.out ?g0) (Reps.c2 (k24_mk _ ⟨a1_0, l1_1⟩ C1.out ?g1) (Reps.none _ _))) ?e1) ?e2 H1.out).mono ?_
  case e1 => simp
  case e2 => simp
  case hb => simp
  case g0 => exact Kd.C_below R0.out (below_alloc (below_alloc (below_alloc (below_alloc (Below.refl _ _) _) _) _) _)
  case g1 => exact Kd.C_below R1.out (below_alloc (below_alloc (below_alloc (below_alloc (Below.refl _ _) _) _) _) _)
  rintro e w1 ⟨rfl, hb⟩
  have hz := hb.size
  simp only [World.size_alloc] at hz
  have B0 : w1.heap[w.heap.size]? = some (.cells #[.bool a0_0, .slice A0_1 l0_1.length c0_1] 24 (0, 0)) := blk_below (blk_alloc (blk_alloc (blk_alloc (heap_at (by simp only [World.size_alloc]) _) _) _) _) hb
  have kc0_0 : w1.cell? ⟨w.heap.size, 0, none⟩ = some (.bool a0_0) := (blk_cell B0 0).trans rfl
  have kf0_0 := blk_frozen B0 0
  have kc0_1 : w1.cell? ⟨w.heap.size, 1, none⟩ = some (.slice A0_1 l0_1.length c0_1) := (blk_cell B0 1).trans rfl
  have kf0_1 := blk_frozen B0 1
  have l0 : w.heap.size < w1.heap.size := by omega
  have n0 : w.heap.size ≠ w1.heap.size := by omega
  have B1 : w1.heap[w.heap.size + 1]? = some (.cells #[.bool a1_0, .slice A1_1 l1_1.length c1_1] 24 (0, 0)) := blk_below (blk_alloc (blk_alloc (heap_at (by simp only [World.size_alloc]) _) _) _) hb
  have kc1_0 : w1.cell? ⟨w.heap.size + 1, 0, none⟩ = some (.bool a1_0) := (blk_cell B1 0).trans rfl
  have kf1_0 := blk_frozen B1 0
  have kc1_1 : w1.cell? ⟨w.heap.size + 1, 1, none⟩ = some (.slice A1_1 l1_1.length c1_1) := (blk_cell B1 1).trans rfl
  have kf1_1 := blk_frozen B1 1
  have l1 : w.heap.size + 1 < w1.heap.size := by omega
  have n1 : w.heap.size + 1 ≠ w1.heap.size := by omega
  have B2 : w1.heap[w.heap.size + 1 + 1]? = some (.cells #[.int .i64 0, .int .i64 0] 29 (0, 0)) := blk_below (blk_alloc (heap_at (by simp only [World.size_alloc]) _) _) hb
  have kc2_0 : w1.cell? ⟨w.heap.size + 1 + 1, 0, none⟩ = some (.int .i64 0) := (blk_cell B2 0).trans rfl
  have kf2_0 := blk_frozen B2 0
  have kc2_1 : w1.cell? ⟨w.heap.size + 1 + 1, 1, none⟩ = some (.int .i64 0) := (blk_cell B2 1).trans rfl
  have kf2_1 := blk_frozen B2 1
  have l2 : w.heap.size + 1 + 1 < w1.heap.size := by omega
  have n2 : w.heap.size + 1 + 1 ≠ w1.heap.size := by omega
  have HB := Aside0.mk (below_step (below_alloc (below_alloc (below_alloc (below_alloc (Below.refl _ _) _) _) _) _) hb)
  clear hb
  by_cases hf : f1 = 0
  · rw [if_pos hf] at h
    subst hf
    obtain ⟨⟨x, y1, y2⟩, h2, h⟩ := Option.bind_eq_some_iff.mp h
    have H2 := Aside0.mk h2
    clear h2
    simp only [Option.some.injEq, Prod.mk.injEq] at h
    obtain ⟨hx, rfl, rfl⟩ := h
    have HX := Aside0.mk hx
    clear hx
    go_wp2_with fail
    go_at_call 63
    refine (natural_Cmp.calls k _ _ _ _ _ _ x y1 y2 _ (Kd.C_below R0.out (below_alloc HB.out _)) C0.out (Kd.C_below R1.out (below_alloc HB.out _)) C1.out H2.out).mono ?_
    rintro e w2 ⟨rfl, hb⟩
    have hzs := hb.size
    simp only [World.size_alloc, World.size_setCell, World.size_drew] at hzs
    have B0s : w2.heap[w.heap.size]? = some (.cells #[.bool a0_0, .slice A0_1 l0_1.length c0_1] 24 (0, 0)) := blk_below (blk_alloc (B0) _) hb
    have kc0_0s : w2.cell? ⟨w.heap.size, 0, none⟩ = some (.bool a0_0) := (blk_cell B0s 0).trans rfl
    have kf0_0s := blk_frozen B0s 0
    have kc0_1s : w2.cell? ⟨w.heap.size, 1, none⟩ = some (.slice A0_1 l0_1.length c0_1) := (blk_cell B0s 1).trans rfl
    have kf0_1s := blk_frozen B0s 1
    have l0s : w.heap.size < w2.heap.size := by omega
    have n0s : w.heap.size ≠ w2.heap.size := by omega
    have B1s : w2.heap[w.heap.size + 1]? = some (.cells #[.bool a1_0, .slice A1_1 l1_1.length c1_1] 24 (0, 0)) := blk_below (blk_alloc (B1) _) hb
    have kc1_0s : w2.cell? ⟨w.heap.size + 1, 0, none⟩ = some (.bool a1_0) := (blk_cell B1s 0).trans rfl
    have kf1_0s := blk_frozen B1s 0
    have kc1_1s : w2.cell? ⟨w.heap.size + 1, 1, none⟩ = some (.slice A1_1 l1_1.length c1_1) := (blk_cell B1s 1).trans rfl
    have kf1_1s := blk_frozen B1s 1
    have l1s : w.heap.size + 1 < w2.heap.size := by omega
    have n1s : w.heap.size + 1 ≠ w2.heap.size := by omega
    have B2s : w2.heap[w.heap.size + 1 + 1]? = some (.cells #[.int .i64 0, .int .i64 0] 29 (0, 0)) := blk_below (blk_alloc (B2) _) hb
    have kc2_0s : w2.cell? ⟨w.heap.size + 1 + 1, 0, none⟩ = some (.int .i64 0) := (blk_cell B2s 0).trans rfl
    have kf2_0s := blk_frozen B2s 0
    have kc2_1s : w2.cell? ⟨w.heap.size + 1 + 1, 1, none⟩ = some (.int .i64 0) := (blk_cell B2s 1).trans rfl
    have kf2_1s := blk_frozen B2s 1
    have l2s : w.heap.size + 1 + 1 < w2.heap.size := by omega
    have n2s : w.heap.size + 1 + 1 ≠ w2.heap.size := by omega
    have HB2 := Aside0.mk (below_step (below_alloc HB.out _) hb)
    clear hb
    cases a0_0 <;> cases a1_0
    all_goals
      go_wp2_with fail
      refine bodyPost_ret (v := .tuple #[.int .i64 r1, .agg #[.int .i64 0, .int .i64 0]]) ?rr rfl ⟨rfl, ?_⟩
      case rr => have hx := HX.out; simp at hx; simp [results, Try.results44, go_sem, World.cell?_alloc_lt, *]
      repeat (first | exact HB2.out | apply below_drew1 | refine below_set ?_ (by omega) | apply below_alloc)
  · rw [if_neg hf] at h
    simp only [Option.some.injEq, Prod.mk.injEq] at h
    obtain ⟨rfl, rfl, rfl⟩ := h
    have hf1 : (f1 != 0) = true := bne_iff_ne.mpr hf
    clear hf
    go_wp2_with fail
    go_region
    go_wp2_with fail
    refine bodyPost_ret (v := .tuple #[.int .i64 0, .agg #[.int .i64 f1, .int .i64 f2]]) (by simp [results, Try.results44, go_sem, World.cell?_alloc_lt, *]) rfl ⟨rfl, ?_⟩
    repeat (first | exact HB.out | apply below_drew1 | refine below_set ?_ (by omega) | apply below_alloc)

/-! ### natural_trim: function 81 -/
def natural_trim.l0 : Nat → List Int → Option (List Int)
 | 0, _ => none
 | k + 1, x0 => if (x0.length : Int) > 0 then (if 0 ≤ (wrap64 ((x0.length : Int) - 1)) then (if (wrap64 ((x0.length : Int) - 1)) < (x0.length : Int) then (if (rd x0 (wrap64 ((x0.length : Int) - 1))) = 0 then (if (wrap64 ((x0.length : Int) - 1)) ≤ (x0.length : Int) then (natural_trim.l0 k (x0.take ((wrap64 ((x0.length : Int) - 1)) : Int).toNat)) else (none)) else (some x0)) else (none)) else (none)) else (some x0)
def natural_trim.f (k : Nat) (l0 : List Int) : Option (List Int) := natural_trim.l0 k l0
theorem natural_trim.mono_l : ∀ k, (∀ y0, LeO (natural_trim.l0 k y0) (natural_trim.l0 (k + 1) y0))
 | 0 => fun _ r h => by simp [natural_trim.l0] at h
 | k + 1 => by
  have ih0 := natural_trim.mono_l k
  ·intro y0
   unfold natural_trim.l0
   repeat' first
   | (with_reducible exact ih0 _)
   | (with_reducible exact LeO.refl _)
   | (with_reducible exact LeO.none _)
   | (with_reducible refine LeO.ite ?_ ?_)
   | (with_reducible refine LeO.bind ?_ (fun _ => ?_))
   | exact ih0 _
   | exact LeO.none _
   | refine LeO.ite ?_ ?_
   | refine LeO.bind ?_ (fun _ => ?_)
theorem natural_trim.mono : ∀ a0 k, LeO (natural_trim.f k a0) (natural_trim.f (k + 1) a0) := by
 intro a0 k
 have ih0 := natural_trim.mono_l k
 unfold natural_trim.f
 repeat' first
   | (with_reducible exact ih0 _)
   | (with_reducible exact LeO.refl _)
   | (with_reducible exact LeO.none _)
   | (with_reducible refine LeO.ite ?_ ?_)
   | (with_reducible refine LeO.bind ?_ (fun _ => ?_))
   | exact ih0 _
   | exact LeO.none _
   | refine LeO.ite ?_ ?_
   | refine LeO.bind ?_ (fun _ => ?_)
set_option maxHeartbeats 60000000 in
set_option maxRecDepth 100000 in
theorem natural_trim.calls (k : Nat) (P0_ : Nat → Prop) (A0 : Option Addr) (c0 : Nat) (l0 : List Int) (r : List Int) (w : World) (hs0 : Kd.V (Kd.int .u32) 76 w w.heap.size (fun k_ => P0_ k_) (.slice A0 l0.length c0) l0) (h : natural_trim.f k l0 = some r) :
  Calls Try.prog 81 #[.slice A0 l0.length c0] w fun e w' => ∃ v0_ : Value, e = .returned (v0_) ∧ Kd.V (Kd.int .u32) 76 w' w.heap.size (fun k_ => (P0_ k_ ∨ w.heap.size ≤ k_)) v0_ r ∧ Below w.heap.size w w' := by
 have HO0 := zM (show Kd.V (Kd.int .u32) 76 w w.heap.size (fun k_ => (P0_ k_ ∨ w.heap.size ≤ k_)) (.slice A0 l0.length c0) l0 from Kd.V_mono hs0 (fun k_ hk => .inl hk))
 have HB := zM (Below.refl w.heap.size w)
 have H : (natural_trim.l0 k l0) = some r := h
 clear h
 have H' := zM H
 clear H
 go_enter Try.func81, Try.ntmps81
 go_wp2
 go_loopg [0] k (fun kq v0 w' => ∃ (x0_1 : List Int), Aside0 (natural_trim.l0 kq x0_1 = some r) ∧ Aside0 (kq ≤ k) ∧ Aside0 (Kd.V (Kd.int .u32) 76 w' w.heap.size (fun k_ => (P0_ k_ ∨ w.heap.size ≤ k_)) v0 x0_1) ∧ Aside0 (Below w.heap.size w w'))
 case atStart => exact ⟨(l0), H', ⟨Nat.le_refl _⟩, ⟨by (with_reducible repeat (first | apply Kd.V_alloc | apply Kd.V_drewN | apply Kd.V_drew)); exact HO0.out⟩, ⟨HB.out⟩⟩
 case round =>
  clear H'
  obtain ⟨x0_1, HA, HK1, HO_0, HB⟩ := hrel
  cases gk with
  | zero => exact absurd HA.out (by simp [natural_trim.l0])
  | succ k1 =>
   have H := HA.out
   clear HA
   simp only [natural_trim.l0] at H
   by_cases c2 : (x0_1.length : Int) > 0
   ·rw [if_pos c2] at H
    have c2b0 : decide (0 < (x0_1.length : Int)) = true := zE c2
    have c2b1 : decide (0 < x0_1.length) = true := zE (by omega)
    clear c2
    obtain ⟨ji3, hji3⟩ : ∃ j_ : Int, (wrap64 ((x0_1.length : Int) - 1)) = j_ := ⟨_, rfl⟩
    replace H : (if 0 ≤ (ji3) then (if (ji3) < (x0_1.length : Int) then (if (rd x0_1 (ji3)) = 0 then (if (ji3) ≤ (x0_1.length : Int) then (natural_trim.l0 k1 (x0_1.take ((ji3) : Int).toNat)) else (none)) else (some x0_1)) else (none)) else (none)) = some r := by first | (rw [hji3] at H; exact H) | (simp only [hji3] at H ⊢; exact H)
    have hji3w : (IntKind.i64.wrap ((x0_1.length : Int) - 1)) = ji3 := (i64_w _).trans hji3
    by_cases c4 : 0 ≤ (ji3)
    ·rw [if_pos c4] at H
     have c4b0 : decide (0 ≤ (ji3)) = true := zE c4
     clear c4
     by_cases c5 : (ji3) < (x0_1.length : Int)
     ·rw [if_pos c5] at H
      have c5b0 : decide ((ji3) < (x0_1.length : Int)) = true := zE c5
      clear c5
      by_cases c6 : (rd x0_1 (ji3)) = 0
      ·rw [if_pos c6] at H
       have c6b0 : ((rd x0_1 (ji3)) == 0) = true := beq_iff_eq.mpr c6
       have c6b1 : ((rd x0_1 (ji3)) != 0) = false := bne_eq_false_iff_eq.mpr c6
       clear c6
       have c7b0 := eq_true (zD (by first | (with_reducible assumption) | assumption) : 0 ≤ (ji3))
       by_cases c8 : (ji3) ≤ (x0_1.length : Int)
       ·rw [if_pos c8] at H
        have c8b0 := eq_true c8
        have c8b1 : decide ((ji3) ≤ (x0_1.length : Int)) = true := zE c8
        clear c8
        obtain ⟨y154, hy154⟩ : ∃ y_ : List Int, y_ = (x0_1.take ((ji3) : Int).toNat) := ⟨_, rfl⟩
        replace H : (natural_trim.l0 k1 y154) = some r := by first | (rw [hy154]; with_reducible exact H) | (have H2_ := (Option.bind_some _ _).symm.trans H; rw [hy154]; with_reducible exact H2_) | (have H2_ := (Option.bind_some _ _).symm.trans H; with_reducible exact H2_) | with_reducible exact H | (rw [hy154]; exact H) | exact H
        have Ny154 := zM hy154
        clear hy154
        have H' := zM H
        clear H
        obtain ⟨Ao9, co9, eo9⟩ := Kd.V_slice HO_0.out
        subst eo9
        have p153 : 0 ≤ ((ji3) : Int) := zD (by first | (with_reducible assumption) | assumption)
        have q153 : (ji3) < (x0_1.length : Int) := zD (by first | (with_reducible assumption) | assumption)
        obtain ⟨ad153, e153, hx153_0⟩ := Kd.at_int (Kd.V_reads' HO_0.out).2.2 (ji3) p153 q153
        cases e153
        replace p153 := eq_true p153
        replace q153 := eq_true q153
        have q10 : ((ji3) : Int) ≤ ((x0_1.length : Int) : Int) := zD (by first | (with_reducible assumption) | assumption)
        obtain ⟨i010, hi010, _, hsz10, _⟩ := info_parts info76
        have hroom10 : x0_1.length ≤ co9 := (Kd.V_reads' HO_0.out).2.1
        have hC10 : Kd.F (Kd.int .u32) _ _ (some ad153) x0_1.length x0_1 := (Kd.V_at (base := w.heap.size) HO_0.out).2.2
        have hcut10 := cut_to (P := Try.prog) 22 76 .i64 Try.underlying22 hi010 (some ad153) x0_1.length co9 (ji3) (zD (by first | (with_reducible assumption) | assumption)) q10 hroom10
        have hr10 := Kd.F_take (m := ((ji3) : Int).toNat) hC10 (by omega)
        have hy10 : y154.length = ((ji3) : Int).toNat := (by rw [Ny154.out, zL]; omega)
        rw [← Ny154.out] at hr10
        rw [← hy10] at hcut10
        have HO158 := zM (show Kd.V (Kd.int .u32) 76 _ w.heap.size _ (.slice (some ad153) y154.length co9) y154 from Kd.V_mk (by omega) hr10)
        have HC158 := zM (show y154.length ≤ co9 from by omega)
        clear hr10 hC10 hroom10 hi010 hsz10
        have KY10 := zM hy10
        clear hy10
        replace q10 := eq_true q10
        go_wp2
        go_roundg k1
        case measure => have := HK1.out; omega
        case rel => exact ⟨(y154), H', ⟨by have := HK1.out; omega⟩, ⟨by (with_reducible repeat (first | apply Kd.V_alloc | apply Kd.V_drewN | apply Kd.V_drew)); exact HO158.out⟩, ⟨HB.out⟩⟩
       ·rw [if_neg c8] at H
        exact absurd H (by simp)
      ·rw [if_neg c6] at H
       have c6b0 : ((rd x0_1 (ji3)) == 0) = false := beq_eq_false_iff_ne.mpr c6
       have c6b1 : ((rd x0_1 (ji3)) != 0) = true := bne_iff_ne.mpr c6
       obtain rfl := Option.some.inj H
       obtain ⟨Ao11, co11, eo11⟩ := Kd.V_slice HO_0.out
       subst eo11
       have p153 : 0 ≤ ((ji3) : Int) := zD (by first | (with_reducible assumption) | assumption)
       have q153 : (ji3) < (x0_1.length : Int) := zD (by first | (with_reducible assumption) | assumption)
       obtain ⟨ad153, e153, hx153_0⟩ := Kd.at_int (Kd.V_reads' HO_0.out).2.2 (ji3) p153 q153
       cases e153
       replace p153 := eq_true p153
       replace q153 := eq_true q153
       go_wp2
       go_ret
       exact ⟨_, by first | rfl | (simp [errW_none, errW_some] <;> rfl) | (simp only [← hji3]; first | rfl | (simp [errW_none, errW_some] <;> rfl)) | (simp [*, errW_none, errW_some] <;> rfl), by (with_reducible repeat (first | apply Kd.V_alloc | apply Kd.V_drewN | apply Kd.V_drew)); exact HO_0.out, HB.out⟩
     ·rw [if_neg c5] at H
      exact absurd H (by simp)
    ·rw [if_neg c4] at H
     exact absurd H (by simp)
   ·rw [if_neg c2] at H
    have c2b0 : decide (0 < (x0_1.length : Int)) = false := decide_eq_false c2
    have c2b1 : decide (0 < x0_1.length) = false := decide_eq_false (by omega)
    clear c2
    obtain rfl := Option.some.inj H
    obtain ⟨Ao12, co12, eo12⟩ := Kd.V_slice HO_0.out
    subst eo12
    go_wp2
    go_ret
    exact ⟨_, by first | rfl | (simp [errW_none, errW_some] <;> rfl) | (simp [*, errW_none, errW_some] <;> rfl), by (with_reducible repeat (first | apply Kd.V_alloc | apply Kd.V_drewN | apply Kd.V_drew)); exact HO_0.out, HB.out⟩

/-! ### natural_fit: function 78 -/
def natural_fit.f (k : Nat) (l0 : List Int) : Option (List Int × Int × Int) := (natural_trim.f k l0).bind fun t160 => (if (t160.length : Int) > 600 then ((natural_at.f 14 (-1)).bind fun bt163 => (some (([] : List Int), bt163.1, bt163.2))) else (some (t160, 0, 0)))
theorem natural_fit.mono : ∀ a0 k, LeO (natural_fit.f k a0) (natural_fit.f (k + 1) a0) := by
 intro a0 k
 unfold natural_fit.f
 repeat' first
   | (with_reducible exact natural_trim.mono _ _)
   | (with_reducible exact LeO.refl _)
   | (with_reducible exact LeO.none _)
   | (with_reducible refine LeO.ite ?_ ?_)
   | (with_reducible refine LeO.bind ?_ (fun _ => ?_))
   | exact natural_trim.mono _ _
   | exact LeO.none _
   | refine LeO.ite ?_ ?_
   | refine LeO.bind ?_ (fun _ => ?_)
set_option maxHeartbeats 60000000 in
set_option maxRecDepth 100000 in
theorem natural_fit.calls (k : Nat) (P0_ : Nat → Prop) (A0 : Option Addr) (c0 : Nat) (l0 : List Int) (r1 : List Int) (r2 : Int) (r3 : Int) (w : World) (hs0 : Kd.V (Kd.int .u32) 76 w w.heap.size (fun k_ => P0_ k_) (.slice A0 l0.length c0) l0) (h : natural_fit.f k l0 = some (r1, r2, r3)) :
  Calls Try.prog 78 #[.slice A0 l0.length c0] w fun e w' => ∃ v0_ : Value, e = .returned (.tuple #[v0_, .agg #[.int .i64 r2, .int .i64 r3]]) ∧ Kd.V (Kd.int .u32) 76 w' w.heap.size (fun k_ => (P0_ k_ ∨ w.heap.size ≤ k_)) v0_ r1 ∧ Below w.heap.size w w' := by
 have hu29 := Try.underlying29
 have HO0 := zM (show Kd.V (Kd.int .u32) 76 w w.heap.size (fun k_ => (P0_ k_ ∨ w.heap.size ≤ k_)) (.slice A0 l0.length c0) l0 from Kd.V_mono hs0 (fun k_ hk => .inl hk))
 have HB := zM (Below.refl w.heap.size w)
 have H : ((natural_trim.f k l0).bind fun t160 => (if (t160.length : Int) > 600 then ((natural_at.f 14 (-1)).bind fun bt163 => (some (([] : List Int), bt163.1, bt163.2))) else (some (t160, 0, 0)))) = some (r1, r2, r3) := h
 clear h
 replace H := zB H
 obtain ⟨t160, A20, H⟩ := H
 replace H : (if (t160.length : Int) > 600 then ((natural_at.f 14 (-1)).bind fun bt163 => (some (([] : List Int), bt163.1, bt163.2))) else (some (t160, 0, 0))) = some (r1, r2, r3) := H
 have A2 := zM A20
 clear A20
 by_cases c3 : (t160.length : Int) > 600
 ·rw [if_pos c3] at H
  have c3b0 : decide (600 < (t160.length : Int)) = true := zE c3
  have c3b1 : decide (600 < t160.length) = true := zE (by omega)
  clear c3
  replace H := zB H
  obtain ⟨⟨t163, t164⟩, A40, H⟩ := H
  replace H : (some (([] : List Int), t163, t164)) = some (r1, r2, r3) := H
  have A4 := zM A40
  clear A40
  simp only [Option.some.injEq, Prod.mk.injEq] at H
  obtain ⟨rfl, rfl, rfl⟩ := H
  go_enter Try.func78, Try.ntmps78
  go_wp2_with (first | ((with_reducible refine gate_dst (N := 3) rfl ?_); refine box_event ?hg (N := 3) ?hd (cs := #[.int .i64 0, .int .i64 0]) (t := 29) ?hr ?_; (case hd => rfl); (case hg => rfl); (case hr => first | (go_simp; done) | (go_simp; rfl)); intro gb159 hg w5 hbox hb; have BK159 := zM (hbox); have GW159 := zM ((by rw [hg]; exact (below_size (HB.out)) : w.heap.size ≤ gb159)); have GE159 := GW159; replace HO0 := zM (Kd.V_below (Kd.V_elderB HO0.out gb159 (Nat.le_of_eq hg.symm)) hb); replace HB := zM (below_step (HB.out) hb); clear hb hbox hg) | ((with_reducible refine gate_callee (f := 81) rfl ?_); refine goesL_ (some 5) rfl rfl Try.func81 (by kernel_rfl) rfl #[.slice A0 l0.length c0] rfl (by (try simp only [zT, zC, zN]); first | done | rfl | (simp only [zR, zL]; rfl)) ?_; (with_reducible refine (natural_trim.calls k (fun k_ => ((P0_ k_ ∨ w.heap.size ≤ k_) ∧ k_ ≠ gb159)) _ _ l0 t160 _ ?side1 A2.out).mono ?_); (case side1 => exact HO0.out); rintro e w6 ⟨v161, rfl, ho0, hb⟩; refine ⟨_, rfl, ?_⟩; have HO162 := zM (Kd.V_lower (Kd.V_mono (ok' := fun k_ => (P0_ k_ ∨ w.heap.size ≤ k_) ∧ k_ ≠ gb159) ho0 (fun k_ hk_ => ⟨Or.elim hk_ (fun hs_ => hs_.1) (fun hn_ => (.inr (Nat.le_trans (below_size (by repeat (first | (with_reducible first | exact HB.out | apply pzA | apply pzD | apply pz1 | apply pzs | assumption) | exact HB.out))) hn_))), Or.elim hk_ (fun hs_ => hs_.2) (fun hn_ => (Kd.freshB (g := gb159) (o := .cells #[.int .i64 0, .int .i64 0] 29 (0, 0)) BK159.out k_ hn_))⟩)) (below_size (by repeat (first | (with_reducible first | exact HB.out | apply pzA | apply pzD | apply pz1 | apply pzs | assumption) | exact HB.out)))); replace HO0 := zM (Kd.V_below HO0.out hb); replace BK159 := pzb BK159 hb; replace HB := zM (below_step (by repeat (first | (with_reducible first | exact HB.out | apply pzA | apply pzD | apply pz1 | apply pzs | assumption) | exact HB.out)) hb); (try clear hb); (try clear hb2); (try clear hk); (try clear hi); (try clear ho0); obtain ⟨Ao7, co7, eo7⟩ := Kd.V_slice HO162.out; subst eo7) | ((with_reducible refine gate_callee (f := 76) rfl ?_); refine goesL_ (some 9) rfl rfl Try.func76 (by kernel_rfl) rfl #[.int .i64 14, .int .i64 (-1)] rfl (by (try simp only [zT, zC, zN]); first | done | rfl | (simp only [zR, zL]; rfl)) ?_; (with_reducible refine (natural_at.calls 14 (-1) t163 t164 _ A4.out).mono ?_); rintro e w8 ⟨rfl, hb⟩; refine ⟨_, rfl, ?_⟩; replace HO0 := zM (Kd.V_below HO0.out hb); replace HO162 := zM (Kd.V_below HO162.out hb); replace BK159 := pzb BK159 hb; replace HB := zM (below_step (by repeat (first | (with_reducible first | exact HB.out | apply pzA | apply pzD | apply pz1 | apply pzs | assumption) | exact HB.out)) hb); (try clear hb); (try clear hb2); (try clear hk); (try clear hi); have hcz9_0 := pzc (v := .int .i64 0) BK159 0 rfl; have hcz9_1 := pzc (v := .int .i64 0) BK159 1 rfl; have hfz9_0 := zF BK159.out 0; have hfz9_1 := zF BK159.out 1))
  refine bodyPost_ret (results_tc rfl _ _ gb159 29 #[.int .i64 t163, .int .i64 t164] (0, 0) _ rfl (by (with_reducible repeat (first | apply pzN | apply pzd | apply pza)); refine blk_put (cs := #[.int .i64 t163, .int .i64 0]) ?_ 1 _ rfl; (with_reducible repeat (first | apply pzN | apply pzd | apply pza)); refine blk_put (cs := #[.int .i64 0, .int .i64 0]) ?_ 0 _ rfl; (with_reducible repeat (first | apply pzN | apply pzd | apply pza)); exact BK159.out) Try.underlying29 rfl (by kernel_rfl)) rfl ?_
  exact ⟨_, by first | rfl | (simp [errW_none, errW_some] <;> rfl) | (simp [*, errW_none, errW_some] <;> rfl), Kd.V_nil _ _ _ _ _, by repeat (first | (with_reducible first | exact HB.out | apply pzA | apply pzD | apply pz1 | apply pzs | assumption) | exact HB.out)⟩
 ·rw [if_neg c3] at H
  have c3b0 : decide (600 < (t160.length : Int)) = false := decide_eq_false c3
  have c3b1 : decide (600 < t160.length) = false := decide_eq_false (by omega)
  clear c3
  simp only [Option.some.injEq, Prod.mk.injEq] at H
  obtain ⟨rfl, rfl, rfl⟩ := H
  go_enter Try.func78, Try.ntmps78
  go_wp2_with (first | ((with_reducible refine gate_dst (N := 3) rfl ?_); refine box_event ?hg (N := 3) ?hd (cs := #[.int .i64 0, .int .i64 0]) (t := 29) ?hr ?_; (case hd => rfl); (case hg => rfl); (case hr => first | (go_simp; done) | (go_simp; rfl)); intro gb159 hg w10 hbox hb; have BK159 := zM (hbox); have GW159 := zM ((by rw [hg]; exact (below_size (HB.out)) : w.heap.size ≤ gb159)); have GE159 := GW159; replace HO0 := zM (Kd.V_below (Kd.V_elderB HO0.out gb159 (Nat.le_of_eq hg.symm)) hb); replace HB := zM (below_step (HB.out) hb); clear hb hbox hg) | ((with_reducible refine gate_callee (f := 81) rfl ?_); refine goesL_ (some 5) rfl rfl Try.func81 (by kernel_rfl) rfl #[.slice A0 l0.length c0] rfl (by (try simp only [zT, zC, zN]); first | done | rfl | (simp only [zR, zL]; rfl)) ?_; (with_reducible refine (natural_trim.calls k (fun k_ => ((P0_ k_ ∨ w.heap.size ≤ k_) ∧ k_ ≠ gb159)) _ _ l0 t160 _ ?side1 A2.out).mono ?_); (case side1 => exact HO0.out); rintro e w11 ⟨v161, rfl, ho0, hb⟩; refine ⟨_, rfl, ?_⟩; have HO162 := zM (Kd.V_lower (Kd.V_mono (ok' := fun k_ => (P0_ k_ ∨ w.heap.size ≤ k_) ∧ k_ ≠ gb159) ho0 (fun k_ hk_ => ⟨Or.elim hk_ (fun hs_ => hs_.1) (fun hn_ => (.inr (Nat.le_trans (below_size (by repeat (first | (with_reducible first | exact HB.out | apply pzA | apply pzD | apply pz1 | apply pzs | assumption) | exact HB.out))) hn_))), Or.elim hk_ (fun hs_ => hs_.2) (fun hn_ => (Kd.freshB (g := gb159) (o := .cells #[.int .i64 0, .int .i64 0] 29 (0, 0)) BK159.out k_ hn_))⟩)) (below_size (by repeat (first | (with_reducible first | exact HB.out | apply pzA | apply pzD | apply pz1 | apply pzs | assumption) | exact HB.out)))); replace HO0 := zM (Kd.V_below HO0.out hb); replace BK159 := pzb BK159 hb; replace HB := zM (below_step (by repeat (first | (with_reducible first | exact HB.out | apply pzA | apply pzD | apply pz1 | apply pzs | assumption) | exact HB.out)) hb); (try clear hb); (try clear hb2); (try clear hk); (try clear hi); (try clear ho0); obtain ⟨Ao12, co12, eo12⟩ := Kd.V_slice HO162.out; subst eo12; have hcz13_0 := pzc (v := .int .i64 0) BK159 0 rfl; have hcz13_1 := pzc (v := .int .i64 0) BK159 1 rfl; have hfz13_0 := zF BK159.out 0; have hfz13_1 := zF BK159.out 1))
  refine bodyPost_ret (results_tc rfl _ _ gb159 29 #[.int .i64 0, .int .i64 0] (0, 0) _ rfl (by (with_reducible repeat (first | apply pzN | apply pzd | apply pza)); refine blk_put (cs := #[.int .i64 0, .int .i64 0]) ?_ 1 _ rfl; (with_reducible repeat (first | apply pzN | apply pzd | apply pza)); refine blk_put (cs := #[.int .i64 0, .int .i64 0]) ?_ 0 _ rfl; (with_reducible repeat (first | apply pzN | apply pzd | apply pza)); exact BK159.out) Try.underlying29 rfl (by kernel_rfl)) rfl ?_
  exact ⟨_, by first | rfl | (simp [errW_none, errW_some] <;> rfl) | (simp [*, errW_none, errW_some] <;> rfl), by (with_reducible repeat (first | apply Kd.V_alloc | apply Kd.V_drewN | apply Kd.V_drew)); exact Kd.V_mono (Kd.V_far (p := ⟨gb159, 1, none⟩) (Kd.V_far (p := ⟨gb159, 0, none⟩) (Kd.V_mono HO162.out (fun k_ hk => (⟨hk, hk.2⟩ : _ ∧ k_ ≠ gb159))) (fun _ hk => hk.2) (.int .i64 0)) (fun _ hk => hk.2) (.int .i64 0)) (fun _ hk => hk.1.1), by repeat (first | (with_reducible first | exact HB.out | apply pzA | apply pzD | apply pz1 | apply pzs | assumption) | exact HB.out)⟩

/-! ### natural_add: function 79 -/
mutual
def natural_add.l0 : Nat → List Int → List Int → Int → List Int → Int → Int → Option (List Int)
 | 0, _, _, _, _, _, _ => none
 | k + 1, x1, x5, x6, x20, x21, x22 => if x22 < x21 then (if 0 ≤ x22 then (if x22 < (x20.length : Int) then (if x22 < (x1.length : Int) then (if x5.length < 35184372088832 then (natural_add.l0 k x1 (x5 ++ [(IntKind.u64.wrap ((IntKind.u64.wrap (x6 + (IntKind.u64.wrap (rd x20 x22)))) + (IntKind.u64.wrap (rd x1 x22)))) % 4294967296]) ((IntKind.u64.wrap ((IntKind.u64.wrap (x6 + (IntKind.u64.wrap (rd x20 x22)))) + (IntKind.u64.wrap (rd x1 x22)))) / 4294967296) x20 x21 (wrap64 (x22 + 1))) else (none)) else (if x5.length < 35184372088832 then (natural_add.l0 k x1 (x5 ++ [(IntKind.u64.wrap (x6 + (IntKind.u64.wrap (rd x20 x22)))) % 4294967296]) ((IntKind.u64.wrap (x6 + (IntKind.u64.wrap (rd x20 x22)))) / 4294967296) x20 x21 (wrap64 (x22 + 1))) else (none))) else (none)) else (none)) else (if x5.length < 35184372088832 then ((natural_trim.f k (x5 ++ [(x6) % 4294967296])).bind fun t179 => (some t179)) else (none))
def natural_add.l50 : Nat → List Int → List Int → Int → List Int → Int → Int → Option (List Int)
 | 0, _, _, _, _, _, _ => none
 | k + 1, x1, x5, x6, x20, x21, x22 => if x22 < x21 then (if 0 ≤ x22 then (if x22 < (x20.length : Int) then (if x22 < (x1.length : Int) then (if x5.length < 35184372088832 then (natural_add.l50 k x1 (x5 ++ [(IntKind.u64.wrap ((IntKind.u64.wrap (x6 + (IntKind.u64.wrap (rd x20 x22)))) + (IntKind.u64.wrap (rd x1 x22)))) % 4294967296]) ((IntKind.u64.wrap ((IntKind.u64.wrap (x6 + (IntKind.u64.wrap (rd x20 x22)))) + (IntKind.u64.wrap (rd x1 x22)))) / 4294967296) x20 x21 (wrap64 (x22 + 1))) else (none)) else (if x5.length < 35184372088832 then (natural_add.l50 k x1 (x5 ++ [(IntKind.u64.wrap (x6 + (IntKind.u64.wrap (rd x20 x22)))) % 4294967296]) ((IntKind.u64.wrap (x6 + (IntKind.u64.wrap (rd x20 x22)))) / 4294967296) x20 x21 (wrap64 (x22 + 1))) else (none))) else (none)) else (none)) else (if x5.length < 35184372088832 then ((natural_trim.f k (x5 ++ [(x6) % 4294967296])).bind fun t196 => (some t196)) else (none))
end
def natural_add.f (k : Nat) (l0 : List Int) (l1 : List Int) : Option (List Int) := if (l0.length : Int) < (l1.length : Int) then (if 0 ≤ (wrap64 ((l1.length : Int) + 1)) then (if (wrap64 ((l1.length : Int) + 1) : Int).toNat ≤ 70368744177664 then (natural_add.l0 k l0 (([] : List Int)) 0 l1 (l1.length : Int) 0) else (none)) else (none)) else (if 0 ≤ (wrap64 ((l0.length : Int) + 1)) then (if (wrap64 ((l0.length : Int) + 1) : Int).toNat ≤ 70368744177664 then (natural_add.l50 k l1 (([] : List Int)) 0 l0 (l0.length : Int) 0) else (none)) else (none))
theorem natural_add.mono_l : ∀ k, (∀ y0 y1 y2 y3 y4 y5, LeO (natural_add.l0 k y0 y1 y2 y3 y4 y5) (natural_add.l0 (k + 1) y0 y1 y2 y3 y4 y5)) ∧ (∀ y0 y1 y2 y3 y4 y5, LeO (natural_add.l50 k y0 y1 y2 y3 y4 y5) (natural_add.l50 (k + 1) y0 y1 y2 y3 y4 y5))
 | 0 => ⟨fun _ _ _ _ _ _ r h => by simp [natural_add.l0] at h, fun _ _ _ _ _ _ r h => by simp [natural_add.l50] at h⟩
 | k + 1 => by
  obtain ⟨ih0, ih1⟩ := natural_add.mono_l k
  refine ⟨?_, ?_⟩
  ·intro y0 y1 y2 y3 y4 y5
   unfold natural_add.l0
   repeat' first
   | (with_reducible exact ih0 _ _ _ _ _ _)
   | (with_reducible exact ih1 _ _ _ _ _ _)
   | (with_reducible exact natural_trim.mono _ _)
   | (with_reducible exact LeO.refl _)
   | (with_reducible exact LeO.none _)
   | (with_reducible refine LeO.ite ?_ ?_)
   | (with_reducible refine LeO.bind ?_ (fun _ => ?_))
   | exact ih0 _ _ _ _ _ _
   | exact ih1 _ _ _ _ _ _
   | exact natural_trim.mono _ _
   | exact LeO.none _
   | refine LeO.ite ?_ ?_
   | refine LeO.bind ?_ (fun _ => ?_)
  ·intro y0 y1 y2 y3 y4 y5
   unfold natural_add.l50
   repeat' first
   | (with_reducible exact ih0 _ _ _ _ _ _)
   | (with_reducible exact ih1 _ _ _ _ _ _)
   | (with_reducible exact natural_trim.mono _ _)
   | (with_reducible exact LeO.refl _)
   | (with_reducible exact LeO.none _)
   | (with_reducible refine LeO.ite ?_ ?_)
   | (with_reducible refine LeO.bind ?_ (fun _ => ?_))
   | exact ih0 _ _ _ _ _ _
   | exact ih1 _ _ _ _ _ _
   | exact natural_trim.mono _ _
   | exact LeO.none _
   | refine LeO.ite ?_ ?_
   | refine LeO.bind ?_ (fun _ => ?_)
theorem natural_add.mono : ∀ a0 a1 k, LeO (natural_add.f k a0 a1) (natural_add.f (k + 1) a0 a1) := by
 intro a0 a1 k
 obtain ⟨ih0, ih1⟩ := natural_add.mono_l k
 unfold natural_add.f
 repeat' first
   | (with_reducible exact ih0 _ _ _ _ _ _)
   | (with_reducible exact ih1 _ _ _ _ _ _)
   | (with_reducible exact natural_trim.mono _ _)
   | (with_reducible exact LeO.refl _)
   | (with_reducible exact LeO.none _)
   | (with_reducible refine LeO.ite ?_ ?_)
   | (with_reducible refine LeO.bind ?_ (fun _ => ?_))
   | exact ih0 _ _ _ _ _ _
   | exact ih1 _ _ _ _ _ _
   | exact natural_trim.mono _ _
   | exact LeO.none _
   | refine LeO.ite ?_ ?_
   | refine LeO.bind ?_ (fun _ => ?_)
set_option maxHeartbeats 60000000 in
set_option maxRecDepth 100000 in
theorem natural_add.calls (k : Nat) (A0 : Option Addr) (c0 : Nat) (l0 : List Int) (A1 : Option Addr) (c1 : Nat) (l1 : List Int) (r : List Int) (w : World) (hr0 : Kd.C (Kd.int .u32) w A0 l0.length l0) (hc0 : l0.length ≤ c0) (hr1 : Kd.C (Kd.int .u32) w A1 l1.length l1) (hc1 : l1.length ≤ c1) (h : natural_add.f k l0 l1 = some r) :
  Calls Try.prog 79 #[.slice A0 l0.length c0, .slice A1 l1.length c1] w fun e w' => ∃ v0_ : Value, e = .returned (v0_) ∧ Kd.V (Kd.int .u32) 76 w' w.heap.size (fun k_ => (w.heap.size ≤ k_)) v0_ r ∧ Below w.heap.size w w' := by
 have HR0 := zM hr0
 have HC0 := zM hc0
 clear hr0 hc0
 have HR1 := zM hr1
 have HC1 := zM hc1
 clear hr1 hc1
 have HB := zM (Below.refl w.heap.size w)
 have H : (if (l0.length : Int) < (l1.length : Int) then (if 0 ≤ (wrap64 ((l1.length : Int) + 1)) then (if (wrap64 ((l1.length : Int) + 1) : Int).toNat ≤ 70368744177664 then (natural_add.l0 k l0 (([] : List Int)) 0 l1 (l1.length : Int) 0) else (none)) else (none)) else (if 0 ≤ (wrap64 ((l0.length : Int) + 1)) then (if (wrap64 ((l0.length : Int) + 1) : Int).toNat ≤ 70368744177664 then (natural_add.l50 k l1 (([] : List Int)) 0 l0 (l0.length : Int) 0) else (none)) else (none))) = some r := h
 clear h
 by_cases c3 : (l0.length : Int) < (l1.length : Int)
 ·rw [if_pos c3] at H
  have c3b0 : decide ((l0.length : Int) < (l1.length : Int)) = true := zE c3
  have c3b1 : decide (l0.length < l1.length) = true := zE (Int.ofNat_lt.mp c3)
  clear c3
  obtain ⟨ji4, hji4⟩ : ∃ j_ : Int, (wrap64 ((l1.length : Int) + 1)) = j_ := ⟨_, rfl⟩
  replace H : (if 0 ≤ (ji4) then (if (ji4 : Int).toNat ≤ 70368744177664 then (natural_add.l0 k l0 (([] : List Int)) 0 l1 (l1.length : Int) 0) else (none)) else (none)) = some r := by first | (rw [hji4] at H; exact H) | (simp only [hji4] at H ⊢; exact H)
  have hji4w : (IntKind.i64.wrap ((l1.length : Int) + 1)) = ji4 := (i64_w _).trans hji4
  by_cases c5 : 0 ≤ (ji4)
  ·rw [if_pos c5] at H
   have c5b0 := eq_true c5
   have c5b1 : decide (0 ≤ (ji4)) = true := zE c5
   clear c5
   by_cases c6 : (ji4 : Int).toNat ≤ 70368744177664
   ·rw [if_pos c6] at H
    have c6b0 := eq_true c6
    have c6b1 : decide ((ji4 : Int).toNat ≤ 70368744177664) = true := zE c6
    clear c6
    obtain ⟨y165, hy165⟩ : ∃ y_ : List Int, y_ = (([] : List Int)) := ⟨_, rfl⟩
    replace H : (natural_add.l0 k l0 y165 0 l1 (l1.length : Int) 0) = some r := by first | (rw [hy165]; with_reducible exact H) | (have H2_ := (Option.bind_some _ _).symm.trans H; rw [hy165]; with_reducible exact H2_) | (have H2_ := (Option.bind_some _ _).symm.trans H; with_reducible exact H2_) | with_reducible exact H | (rw [hy165]; exact H) | exact H
    have Ny165 := zM hy165
    clear hy165
    have H' := zM H
    clear H
    go_enter Try.func79, Try.ntmps79
    go_wp2_with (first | ((with_reducible refine gate_dst (N := 19) rfl ?_); refine Kd.R_make0 (Kd.int .u32) _ 76 rfl (N := 19) rfl 22 _ _ rfl ji4 rfl rfl Try.underlying22 (.int .u32 0) 4 info76 rfl (by decide) (by omega) 0 (ok := fun _ => True) (okp := fun _ => True) rfl (fun _ hk => hk) trivial (zD (by first | (with_reducible assumption) | assumption)) (Nat.le_trans (Nat.mul_le_mul_right _ (zD (by first | (with_reducible assumption) | assumption) : ji4.toNat ≤ 70368744177664)) (by omega)) (Below.refl _ _) (Nat.le_refl _) ?_; intro v166 w7 ho8 hb hg_ hnew_; clear hg_ hnew_; (first | rw [← Ny165.out] at ho8 | (simp only [Int.reduceToNat] at ho8; rw [← Ny165.out] at ho8)); have HO167 := zM (Kd.R_lower (Kd.R_newM (M := fun k_ => (w.heap.size ≤ k_)) ho8 (below_size (HB.out)) (fun k_ h_ => h_)) (below_size (HB.out))); replace HB := zM (below_step (HB.out) hb); clear hb ho8))
    go_loopg [5, 6, 22] k (fun kq v5 v6 v22 w' => ∃ (x5_1 : List Int) (x6_1 : Int) (x22_1 : Int), v6 = .int .u64 x6_1 ∧ v22 = .int .i64 x22_1 ∧ Aside0 (natural_add.l0 kq l0 x5_1 x6_1 l1 (l1.length : Int) x22_1 = some r) ∧ Aside0 (kq ≤ k) ∧ Aside0 (Kd.R (Kd.int .u32) 76 w' w.heap.size (fun k_ => (w.heap.size ≤ k_)) v5 x5_1) ∧ Aside0 (Below w.heap.size w w'))
    case atStart => exact ⟨(y165), (0), (0), (by first | rfl | (simp; done) | (simp [*]; done)), (by first | rfl | (simp; done) | (simp [*]; done)), H', ⟨Nat.le_refl _⟩, ⟨by (with_reducible repeat (first | apply Kd.R_alloc | apply Kd.R_drewN | apply Kd.R_drew)); exact Kd.R_mono HO167.out (fun _ hk => hk.1)⟩, ⟨HB.out⟩⟩
    case round =>
     clear H'
     try clear c1
     try clear p2
     try clear c3
     try clear c3b0
     try clear c3b1
     try clear c5
     try clear c5b0
     try clear c5b1
     try clear c6
     try clear c6b0
     try clear c6b1
     try clear p6
     try clear c7
     obtain ⟨x5_1, x6_1, x22_1, rfl, rfl, HA, HK1, HO_5, HB⟩ := hrel
     cases gk with
     | zero => exact absurd HA.out (by simp [natural_add.l0])
     | succ k1 =>
      have H := HA.out
      clear HA
      simp only [natural_add.l0] at H
      by_cases c9 : x22_1 < (l1.length : Int)
      ·rw [if_pos c9] at H
       have c9b0 : decide (x22_1 < (l1.length : Int)) = true := zE c9
       clear c9
       by_cases c10 : 0 ≤ x22_1
       ·rw [if_pos c10] at H
        have c10b0 : decide (0 ≤ x22_1) = true := zE c10
        clear c10
        by_cases c11 : x22_1 < (l1.length : Int)
        ·rw [if_pos c11] at H
         have c11b0 : decide (x22_1 < (l1.length : Int)) = true := zE c11
         clear c11
         by_cases c12 : x22_1 < (l0.length : Int)
         ·rw [if_pos c12] at H
          have c12b0 : decide (x22_1 < (l0.length : Int)) = true := zE c12
          clear c12
          by_cases c13 : x5_1.length < 35184372088832
          ·rw [if_pos c13] at H
           have LMc13 := zM c13
           clear c13
           obtain ⟨y170, hy170⟩ : ∃ y_ : List Int, y_ = (x5_1 ++ [(IntKind.u64.wrap ((IntKind.u64.wrap (x6_1 + (IntKind.u64.wrap (rd l1 x22_1)))) + (IntKind.u64.wrap (rd l0 x22_1)))) % 4294967296]) := ⟨_, rfl⟩
           replace H : (natural_add.l0 k1 l0 y170 ((IntKind.u64.wrap ((IntKind.u64.wrap (x6_1 + (IntKind.u64.wrap (rd l1 x22_1)))) + (IntKind.u64.wrap (rd l0 x22_1)))) / 4294967296) l1 (l1.length : Int) (wrap64 (x22_1 + 1))) = some r := by first | (rw [hy170]; with_reducible exact H) | (have H2_ := (Option.bind_some _ _).symm.trans H; rw [hy170]; with_reducible exact H2_) | (have H2_ := (Option.bind_some _ _).symm.trans H; with_reducible exact H2_) | with_reducible exact H | (rw [hy170]; exact H) | exact H
           have Ny170 := zM hy170
           clear hy170
           have H' := zM H
           clear H
           have p168 : 0 ≤ (x22_1 : Int) := zD (by first | (with_reducible assumption) | assumption)
           have q168 : x22_1 < (l1.length : Int) := zD (by first | (with_reducible assumption) | assumption)
           obtain ⟨ad168, e168, hx168_0⟩ := Kd.at_int HR1.out x22_1 p168 q168
           cases e168
           replace hx168_0 := (HB.out.cell (World.block_lt_of_cell? w _ hx168_0)).trans hx168_0
           replace p168 := eq_true p168
           replace q168 := eq_true q168
           have p169 : 0 ≤ (x22_1 : Int) := zD (by first | (with_reducible assumption) | assumption)
           have q169 : x22_1 < (l0.length : Int) := zD (by first | (with_reducible assumption) | assumption)
           obtain ⟨ad169, e169, hx169_0⟩ := Kd.at_int HR0.out x22_1 p169 q169
           cases e169
           replace hx169_0 := (HB.out.cell (World.block_lt_of_cell? w _ hx169_0)).trans hx169_0
           replace p169 := eq_true p169
           replace q169 := eq_true q169
           go_wp2_with (first | ((with_reducible refine gate_builtin (b := .append) (xs := #[.tmp 42, .tmp 45]) rfl ?_); at_builtin; refine Kd.R_append (Kd.int .u32) (w0 := w) w.heap.size rfl (.tmp 42) (.tmp 45) 22 76 (.int .u32 0) 4 rfl Try.underlying22 info76 rfl (by decide) (by omega) u5 x5_1 ((IntKind.u64.wrap ((IntKind.u64.wrap (x6_1 + (IntKind.u64.wrap (rd l1 x22_1)))) + (IntKind.u64.wrap (rd l0 x22_1)))) % 4294967296) [.int .u32 ((IntKind.u64.wrap ((IntKind.u64.wrap (x6_1 + (IntKind.u64.wrap (rd l1 x22_1)))) + (IntKind.u64.wrap (rd l0 x22_1)))) % 4294967296)] (fun k_ => (w.heap.size ≤ k_)) (fun _ => False) rfl rfl ?aP (fun _ hk => hk.elim) ?aF ?aO ?aB ?aS ?aL ?_; (case aP => exact rfl); (case aB => exact (HB.out)); (case aF => exact (fun k_ hk => (Nat.le_trans (below_size (HB.out)) hk))); (case aO => exact HO_5.out); (case aS => exact (below_size (HB.out))); (case aL => have := LMc13.out; omega); intro v171 w14 ho hb hg hat; rw [← Ny170.out] at ho; have n0_ := zM (hb); have n1_ := zM (ho); clear HB; clear HO_5; have HB := n0_; have HO172 := n1_; clear n0_ n1_; clear ho hb hg hat))
           go_roundg k1
           case measure => have := HK1.out; omega
           case rel => exact ⟨(y170), ((IntKind.u64.wrap ((IntKind.u64.wrap (x6_1 + (IntKind.u64.wrap (rd l1 x22_1)))) + (IntKind.u64.wrap (rd l0 x22_1)))) / 4294967296), (wrap64 (x22_1 + 1)), (by first | rfl | (simp; done) | (simp [*]; done)), (by first | rfl | (simp; done) | (simp [*]; done)), H', ⟨by have := HK1.out; omega⟩, ⟨by (with_reducible repeat (first | apply Kd.R_alloc | apply Kd.R_drewN | apply Kd.R_drew)); exact HO172.out⟩, ⟨HB.out⟩⟩
          ·rw [if_neg c13] at H
           exact absurd H (by simp)
         ·rw [if_neg c12] at H
          have c12b0 : decide (x22_1 < (l0.length : Int)) = false := decide_eq_false c12
          clear c12
          by_cases c15 : x5_1.length < 35184372088832
          ·rw [if_pos c15] at H
           have LMc15 := zM c15
           clear c15
           obtain ⟨y173, hy173⟩ : ∃ y_ : List Int, y_ = (x5_1 ++ [(IntKind.u64.wrap (x6_1 + (IntKind.u64.wrap (rd l1 x22_1)))) % 4294967296]) := ⟨_, rfl⟩
           replace H : (natural_add.l0 k1 l0 y173 ((IntKind.u64.wrap (x6_1 + (IntKind.u64.wrap (rd l1 x22_1)))) / 4294967296) l1 (l1.length : Int) (wrap64 (x22_1 + 1))) = some r := by first | (rw [hy173]; with_reducible exact H) | (have H2_ := (Option.bind_some _ _).symm.trans H; rw [hy173]; with_reducible exact H2_) | (have H2_ := (Option.bind_some _ _).symm.trans H; with_reducible exact H2_) | with_reducible exact H | (rw [hy173]; exact H) | exact H
           have Ny173 := zM hy173
           clear hy173
           have H' := zM H
           clear H
           have p168 : 0 ≤ (x22_1 : Int) := zD (by first | (with_reducible assumption) | assumption)
           have q168 : x22_1 < (l1.length : Int) := zD (by first | (with_reducible assumption) | assumption)
           obtain ⟨ad168, e168, hx168_0⟩ := Kd.at_int HR1.out x22_1 p168 q168
           cases e168
           replace hx168_0 := (HB.out.cell (World.block_lt_of_cell? w _ hx168_0)).trans hx168_0
           replace p168 := eq_true p168
           replace q168 := eq_true q168
           go_wp2_with (first | ((with_reducible refine gate_builtin (b := .append) (xs := #[.tmp 42, .tmp 45]) rfl ?_); at_builtin; refine Kd.R_append (Kd.int .u32) (w0 := w) w.heap.size rfl (.tmp 42) (.tmp 45) 22 76 (.int .u32 0) 4 rfl Try.underlying22 info76 rfl (by decide) (by omega) u5 x5_1 ((IntKind.u64.wrap (x6_1 + (IntKind.u64.wrap (rd l1 x22_1)))) % 4294967296) [.int .u32 ((IntKind.u64.wrap (x6_1 + (IntKind.u64.wrap (rd l1 x22_1)))) % 4294967296)] (fun k_ => (w.heap.size ≤ k_)) (fun _ => False) rfl rfl ?aP (fun _ hk => hk.elim) ?aF ?aO ?aB ?aS ?aL ?_; (case aP => exact rfl); (case aB => exact (HB.out)); (case aF => exact (fun k_ hk => (Nat.le_trans (below_size (HB.out)) hk))); (case aO => exact HO_5.out); (case aS => exact (below_size (HB.out))); (case aL => have := LMc15.out; omega); intro v174 w16 ho hb hg hat; rw [← Ny173.out] at ho; have n0_ := zM (hb); have n1_ := zM (ho); clear HB; clear HO_5; have HB := n0_; have HO175 := n1_; clear n0_ n1_; clear ho hb hg hat))
           go_roundg k1
           case measure => have := HK1.out; omega
           case rel => exact ⟨(y173), ((IntKind.u64.wrap (x6_1 + (IntKind.u64.wrap (rd l1 x22_1)))) / 4294967296), (wrap64 (x22_1 + 1)), (by first | rfl | (simp; done) | (simp [*]; done)), (by first | rfl | (simp; done) | (simp [*]; done)), H', ⟨by have := HK1.out; omega⟩, ⟨by (with_reducible repeat (first | apply Kd.R_alloc | apply Kd.R_drewN | apply Kd.R_drew)); exact HO175.out⟩, ⟨HB.out⟩⟩
          ·rw [if_neg c15] at H
           exact absurd H (by simp)
        ·rw [if_neg c11] at H
         exact absurd H (by simp)
       ·rw [if_neg c10] at H
        exact absurd H (by simp)
      ·rw [if_neg c9] at H
       have c9b0 : decide (x22_1 < (l1.length : Int)) = false := decide_eq_false c9
       clear c9
       by_cases c17 : x5_1.length < 35184372088832
       ·rw [if_pos c17] at H
        have LMc17 := zM c17
        clear c17
        obtain ⟨y176, hy176⟩ : ∃ y_ : List Int, y_ = (x5_1 ++ [(x6_1) % 4294967296]) := ⟨_, rfl⟩
        replace H : ((natural_trim.f k1 y176).bind fun t179 => (some t179)) = some r := by first | (rw [hy176]; with_reducible exact H) | (have H2_ := (Option.bind_some _ _).symm.trans H; rw [hy176]; with_reducible exact H2_) | (have H2_ := (Option.bind_some _ _).symm.trans H; with_reducible exact H2_) | with_reducible exact H | (rw [hy176]; exact H) | exact H
        have Ny176 := zM hy176
        clear hy176
        replace H := zB H
        obtain ⟨t179, A180, H⟩ := H
        replace H : (some t179) = some r := H
        have A18 := zM A180
        clear A180
        obtain rfl := Option.some.inj H
        go_wp2_with (first | ((with_reducible refine gate_builtin (b := .append) (xs := #[.tmp 50, .tmp 53]) rfl ?_); at_builtin; refine Kd.R_append (Kd.int .u32) (w0 := w) w.heap.size rfl (.tmp 50) (.tmp 53) 22 76 (.int .u32 0) 4 rfl Try.underlying22 info76 rfl (by decide) (by omega) u5 x5_1 ((x6_1) % 4294967296) [.int .u32 ((x6_1) % 4294967296)] (fun k_ => (w.heap.size ≤ k_)) (fun _ => False) rfl rfl ?aP (fun _ hk => hk.elim) ?aF ?aO ?aB ?aS ?aL ?_; (case aP => exact rfl); (case aB => exact (HB.out)); (case aF => exact (fun k_ hk => (Nat.le_trans (below_size (HB.out)) hk))); (case aO => exact HO_5.out); (case aS => exact (below_size (HB.out))); (case aL => have := LMc17.out; omega); intro v177 w19 ho hb hg hat; rw [← Ny176.out] at ho; have n0_ := zM (hb); have n1_ := zM (ho); clear HB; clear HO_5; have HB := n0_; have HO178 := n1_; clear n0_ n1_; clear ho hb hg hat; obtain ⟨Ao20, co20, eo20⟩ := Kd.R_slice HO178.out; subst eo20) | ((with_reducible refine gate_callee (f := 81) rfl ?_); refine goesL_ (some 55) rfl rfl Try.func81 (by kernel_rfl) rfl #[.slice Ao20 y176.length co20] rfl (by (try simp only [zT, zC, zN]); first | done | rfl | (simp only [zR, zL]; rfl)) ?_; (with_reducible refine (natural_trim.calls k1 (fun k_ => some k_ = (.slice Ao20 y176.length co20 : Value).ownBlock) _ _ y176 t179 _ ?side1 A18.out).mono ?_); (case side1 => exact Kd.R_V (Kd.R_tight rfl (HO178.out))); rintro e w21 ⟨v180, rfl, ho0, hb⟩; refine ⟨_, rfl, ?_⟩; have HO181 := zM (Kd.V_lower (Kd.V_mono (ok' := fun k_ => (w.heap.size ≤ k_)) ho0 (fun k_ hk_ => Or.elim hk_ (fun hs_ => ((HO178.out).1 k_ hs_.symm)) (fun hn_ => (Nat.le_trans (below_size (HB.out)) hn_)))) (below_size (HB.out))); replace HO178 := zM (Kd.R_below HO178.out hb); replace HB := zM (below_step (HB.out) hb); (try clear hb); (try clear hb2); (try clear hk); (try clear hi); (try clear ho0)))
        go_ret
        exact ⟨_, by first | rfl | (simp [errW_none, errW_some] <;> rfl) | (simp only [← hji4]; first | rfl | (simp [errW_none, errW_some] <;> rfl)) | (simp [*, errW_none, errW_some] <;> rfl), by (with_reducible repeat (first | apply Kd.V_alloc | apply Kd.V_drewN | apply Kd.V_drew)); exact HO181.out, HB.out⟩
       ·rw [if_neg c17] at H
        exact absurd H (by simp)
   ·rw [if_neg c6] at H
    exact absurd H (by simp)
  ·rw [if_neg c5] at H
   exact absurd H (by simp)
 ·rw [if_neg c3] at H
  have c3b0 : decide ((l0.length : Int) < (l1.length : Int)) = false := decide_eq_false c3
  have c3b1 : decide (l0.length < l1.length) = false := decide_eq_false (fun h => c3 (Int.ofNat_lt.mpr h))
  clear c3
  obtain ⟨ji22, hji22⟩ : ∃ j_ : Int, (wrap64 ((l0.length : Int) + 1)) = j_ := ⟨_, rfl⟩
  replace H : (if 0 ≤ (ji22) then (if (ji22 : Int).toNat ≤ 70368744177664 then (natural_add.l50 k l1 (([] : List Int)) 0 l0 (l0.length : Int) 0) else (none)) else (none)) = some r := by first | (rw [hji22] at H; exact H) | (simp only [hji22] at H ⊢; exact H)
  have hji22w : (IntKind.i64.wrap ((l0.length : Int) + 1)) = ji22 := (i64_w _).trans hji22
  by_cases c23 : 0 ≤ (ji22)
  ·rw [if_pos c23] at H
   have c23b0 := eq_true c23
   have c23b1 : decide (0 ≤ (ji22)) = true := zE c23
   clear c23
   by_cases c24 : (ji22 : Int).toNat ≤ 70368744177664
   ·rw [if_pos c24] at H
    have c24b0 := eq_true c24
    have c24b1 : decide ((ji22 : Int).toNat ≤ 70368744177664) = true := zE c24
    clear c24
    obtain ⟨y182, hy182⟩ : ∃ y_ : List Int, y_ = (([] : List Int)) := ⟨_, rfl⟩
    replace H : (natural_add.l50 k l1 y182 0 l0 (l0.length : Int) 0) = some r := by first | (rw [hy182]; with_reducible exact H) | (have H2_ := (Option.bind_some _ _).symm.trans H; rw [hy182]; with_reducible exact H2_) | (have H2_ := (Option.bind_some _ _).symm.trans H; with_reducible exact H2_) | with_reducible exact H | (rw [hy182]; exact H) | exact H
    have Ny182 := zM hy182
    clear hy182
    have H' := zM H
    clear H
    go_enter Try.func79, Try.ntmps79
    go_wp2_with (first | ((with_reducible refine gate_dst (N := 19) rfl ?_); refine Kd.R_make0 (Kd.int .u32) _ 76 rfl (N := 19) rfl 22 _ _ rfl ji22 rfl rfl Try.underlying22 (.int .u32 0) 4 info76 rfl (by decide) (by omega) 0 (ok := fun _ => True) (okp := fun _ => True) rfl (fun _ hk => hk) trivial (zD (by first | (with_reducible assumption) | assumption)) (Nat.le_trans (Nat.mul_le_mul_right _ (zD (by first | (with_reducible assumption) | assumption) : ji22.toNat ≤ 70368744177664)) (by omega)) (Below.refl _ _) (Nat.le_refl _) ?_; intro v183 w25 ho26 hb hg_ hnew_; clear hg_ hnew_; (first | rw [← Ny182.out] at ho26 | (simp only [Int.reduceToNat] at ho26; rw [← Ny182.out] at ho26)); have HO184 := zM (Kd.R_lower (Kd.R_newM (M := fun k_ => (w.heap.size ≤ k_)) ho26 (below_size (HB.out)) (fun k_ h_ => h_)) (below_size (HB.out))); replace HB := zM (below_step (HB.out) hb); clear hb ho26))
    go_loopg [5, 6, 22] k (fun kq v5 v6 v22 w' => ∃ (x5_1 : List Int) (x6_1 : Int) (x22_1 : Int), v6 = .int .u64 x6_1 ∧ v22 = .int .i64 x22_1 ∧ Aside0 (natural_add.l50 kq l1 x5_1 x6_1 l0 (l0.length : Int) x22_1 = some r) ∧ Aside0 (kq ≤ k) ∧ Aside0 (Kd.R (Kd.int .u32) 76 w' w.heap.size (fun k_ => (w.heap.size ≤ k_)) v5 x5_1) ∧ Aside0 (Below w.heap.size w w'))
    case atStart => exact ⟨(y182), (0), (0), (by first | rfl | (simp; done) | (simp [*]; done)), (by first | rfl | (simp; done) | (simp [*]; done)), H', ⟨Nat.le_refl _⟩, ⟨by (with_reducible repeat (first | apply Kd.R_alloc | apply Kd.R_drewN | apply Kd.R_drew)); exact Kd.R_mono HO184.out (fun _ hk => hk.1)⟩, ⟨HB.out⟩⟩
    case round =>
     clear H'
     try clear c1
     try clear p1
     try clear q1
     try clear hx1
     try clear c2
     try clear p2
     try clear c3
     try clear c3b0
     try clear c3b1
     try clear c5
     try clear c5b0
     try clear c5b1
     try clear c6
     try clear c6b0
     try clear c6b1
     try clear p6
     try clear c7
     try clear c8
     try clear c9
     try clear c9b0
     try clear c10
     try clear c10b0
     try clear c11
     try clear c11b0
     try clear c12
     try clear c12b0
     try clear c13
     try clear c15
     try clear p16
     try clear q16
     try clear hx16
     try clear c17
     try clear c23
     try clear c23b0
     try clear c23b1
     try clear c24
     try clear c24b0
     try clear c24b1
     try clear hx168_0
     try clear hx169_0
     try clear p168
     try clear p169
     try clear p2
     try clear p6
     try clear q168
     try clear q169
     obtain ⟨x5_1, x6_1, x22_1, rfl, rfl, HA, HK1, HO_5, HB⟩ := hrel
     cases gk with
     | zero => exact absurd HA.out (by simp [natural_add.l50])
     | succ k1 =>
      have H := HA.out
      clear HA
      simp only [natural_add.l50] at H
      by_cases c27 : x22_1 < (l0.length : Int)
      ·rw [if_pos c27] at H
       have c27b0 : decide (x22_1 < (l0.length : Int)) = true := zE c27
       clear c27
       by_cases c28 : 0 ≤ x22_1
       ·rw [if_pos c28] at H
        have c28b0 : decide (0 ≤ x22_1) = true := zE c28
        clear c28
        by_cases c29 : x22_1 < (l0.length : Int)
        ·rw [if_pos c29] at H
         have c29b0 : decide (x22_1 < (l0.length : Int)) = true := zE c29
         clear c29
         by_cases c30 : x22_1 < (l1.length : Int)
         ·rw [if_pos c30] at H
          have c30b0 : decide (x22_1 < (l1.length : Int)) = true := zE c30
          clear c30
          by_cases c31 : x5_1.length < 35184372088832
          ·rw [if_pos c31] at H
           have LMc31 := zM c31
           clear c31
           obtain ⟨y187, hy187⟩ : ∃ y_ : List Int, y_ = (x5_1 ++ [(IntKind.u64.wrap ((IntKind.u64.wrap (x6_1 + (IntKind.u64.wrap (rd l0 x22_1)))) + (IntKind.u64.wrap (rd l1 x22_1)))) % 4294967296]) := ⟨_, rfl⟩
           replace H : (natural_add.l50 k1 l1 y187 ((IntKind.u64.wrap ((IntKind.u64.wrap (x6_1 + (IntKind.u64.wrap (rd l0 x22_1)))) + (IntKind.u64.wrap (rd l1 x22_1)))) / 4294967296) l0 (l0.length : Int) (wrap64 (x22_1 + 1))) = some r := by first | (rw [hy187]; with_reducible exact H) | (have H2_ := (Option.bind_some _ _).symm.trans H; rw [hy187]; with_reducible exact H2_) | (have H2_ := (Option.bind_some _ _).symm.trans H; with_reducible exact H2_) | with_reducible exact H | (rw [hy187]; exact H) | exact H
           have Ny187 := zM hy187
           clear hy187
           have H' := zM H
           clear H
           have p185 : 0 ≤ (x22_1 : Int) := zD (by first | (with_reducible assumption) | assumption)
           have q185 : x22_1 < (l0.length : Int) := zD (by first | (with_reducible assumption) | assumption)
           obtain ⟨ad185, e185, hx185_0⟩ := Kd.at_int HR0.out x22_1 p185 q185
           cases e185
           replace hx185_0 := (HB.out.cell (World.block_lt_of_cell? w _ hx185_0)).trans hx185_0
           replace p185 := eq_true p185
           replace q185 := eq_true q185
           have p186 : 0 ≤ (x22_1 : Int) := zD (by first | (with_reducible assumption) | assumption)
           have q186 : x22_1 < (l1.length : Int) := zD (by first | (with_reducible assumption) | assumption)
           obtain ⟨ad186, e186, hx186_0⟩ := Kd.at_int HR1.out x22_1 p186 q186
           cases e186
           replace hx186_0 := (HB.out.cell (World.block_lt_of_cell? w _ hx186_0)).trans hx186_0
           replace p186 := eq_true p186
           replace q186 := eq_true q186
           go_wp2_with (first | ((with_reducible refine gate_builtin (b := .append) (xs := #[.tmp 42, .tmp 45]) rfl ?_); at_builtin; refine Kd.R_append (Kd.int .u32) (w0 := w) w.heap.size rfl (.tmp 42) (.tmp 45) 22 76 (.int .u32 0) 4 rfl Try.underlying22 info76 rfl (by decide) (by omega) u5 x5_1 ((IntKind.u64.wrap ((IntKind.u64.wrap (x6_1 + (IntKind.u64.wrap (rd l0 x22_1)))) + (IntKind.u64.wrap (rd l1 x22_1)))) % 4294967296) [.int .u32 ((IntKind.u64.wrap ((IntKind.u64.wrap (x6_1 + (IntKind.u64.wrap (rd l0 x22_1)))) + (IntKind.u64.wrap (rd l1 x22_1)))) % 4294967296)] (fun k_ => (w.heap.size ≤ k_)) (fun _ => False) rfl rfl ?aP (fun _ hk => hk.elim) ?aF ?aO ?aB ?aS ?aL ?_; (case aP => exact rfl); (case aB => exact (HB.out)); (case aF => exact (fun k_ hk => (Nat.le_trans (below_size (HB.out)) hk))); (case aO => exact HO_5.out); (case aS => exact (below_size (HB.out))); (case aL => have := LMc31.out; omega); intro v188 w32 ho hb hg hat; rw [← Ny187.out] at ho; have n0_ := zM (hb); have n1_ := zM (ho); clear HB; clear HO_5; have HB := n0_; have HO189 := n1_; clear n0_ n1_; clear ho hb hg hat))
           go_roundg k1
           case measure => have := HK1.out; omega
           case rel => exact ⟨(y187), ((IntKind.u64.wrap ((IntKind.u64.wrap (x6_1 + (IntKind.u64.wrap (rd l0 x22_1)))) + (IntKind.u64.wrap (rd l1 x22_1)))) / 4294967296), (wrap64 (x22_1 + 1)), (by first | rfl | (simp; done) | (simp [*]; done)), (by first | rfl | (simp; done) | (simp [*]; done)), H', ⟨by have := HK1.out; omega⟩, ⟨by (with_reducible repeat (first | apply Kd.R_alloc | apply Kd.R_drewN | apply Kd.R_drew)); exact HO189.out⟩, ⟨HB.out⟩⟩
          ·rw [if_neg c31] at H
           exact absurd H (by simp)
         ·rw [if_neg c30] at H
          have c30b0 : decide (x22_1 < (l1.length : Int)) = false := decide_eq_false c30
          clear c30
          by_cases c33 : x5_1.length < 35184372088832
          ·rw [if_pos c33] at H
           have LMc33 := zM c33
           clear c33
           obtain ⟨y190, hy190⟩ : ∃ y_ : List Int, y_ = (x5_1 ++ [(IntKind.u64.wrap (x6_1 + (IntKind.u64.wrap (rd l0 x22_1)))) % 4294967296]) := ⟨_, rfl⟩
           replace H : (natural_add.l50 k1 l1 y190 ((IntKind.u64.wrap (x6_1 + (IntKind.u64.wrap (rd l0 x22_1)))) / 4294967296) l0 (l0.length : Int) (wrap64 (x22_1 + 1))) = some r := by first | (rw [hy190]; with_reducible exact H) | (have H2_ := (Option.bind_some _ _).symm.trans H; rw [hy190]; with_reducible exact H2_) | (have H2_ := (Option.bind_some _ _).symm.trans H; with_reducible exact H2_) | with_reducible exact H | (rw [hy190]; exact H) | exact H
           have Ny190 := zM hy190
           clear hy190
           have H' := zM H
           clear H
           have p185 : 0 ≤ (x22_1 : Int) := zD (by first | (with_reducible assumption) | assumption)
           have q185 : x22_1 < (l0.length : Int) := zD (by first | (with_reducible assumption) | assumption)
           obtain ⟨ad185, e185, hx185_0⟩ := Kd.at_int HR0.out x22_1 p185 q185
           cases e185
           replace hx185_0 := (HB.out.cell (World.block_lt_of_cell? w _ hx185_0)).trans hx185_0
           replace p185 := eq_true p185
           replace q185 := eq_true q185
           go_wp2_with (first | ((with_reducible refine gate_builtin (b := .append) (xs := #[.tmp 42, .tmp 45]) rfl ?_); at_builtin; refine Kd.R_append (Kd.int .u32) (w0 := w) w.heap.size rfl (.tmp 42) (.tmp 45) 22 76 (.int .u32 0) 4 rfl Try.underlying22 info76 rfl (by decide) (by omega) u5 x5_1 ((IntKind.u64.wrap (x6_1 + (IntKind.u64.wrap (rd l0 x22_1)))) % 4294967296) [.int .u32 ((IntKind.u64.wrap (x6_1 + (IntKind.u64.wrap (rd l0 x22_1)))) % 4294967296)] (fun k_ => (w.heap.size ≤ k_)) (fun _ => False) rfl rfl ?aP (fun _ hk => hk.elim) ?aF ?aO ?aB ?aS ?aL ?_; (case aP => exact rfl); (case aB => exact (HB.out)); (case aF => exact (fun k_ hk => (Nat.le_trans (below_size (HB.out)) hk))); (case aO => exact HO_5.out); (case aS => exact (below_size (HB.out))); (case aL => have := LMc33.out; omega); intro v191 w34 ho hb hg hat; rw [← Ny190.out] at ho; have n0_ := zM (hb); have n1_ := zM (ho); clear HB; clear HO_5; have HB := n0_; have HO192 := n1_; clear n0_ n1_; clear ho hb hg hat))
           go_roundg k1
           case measure => have := HK1.out; omega
           case rel => exact ⟨(y190), ((IntKind.u64.wrap (x6_1 + (IntKind.u64.wrap (rd l0 x22_1)))) / 4294967296), (wrap64 (x22_1 + 1)), (by first | rfl | (simp; done) | (simp [*]; done)), (by first | rfl | (simp; done) | (simp [*]; done)), H', ⟨by have := HK1.out; omega⟩, ⟨by (with_reducible repeat (first | apply Kd.R_alloc | apply Kd.R_drewN | apply Kd.R_drew)); exact HO192.out⟩, ⟨HB.out⟩⟩
          ·rw [if_neg c33] at H
           exact absurd H (by simp)
        ·rw [if_neg c29] at H
         exact absurd H (by simp)
       ·rw [if_neg c28] at H
        exact absurd H (by simp)
      ·rw [if_neg c27] at H
       have c27b0 : decide (x22_1 < (l0.length : Int)) = false := decide_eq_false c27
       clear c27
       by_cases c35 : x5_1.length < 35184372088832
       ·rw [if_pos c35] at H
        have LMc35 := zM c35
        clear c35
        obtain ⟨y193, hy193⟩ : ∃ y_ : List Int, y_ = (x5_1 ++ [(x6_1) % 4294967296]) := ⟨_, rfl⟩
        replace H : ((natural_trim.f k1 y193).bind fun t196 => (some t196)) = some r := by first | (rw [hy193]; with_reducible exact H) | (have H2_ := (Option.bind_some _ _).symm.trans H; rw [hy193]; with_reducible exact H2_) | (have H2_ := (Option.bind_some _ _).symm.trans H; with_reducible exact H2_) | with_reducible exact H | (rw [hy193]; exact H) | exact H
        have Ny193 := zM hy193
        clear hy193
        replace H := zB H
        obtain ⟨t196, A360, H⟩ := H
        replace H : (some t196) = some r := H
        have A36 := zM A360
        clear A360
        obtain rfl := Option.some.inj H
        go_wp2_with (first | ((with_reducible refine gate_builtin (b := .append) (xs := #[.tmp 50, .tmp 53]) rfl ?_); at_builtin; refine Kd.R_append (Kd.int .u32) (w0 := w) w.heap.size rfl (.tmp 50) (.tmp 53) 22 76 (.int .u32 0) 4 rfl Try.underlying22 info76 rfl (by decide) (by omega) u5 x5_1 ((x6_1) % 4294967296) [.int .u32 ((x6_1) % 4294967296)] (fun k_ => (w.heap.size ≤ k_)) (fun _ => False) rfl rfl ?aP (fun _ hk => hk.elim) ?aF ?aO ?aB ?aS ?aL ?_; (case aP => exact rfl); (case aB => exact (HB.out)); (case aF => exact (fun k_ hk => (Nat.le_trans (below_size (HB.out)) hk))); (case aO => exact HO_5.out); (case aS => exact (below_size (HB.out))); (case aL => have := LMc35.out; omega); intro v194 w37 ho hb hg hat; rw [← Ny193.out] at ho; have n0_ := zM (hb); have n1_ := zM (ho); clear HB; clear HO_5; have HB := n0_; have HO195 := n1_; clear n0_ n1_; clear ho hb hg hat; obtain ⟨Ao38, co38, eo38⟩ := Kd.R_slice HO195.out; subst eo38) | ((with_reducible refine gate_callee (f := 81) rfl ?_); refine goesL_ (some 55) rfl rfl Try.func81 (by kernel_rfl) rfl #[.slice Ao38 y193.length co38] rfl (by (try simp only [zT, zC, zN]); first | done | rfl | (simp only [zR, zL]; rfl)) ?_; (with_reducible refine (natural_trim.calls k1 (fun k_ => some k_ = (.slice Ao38 y193.length co38 : Value).ownBlock) _ _ y193 t196 _ ?side1 A36.out).mono ?_); (case side1 => exact Kd.R_V (Kd.R_tight rfl (HO195.out))); rintro e w39 ⟨v197, rfl, ho0, hb⟩; refine ⟨_, rfl, ?_⟩; have HO198 := zM (Kd.V_lower (Kd.V_mono (ok' := fun k_ => (w.heap.size ≤ k_)) ho0 (fun k_ hk_ => Or.elim hk_ (fun hs_ => ((HO195.out).1 k_ hs_.symm)) (fun hn_ => (Nat.le_trans (below_size (HB.out)) hn_)))) (below_size (HB.out))); replace HO195 := zM (Kd.R_below HO195.out hb); replace HB := zM (below_step (HB.out) hb); (try clear hb); (try clear hb2); (try clear hk); (try clear hi); (try clear ho0)))
        go_ret
        exact ⟨_, by first | rfl | (simp [errW_none, errW_some] <;> rfl) | (simp only [← hji22]; first | rfl | (simp [errW_none, errW_some] <;> rfl)) | (simp [*, errW_none, errW_some] <;> rfl), by (with_reducible repeat (first | apply Kd.V_alloc | apply Kd.V_drewN | apply Kd.V_drew)); exact HO198.out, HB.out⟩
       ·rw [if_neg c35] at H
        exact absurd H (by simp)
   ·rw [if_neg c24] at H
    exact absurd H (by simp)
  ·rw [if_neg c23] at H
   exact absurd H (by simp)

/-! ### natural_Add: function 72 -/
def natural_Add.f (k : Nat) (l0 : List Int) (l1 : List Int) : Option (List Int × Int × Int) := (natural_check.f l0 l1).bind fun bt200 => (if bt200.1 = 0 then ((natural_add.f k l0 l1).bind fun t203 => ((natural_fit.f k t203).bind fun bt206 => (some (bt206.1, bt206.2.1, bt206.2.2)))) else (some (([] : List Int), bt200.1, bt200.2)))
theorem natural_Add.mono : ∀ a0 a1 k, LeO (natural_Add.f k a0 a1) (natural_Add.f (k + 1) a0 a1) := by
 intro a0 a1 k
 unfold natural_Add.f
 repeat' first
   | (with_reducible exact natural_add.mono _ _ _)
   | (with_reducible exact natural_fit.mono _ _)
   | (with_reducible exact LeO.refl _)
   | (with_reducible exact LeO.none _)
   | (with_reducible refine LeO.ite ?_ ?_)
   | (with_reducible refine LeO.bind ?_ (fun _ => ?_))
   | exact natural_add.mono _ _ _
   | exact natural_fit.mono _ _
   | exact LeO.none _
   | refine LeO.ite ?_ ?_
   | refine LeO.bind ?_ (fun _ => ?_)
set_option maxHeartbeats 60000000 in
set_option maxRecDepth 100000 in
theorem natural_Add.calls (k : Nat) (A0 : Option Addr) (c0 : Nat) (l0 : List Int) (A1 : Option Addr) (c1 : Nat) (l1 : List Int) (r1 : List Int) (r2 : Int) (r3 : Int) (w : World) (hr0 : Kd.C (Kd.int .u32) w A0 l0.length l0) (hc0 : l0.length ≤ c0) (hr1 : Kd.C (Kd.int .u32) w A1 l1.length l1) (hc1 : l1.length ≤ c1) (h : natural_Add.f k l0 l1 = some (r1, r2, r3)) :
  Calls Try.prog 72 #[.slice A0 l0.length c0, .slice A1 l1.length c1] w fun e w' => ∃ v0_ : Value, e = .returned (.tuple #[v0_, .agg #[.int .i64 r2, .int .i64 r3]]) ∧ Kd.V (Kd.int .u32) 76 w' w.heap.size (fun k_ => (w.heap.size ≤ k_)) v0_ r1 ∧ Below w.heap.size w w' := by
 have hu29 := Try.underlying29
 have HR0 := zM hr0
 have HC0 := zM hc0
 clear hr0 hc0
 have HR1 := zM hr1
 have HC1 := zM hc1
 clear hr1 hc1
 have HB := zM (Below.refl w.heap.size w)
 have H : ((natural_check.f l0 l1).bind fun bt200 => (if bt200.1 = 0 then ((natural_add.f k l0 l1).bind fun t203 => ((natural_fit.f k t203).bind fun bt206 => (some (bt206.1, bt206.2.1, bt206.2.2)))) else (some (([] : List Int), bt200.1, bt200.2)))) = some (r1, r2, r3) := h
 clear h
 replace H := zB H
 obtain ⟨⟨t200, t201⟩, A30, H⟩ := H
 replace H : (if t200 = 0 then ((natural_add.f k l0 l1).bind fun t203 => ((natural_fit.f k t203).bind fun bt206 => (some (bt206.1, bt206.2.1, bt206.2.2)))) else (some (([] : List Int), t200, t201))) = some (r1, r2, r3) := H
 have A3 := zM A30
 clear A30
 by_cases c4 : t200 = 0
 ·rw [if_pos c4] at H
  have c4b0 : (t200 == 0) = true := beq_iff_eq.mpr c4
  have c4b1 : (t200 != 0) = false := bne_eq_false_iff_eq.mpr c4
  clear c4
  replace H := zB H
  obtain ⟨t203, A50, H⟩ := H
  replace H : ((natural_fit.f k t203).bind fun bt206 => (some (bt206.1, bt206.2.1, bt206.2.2))) = some (r1, r2, r3) := H
  have A5 := zM A50
  clear A50
  replace H := zB H
  obtain ⟨⟨t206, t209, t210⟩, A60, H⟩ := H
  replace H : (some (t206, t209, t210)) = some (r1, r2, r3) := H
  have A6 := zM A60
  clear A60
  simp only [Option.some.injEq, Prod.mk.injEq] at H
  obtain ⟨rfl, rfl, rfl⟩ := H
  go_enter Try.func72, Try.ntmps72
  go_wp2_with (first | ((with_reducible refine gate_dst (N := 5) rfl ?_); refine box_event ?hg (N := 5) ?hd (cs := #[.int .i64 0, .int .i64 0]) (t := 29) ?hr ?_; (case hd => rfl); (case hg => rfl); (case hr => first | (go_simp; done) | (go_simp; rfl)); intro gb199 hg w7 hbox hb; have BK199 := zM (hbox); have GW199 := zM ((by rw [hg]; exact (below_size (HB.out)) : w.heap.size ≤ gb199)); have GE199 := GW199; replace HB := zM (below_step (HB.out) hb); clear hb hbox hg) | ((with_reducible refine gate_callee (f := 70) rfl ?_); refine goesL_ (some 9) rfl rfl Try.func70 (by kernel_rfl) rfl #[.slice A0 l0.length c0, .slice A1 l1.length c1] rfl (by (try simp only [zT, zC, zN]); first | done | rfl | (simp only [zR, zL]; rfl)) ?_; (with_reducible refine (natural_check.calls _ _ l0 _ _ l1 t200 t201 _ ?side1 ?side2 ?side3 ?side4 A3.out).mono ?_); (case side1 => repeat (first | exact (Kd.C_below HR0.out HB.out) | (with_reducible refine Kd.C_alloc ?_ _) | (with_reducible refine Kd.C_drewN ?_ _) | (with_reducible refine Kd.C_drew ?_))); (case side2 => exact HC0.out); (case side3 => repeat (first | exact (Kd.C_below HR1.out HB.out) | (with_reducible refine Kd.C_alloc ?_ _) | (with_reducible refine Kd.C_drewN ?_ _) | (with_reducible refine Kd.C_drew ?_))); (case side4 => exact HC1.out); rintro e w8 ⟨rfl, hb⟩; refine ⟨_, rfl, ?_⟩; replace BK199 := pzb BK199 hb; replace HB := zM (below_step (by repeat (first | (with_reducible first | exact HB.out | apply pzA | apply pzD | apply pz1 | apply pzs | assumption) | exact HB.out)) hb); (try clear hb); (try clear hb2); (try clear hk); (try clear hi)) | ((with_reducible refine gate_dst (N := 6) rfl ?_); refine box_event ?hg (N := 6) ?hd (cs := #[.int .i64 0, .int .i64 0]) (t := 29) ?hr ?_; (case hd => rfl); (case hg => rfl); (case hr => first | (go_simp; done) | (go_simp; rfl)); intro gb202 hg w9 hbox hb; have BK202 := zM (hbox); have GW202 := zM ((by rw [hg]; exact (below_size (by repeat (first | (with_reducible first | exact HB.out | apply pzA | apply pzD | apply pz1 | apply pzs | assumption) | exact HB.out))) : w.heap.size ≤ gb202)); have GE202 := GW202; have NB199_202 := pzf BK199 hg; have NB202_199 := pzg BK199 hg; replace BK199 := pzb BK199 hb; replace HB := zM (below_step (by repeat (first | (with_reducible first | exact HB.out | apply pzA | apply pzD | apply pz1 | apply pzs | assumption) | exact HB.out)) hb); clear hb hbox hg; have hnb10 := NB202_199.out; have hnc10 := NB199_202.out; have hcz11_0 := pzc (v := .int .i64 0) BK202 0 rfl; have hcz11_1 := pzc (v := .int .i64 0) BK202 1 rfl; have hfz11_0 := zF BK202.out 0; have hfz11_1 := zF BK202.out 1) | ((with_reducible refine gate_callee (f := 79) rfl ?_); refine goesL_ (some 16) rfl rfl Try.func79 (by kernel_rfl) rfl #[.slice A0 l0.length c0, .slice A1 l1.length c1] rfl (by (try simp only [zT, zC, zN]); first | done | rfl | (simp only [zR, zL]; rfl)) ?_; (with_reducible refine (natural_add.calls k _ _ l0 _ _ l1 t203 _ ?side1 ?side2 ?side3 ?side4 A5.out).mono ?_); (case side1 => exact Kd.C_below HR0.out (by repeat (first | (with_reducible first | exact HB.out | apply pzA | apply pzD | apply pz1 | apply pzs | assumption) | exact HB.out))); (case side2 => exact HC0.out); (case side3 => exact Kd.C_below HR1.out (by repeat (first | (with_reducible first | exact HB.out | apply pzA | apply pzD | apply pz1 | apply pzs | assumption) | exact HB.out))); (case side4 => exact HC1.out); rintro e w12 ⟨v204, rfl, ho0, hb⟩; refine ⟨_, rfl, ?_⟩; have HO205 := zM (Kd.V_lower (Kd.V_mono (ok' := fun k_ => (w.heap.size ≤ k_) ∧ k_ ≠ gb199 ∧ k_ ≠ gb202) ho0 (fun k_ hk_ => ⟨(Nat.le_trans (below_size (by repeat (first | (with_reducible first | exact HB.out | apply pzA | apply pzD | apply pz1 | apply pzs | assumption) | exact HB.out))) hk_), (Kd.freshB (g := gb199) (o := .cells #[.int .i64 0, .int .i64 0] 29 (0, 0)) (by (with_reducible repeat (first | apply pzN | apply pzd | apply pza)); refine blk_far ?_ NB199_202.out _; (with_reducible repeat (first | apply pzN | apply pzd | apply pza)); refine blk_far ?_ NB199_202.out _; (with_reducible repeat (first | apply pzN | apply pzd | apply pza)); exact BK199.out) k_ hk_), (Kd.freshB (g := gb202) (o := .cells #[.int .i64 t200, .int .i64 t201] 29 (0, 0)) (by (with_reducible repeat (first | apply pzN | apply pzd | apply pza)); refine blk_put (cs := #[.int .i64 t200, .int .i64 0]) ?_ 1 _ rfl; (with_reducible repeat (first | apply pzN | apply pzd | apply pza)); refine blk_put (cs := #[.int .i64 0, .int .i64 0]) ?_ 0 _ rfl; (with_reducible repeat (first | apply pzN | apply pzd | apply pza)); exact BK202.out) k_ hk_)⟩)) (below_size (by repeat (first | (with_reducible first | exact HB.out | apply pzA | apply pzD | apply pz1 | apply pzs | assumption) | exact HB.out)))); replace BK199 := zM (blk_below (g := gb199) (o := .cells #[.int .i64 0, .int .i64 0] 29 (0, 0)) (by (with_reducible repeat (first | apply pzN | apply pzd | apply pza)); refine blk_far ?_ NB199_202.out _; (with_reducible repeat (first | apply pzN | apply pzd | apply pza)); refine blk_far ?_ NB199_202.out _; (with_reducible repeat (first | apply pzN | apply pzd | apply pza)); exact BK199.out) hb); replace BK202 := zM (blk_below (g := gb202) (o := .cells #[.int .i64 t200, .int .i64 t201] 29 (0, 0)) (by (with_reducible repeat (first | apply pzN | apply pzd | apply pza)); refine blk_put (cs := #[.int .i64 t200, .int .i64 0]) ?_ 1 _ rfl; (with_reducible repeat (first | apply pzN | apply pzd | apply pza)); refine blk_put (cs := #[.int .i64 0, .int .i64 0]) ?_ 0 _ rfl; (with_reducible repeat (first | apply pzN | apply pzd | apply pza)); exact BK202.out) hb); replace HB := zM (below_step (by repeat (first | (with_reducible first | exact HB.out | apply pzA | apply pzD | apply pz1 | apply pzs | assumption) | exact HB.out)) hb); (try clear hb); (try clear hb2); (try clear hk); (try clear hi); (try clear ho0); obtain ⟨Ao13, co13, eo13⟩ := Kd.V_slice HO205.out; subst eo13) | ((with_reducible refine gate_callee (f := 78) rfl ?_); refine goesL_ (some 17) rfl rfl Try.func78 (by kernel_rfl) rfl #[.slice Ao13 t203.length co13] rfl (by (try simp only [zT, zC, zN]); first | done | rfl | (simp only [zR, zL]; rfl)) ?_; (with_reducible refine (natural_fit.calls k (fun k_ => ((w.heap.size ≤ k_) ∧ (k_ ≠ gb199 ∧ k_ ≠ gb202))) _ _ t203 t206 t209 t210 _ ?side1 A6.out).mono ?_); (case side1 => exact HO205.out); rintro e w14 ⟨v207, rfl, ho0, hb⟩; refine ⟨_, rfl, ?_⟩; have HO208 := zM (Kd.V_lower (Kd.V_mono (ok' := fun k_ => (w.heap.size ≤ k_) ∧ k_ ≠ gb199 ∧ k_ ≠ gb202) ho0 (fun k_ hk_ => ⟨Or.elim hk_ (fun hs_ => hs_.1) (fun hn_ => (Nat.le_trans (below_size (by repeat (first | (with_reducible first | exact HB.out | apply pzA | apply pzD | apply pz1 | apply pzs | assumption) | exact HB.out))) hn_)), Or.elim hk_ (fun hs_ => hs_.2.1) (fun hn_ => (Kd.freshB (g := gb199) (o := .cells #[.int .i64 0, .int .i64 0] 29 (0, 0)) BK199.out k_ hn_)), Or.elim hk_ (fun hs_ => hs_.2.2) (fun hn_ => (Kd.freshB (g := gb202) (o := .cells #[.int .i64 t200, .int .i64 t201] 29 (0, 0)) BK202.out k_ hn_))⟩)) (below_size (by repeat (first | (with_reducible first | exact HB.out | apply pzA | apply pzD | apply pz1 | apply pzs | assumption) | exact HB.out)))); replace HO205 := zM (Kd.V_below HO205.out hb); replace BK199 := pzb BK199 hb; replace HB := zM (below_step (by repeat (first | (with_reducible first | exact HB.out | apply pzA | apply pzD | apply pz1 | apply pzs | assumption) | exact HB.out)) hb); (try clear hb); (try clear hb2); (try clear hk); (try clear hi); (try clear ho0); have hcz15_0 := pzc (v := .int .i64 0) BK199 0 rfl; have hcz15_1 := pzc (v := .int .i64 0) BK199 1 rfl; have hfz15_0 := zF BK199.out 0; have hfz15_1 := zF BK199.out 1))
  refine bodyPost_ret (results_tc rfl _ _ gb199 29 #[.int .i64 t209, .int .i64 t210] (0, 0) _ rfl (by (with_reducible repeat (first | apply pzN | apply pzd | apply pza)); refine blk_put (cs := #[.int .i64 t209, .int .i64 0]) ?_ 1 _ rfl; (with_reducible repeat (first | apply pzN | apply pzd | apply pza)); refine blk_put (cs := #[.int .i64 0, .int .i64 0]) ?_ 0 _ rfl; (with_reducible repeat (first | apply pzN | apply pzd | apply pza)); exact BK199.out) Try.underlying29 rfl (by kernel_rfl)) rfl ?_
  exact ⟨_, by first | rfl | (simp [errW_none, errW_some] <;> rfl) | (simp [*, errW_none, errW_some] <;> rfl), by (with_reducible repeat (first | apply Kd.V_alloc | apply Kd.V_drewN | apply Kd.V_drew)); exact Kd.V_mono (Kd.V_far (p := ⟨gb199, 1, none⟩) (Kd.V_far (p := ⟨gb199, 0, none⟩) (Kd.V_mono HO208.out (fun k_ hk => (⟨hk, hk.2.1⟩ : _ ∧ k_ ≠ gb199))) (fun _ hk => hk.2) (.int .i64 t209)) (fun _ hk => hk.2) (.int .i64 t210)) (fun _ hk => hk.1.1), by repeat (first | (with_reducible first | exact HB.out | apply pzA | apply pzD | apply pz1 | apply pzs | assumption) | exact HB.out)⟩
 ·rw [if_neg c4] at H
  have c4b0 : (t200 == 0) = false := beq_eq_false_iff_ne.mpr c4
  have c4b1 : (t200 != 0) = true := bne_iff_ne.mpr c4
  simp only [Option.some.injEq, Prod.mk.injEq] at H
  obtain ⟨rfl, rfl, rfl⟩ := H
  go_enter Try.func72, Try.ntmps72
  try go_wp2_with (first | ((with_reducible refine gate_dst (N := 5) rfl ?_); refine box_event ?hg (N := 5) ?hd (cs := #[.int .i64 0, .int .i64 0]) (t := 29) ?hr ?_; (case hd => rfl); (case hg => rfl); (case hr => first | (go_simp; done) | (go_simp; rfl)); intro gb199 hg w16 hbox hb; have BK199 := zM (hbox); have GW199 := zM ((by rw [hg]; exact (below_size (HB.out)) : w.heap.size ≤ gb199)); have GE199 := GW199; replace HB := zM (below_step (HB.out) hb); clear hb hbox hg) | ((with_reducible refine gate_callee (f := 70) rfl ?_); refine goesL_ (some 9) rfl rfl Try.func70 (by kernel_rfl) rfl #[.slice A0 l0.length c0, .slice A1 l1.length c1] rfl (by (try simp only [zT, zC, zN]); first | done | rfl | (simp only [zR, zL]; rfl)) ?_; (with_reducible refine (natural_check.calls _ _ l0 _ _ l1 t200 t201 _ ?side1 ?side2 ?side3 ?side4 A3.out).mono ?_); (case side1 => repeat (first | exact (Kd.C_below HR0.out HB.out) | (with_reducible refine Kd.C_alloc ?_ _) | (with_reducible refine Kd.C_drewN ?_ _) | (with_reducible refine Kd.C_drew ?_))); (case side2 => exact HC0.out); (case side3 => repeat (first | exact (Kd.C_below HR1.out HB.out) | (with_reducible refine Kd.C_alloc ?_ _) | (with_reducible refine Kd.C_drewN ?_ _) | (with_reducible refine Kd.C_drew ?_))); (case side4 => exact HC1.out); rintro e w17 ⟨rfl, hb⟩; refine ⟨_, rfl, ?_⟩; replace BK199 := pzb BK199 hb; replace HB := zM (below_step (by repeat (first | (with_reducible first | exact HB.out | apply pzA | apply pzD | apply pz1 | apply pzs | assumption) | exact HB.out)) hb); (try clear hb); (try clear hb2); (try clear hk); (try clear hi)) | ((with_reducible refine gate_dst (N := 6) rfl ?_); refine box_event ?hg (N := 6) ?hd (cs := #[.int .i64 0, .int .i64 0]) (t := 29) ?hr ?_; (case hd => rfl); (case hg => rfl); (case hr => first | (go_simp; done) | (go_simp; rfl)); intro gb202 hg w18 hbox hb; have BK202 := zM (hbox); have GW202 := zM ((by rw [hg]; exact (below_size (by repeat (first | (with_reducible first | exact HB.out | apply pzA | apply pzD | apply pz1 | apply pzs | assumption) | exact HB.out))) : w.heap.size ≤ gb202)); have GE202 := GW202; have NB199_202 := pzf BK199 hg; have NB202_199 := pzg BK199 hg; replace BK199 := pzb BK199 hb; replace HB := zM (below_step (by repeat (first | (with_reducible first | exact HB.out | apply pzA | apply pzD | apply pz1 | apply pzs | assumption) | exact HB.out)) hb); clear hb hbox hg; have hnb19 := NB202_199.out; have hnc19 := NB199_202.out; have hcz20_0 := pzc (v := .int .i64 0) BK202 0 rfl; have hcz20_1 := pzc (v := .int .i64 0) BK202 1 rfl; have hfz20_0 := zF BK202.out 0; have hfz20_1 := zF BK202.out 1))
  have n0_ : Aside0 (((w18.setCell ⟨gb202, 0, none⟩ (.int .i64 t200)).setCell ⟨gb202, 1, none⟩ (.int .i64 t201)).heap[gb199]? = some (.cells #[.int .i64 0, .int .i64 0] 29 (0, 0))) := ⟨by (with_reducible repeat (first | apply pzN | apply pzd | apply pza)); refine blk_far ?_ NB199_202.out _; (with_reducible repeat (first | apply pzN | apply pzd | apply pza)); refine blk_far ?_ NB199_202.out _; (with_reducible repeat (first | apply pzN | apply pzd | apply pza)); exact BK199.out⟩
  have n1_ : Aside0 (((w18.setCell ⟨gb202, 0, none⟩ (.int .i64 t200)).setCell ⟨gb202, 1, none⟩ (.int .i64 t201)).heap[gb202]? = some (.cells #[.int .i64 t200, .int .i64 t201] 29 (0, 0))) := ⟨by (with_reducible repeat (first | apply pzN | apply pzd | apply pza)); refine blk_put (cs := #[.int .i64 t200, .int .i64 0]) ?_ 1 _ rfl; (with_reducible repeat (first | apply pzN | apply pzd | apply pza)); refine blk_put (cs := #[.int .i64 0, .int .i64 0]) ?_ 0 _ rfl; (with_reducible repeat (first | apply pzN | apply pzd | apply pza)); exact BK202.out⟩
  have n2_ : Aside0 (Below w.heap.size w ((w18.setCell ⟨gb202, 0, none⟩ (.int .i64 t200)).setCell ⟨gb202, 1, none⟩ (.int .i64 t201))) := ⟨by repeat (first | (with_reducible first | exact HB.out | apply pzA | apply pzD | apply pz1 | apply pzs | assumption) | exact HB.out)⟩
  (try clear BK199)
  (try clear BK202)
  (try clear HB)
  generalize ((w18.setCell ⟨gb202, 0, none⟩ (.int .i64 t200)).setCell ⟨gb202, 1, none⟩ (.int .i64 t201)) = w21 at n0_ n1_ n2_ ⊢
  have BK199 := n0_
  have BK202 := n1_
  have HB := n2_
  clear n0_ n1_ n2_
  replace BK199 := zM (blk_drew BK199.out)
  replace BK202 := zM (blk_drew BK202.out)
  replace HB := zM (below_drew1 HB.out)
  refine start_ (n := 3) (S := fun w' => w'.cell? ⟨gb202, 0, none⟩ = some (.int .i64 t200) ∧ w'.cell? ⟨gb202, 1, none⟩ = some (.int .i64 t201)) (ds := []) #[false, false, false] (by kernel_rfl) rfl rfl ⟨(blk_cell BK202.out 0).trans rfl, (blk_cell BK202.out 1).trans rfl⟩ (fun hHeld => ?_)
  generalize w21.drew = w22 at BK199 HB hHeld ⊢
  refine pure_ (i := 1) (N := some 4) (v := ?_) (a' := ?_) #[false, true, false] rfl rfl (by kernel_rfl) (fun _ _ _ h => h) (Or.inl ⟨by rfl, ?_⟩) ?_ ?_
  rotate_left
  ·intro w'
   go_simp
   with_reducible rfl
  rotate_left
  ·simp only [Act.put, zS, z0, z1, i64_w, i32_w]
   rfl
  refine take_ (i := 0) (N := some 13) (v := ?_) (a' := ?_) #[true, true, false] rfl rfl (by kernel_rfl) (fun _ _ _ h => h) (Or.inl ⟨by rfl, ?_⟩) hHeld ?_ ?_
  rotate_left
  ·rintro w' ⟨s0, s1⟩
   go_simp
   with_reducible rfl
  rotate_left
  ·simp only [Act.put, zS, z0, z1, i64_w, i32_w]
   rfl
  refine one_ (i := 2) (N := none) #[true, true, true] rfl rfl (by kernel_rfl) (by decide) (fun K hK => ?_)
  have hs23 : w22.cell? ⟨gb199, 0, none⟩ = some (.int .i64 0) := (blk_cell BK199.out 0).trans rfl
  have hfs23 := zF BK199.out 0
  have hns23_1 := NB202_199.out
  have hms23_1 := NB199_202.out
  have hs24 : w22.cell? ⟨gb199, 1, none⟩ = some (.int .i64 0) := (blk_cell BK199.out 1).trans rfl
  have hfs24 := zF BK199.out 1
  have hns24_1 := NB202_199.out
  have hms24_1 := NB199_202.out
  refine skip_ (w1 := ?_) (by rfl) rfl ?_ ?_
  rotate_left
  ·go_simp
   rfl
  refine hK.out _ _ ⟨((cell_far (p := ⟨gb199, _, none⟩) NB202_199.out _).trans (((cell_far (p := ⟨gb199, _, none⟩) NB202_199.out _).trans (hHeld.1)))), ((cell_far (p := ⟨gb199, _, none⟩) NB202_199.out _).trans (((cell_far (p := ⟨gb199, _, none⟩) NB202_199.out _).trans (hHeld.2))))⟩ (fun hHeld => ?_)
  clear hK K
  refine done_ (by kernel_rfl) ?_
  try go_wp2
  refine bodyPost_ret (results_tc rfl _ _ gb199 29 #[.int .i64 t200, .int .i64 t201] (0, 0) _ rfl (by (with_reducible repeat (first | apply pzN | apply pzd | apply pza)); refine blk_put (cs := #[.int .i64 t200, .int .i64 0]) ?_ 1 _ rfl; (with_reducible repeat (first | apply pzN | apply pzd | apply pza)); refine blk_put (cs := #[.int .i64 0, .int .i64 0]) ?_ 0 _ rfl; (with_reducible repeat (first | apply pzN | apply pzd | apply pza)); exact BK199.out) Try.underlying29 rfl (by kernel_rfl)) rfl ?_
  exact ⟨_, by first | rfl | (simp [errW_none, errW_some] <;> rfl) | (simp [*, errW_none, errW_some] <;> rfl), Kd.V_nil _ _ _ _ _, by repeat (first | (with_reducible first | exact HB.out | apply pzA | apply pzD | apply pz1 | apply pzs | assumption) | exact HB.out)⟩

/-! ### integer_signed: function 73 -/
def integer_signed.f (a0 : Bool) (l1 : List Int) : Option (Bool × List Int × Int × Int) := if (l1.length : Int) > 128 then ((integer_at.f 14 (-1)).bind fun bt213 => (some (false, ([] : List Int), bt213.1, bt213.2))) else (if a0 = true then (some (decide (0 < l1.length), l1, 0, 0)) else (some (false, l1, 0, 0)))
set_option maxHeartbeats 60000000 in
set_option maxRecDepth 100000 in
theorem integer_signed.calls (a0 : Bool) (P1_ : Nat → Prop) (A1 : Option Addr) (c1 : Nat) (l1 : List Int) (r1 : Bool) (r2 : List Int) (r3 : Int) (r4 : Int) (w : World) (hs1 : Kd.V (Kd.int .u32) 76 w w.heap.size (fun k_ => P1_ k_) (.slice A1 l1.length c1) l1) (h : integer_signed.f a0 l1 = some (r1, r2, r3, r4)) :
  Calls Try.prog 73 #[.bool a0, .slice A1 l1.length c1] w fun e w' => ∃ v1_ : Value, e = .returned (.tuple #[.agg #[.bool r1, v1_], .agg #[.int .i64 r3, .int .i64 r4]]) ∧ Kd.V (Kd.int .u32) 76 w' w.heap.size (fun k_ => (P1_ k_ ∨ w.heap.size ≤ k_)) v1_ r2 ∧ Below w.heap.size w w' := by
 have hu24 := Try.underlying24
 have hu29 := Try.underlying29
 have HO1 := zM (show Kd.V (Kd.int .u32) 76 w w.heap.size (fun k_ => (P1_ k_ ∨ w.heap.size ≤ k_)) (.slice A1 l1.length c1) l1 from Kd.V_mono hs1 (fun k_ hk => .inl hk))
 have HB := zM (Below.refl w.heap.size w)
 have H : (if (l1.length : Int) > 128 then ((integer_at.f 14 (-1)).bind fun bt213 => (some (false, ([] : List Int), bt213.1, bt213.2))) else (if a0 = true then (some (decide (0 < l1.length), l1, 0, 0)) else (some (false, l1, 0, 0)))) = some (r1, r2, r3, r4) := h
 clear h
 by_cases c3 : (l1.length : Int) > 128
 ·rw [if_pos c3] at H
  have c3b0 : decide (128 < (l1.length : Int)) = true := zE c3
  have c3b1 : decide (128 < l1.length) = true := zE (by omega)
  clear c3
  replace H := zB H
  obtain ⟨⟨t213, t214⟩, A40, H⟩ := H
  replace H : (some (false, ([] : List Int), t213, t214)) = some (r1, r2, r3, r4) := H
  have A4 := zM A40
  clear A40
  simp only [Option.some.injEq, Prod.mk.injEq] at H
  obtain ⟨rfl, rfl, rfl, rfl⟩ := H
  go_enter Try.func73, Try.ntmps73
  go_wp2_with (first | ((with_reducible refine gate_dst (N := 4) rfl ?_); (try (refine gate_guard (by rfl) ?_; dsimp only)); refine box_event ?hg (N := 4) ?hd (cs := #[.bool false, .slice none 0 0]) (t := 24) ?hr ?_; (case hd => rfl); (case hg => rfl); (case hr => first | (go_simp; done) | (go_simp; rfl)); intro gb211 hg w5 hbox hb; have BK211 := zM (hbox); have GW211 := zM ((by rw [hg]; exact (below_size (HB.out)) : w.heap.size ≤ gb211)); have GE211 := GW211; replace HO1 := zM (Kd.V_below (Kd.V_elderB HO1.out gb211 (Nat.le_of_eq hg.symm)) hb); replace HB := zM (below_step (HB.out) hb); clear hb hbox hg) | ((with_reducible refine gate_dst (N := 5) rfl ?_); (try (refine gate_guard (by rfl) ?_; dsimp only)); refine box_event ?hg (N := 5) ?hd (cs := #[.int .i64 0, .int .i64 0]) (t := 29) ?hr ?_; (case hd => rfl); (case hg => rfl); (case hr => first | (go_simp; done) | (go_simp; rfl)); intro gb212 hg w6 hbox hb; have BK212 := zM (hbox); have GW212 := zM ((by rw [hg]; exact (below_size (by repeat (first | (with_reducible first | exact HB.out | apply pzA | apply pzD | apply pz1 | apply pzs | assumption) | exact HB.out))) : w.heap.size ≤ gb212)); have GE212 := GW212; have NB211_212 := pzf BK211 hg; have NB212_211 := pzg BK211 hg; replace HO1 := zM (Kd.V_below (Kd.V_elderB HO1.out gb212 (Nat.le_of_eq hg.symm)) hb); replace BK211 := pzb BK211 hb; replace HB := zM (below_step (by repeat (first | (with_reducible first | exact HB.out | apply pzA | apply pzD | apply pz1 | apply pzs | assumption) | exact HB.out)) hb); clear hb hbox hg) | ((with_reducible refine gate_callee (f := 69) rfl ?_); refine goesL_ (some 10) rfl rfl Try.func69 (by kernel_rfl) rfl #[.int .i64 14, .int .i64 (-1)] rfl (by (try simp only [zT, zC, zN]); first | done | rfl | (simp only [zR, zL]; rfl)) ?_; (with_reducible refine (integer_at.calls 14 (-1) t213 t214 _ A4.out).mono ?_); rintro e w7 ⟨rfl, hb⟩; refine ⟨_, rfl, ?_⟩; replace HO1 := zM (Kd.V_below HO1.out hb); replace BK211 := pzb BK211 hb; replace BK212 := pzb BK212 hb; replace HB := zM (below_step (by repeat (first | (with_reducible first | exact HB.out | apply pzA | apply pzD | apply pz1 | apply pzs | assumption) | exact HB.out)) hb); (try clear hb); (try clear hb2); (try clear hk); (try clear hi); have hnb8 := NB211_212.out; have hnc8 := NB212_211.out; have hcz9_0 := pzc (v := .bool false) BK211 0 rfl; have hcz9_1 := pzc (v := .slice none 0 0) BK211 1 rfl; have hfz9_0 := zF BK211.out 0; have hfz9_1 := zF BK211.out 1; have hcz10_0 := pzc (v := .int .i64 0) BK212 0 rfl; have hcz10_1 := pzc (v := .int .i64 0) BK212 1 rfl; have hfz10_0 := zF BK212.out 0; have hfz10_1 := zF BK212.out 1))
  refine bodyPost_ret (results_cc rfl _ _ gb211 gb212 24 29 #[.bool false, .slice none 0 0] #[.int .i64 t213, .int .i64 t214] (0, 0) (0, 0) _ _ rfl (by (with_reducible repeat (first | apply pzN | apply pzd | apply pza)); refine blk_far ?_ NB211_212.out _; (with_reducible repeat (first | apply pzN | apply pzd | apply pza)); refine blk_far ?_ NB211_212.out _; (with_reducible repeat (first | apply pzN | apply pzd | apply pza)); refine blk_put (cs := #[.bool false, .slice none 0 0]) ?_ 1 _ rfl; (with_reducible repeat (first | apply pzN | apply pzd | apply pza)); refine blk_put (cs := #[.bool false, .slice none 0 0]) ?_ 0 _ rfl; (with_reducible repeat (first | apply pzN | apply pzd | apply pza)); exact BK211.out) Try.underlying24 rfl (by kernel_rfl) rfl (by (with_reducible repeat (first | apply pzN | apply pzd | apply pza)); refine blk_put (cs := #[.int .i64 t213, .int .i64 0]) ?_ 1 _ rfl; (with_reducible repeat (first | apply pzN | apply pzd | apply pza)); refine blk_put (cs := #[.int .i64 0, .int .i64 0]) ?_ 0 _ rfl; (with_reducible repeat (first | apply pzN | apply pzd | apply pza)); refine blk_far ?_ NB212_211.out _; (with_reducible repeat (first | apply pzN | apply pzd | apply pza)); refine blk_far ?_ NB212_211.out _; (with_reducible repeat (first | apply pzN | apply pzd | apply pza)); exact BK212.out) Try.underlying29 rfl (by kernel_rfl)) rfl ?_
  exact ⟨_, by first | rfl | (simp [errW_none, errW_some] <;> rfl) | (simp [*, errW_none, errW_some] <;> rfl), Kd.V_nil _ _ _ _ _, by repeat (first | (with_reducible first | exact HB.out | apply pzA | apply pzD | apply pz1 | apply pzs | assumption) | exact HB.out)⟩
 ·rw [if_neg c3] at H
  have c3b0 : decide (128 < (l1.length : Int)) = false := decide_eq_false c3
  have c3b1 : decide (128 < l1.length) = false := decide_eq_false (by omega)
  clear c3
  by_cases c11 : a0 = true
  ·subst c11
   have H1 : (some (decide (0 < l1.length), l1, 0, 0)) = some (r1, r2, r3, r4) := by rw [if_pos rfl] at H; exact H
   clear H
   have H := H1
   clear H1
   simp only [Option.some.injEq, Prod.mk.injEq] at H
   obtain ⟨rfl, rfl, rfl, rfl⟩ := H
   go_enter Try.func73, Try.ntmps73
   go_wp2_with (first | ((with_reducible refine gate_dst (N := 4) rfl ?_); (try (refine gate_guard (by rfl) ?_; dsimp only)); refine box_event ?hg (N := 4) ?hd (cs := #[.bool false, .slice none 0 0]) (t := 24) ?hr ?_; (case hd => rfl); (case hg => rfl); (case hr => first | (go_simp; done) | (go_simp; rfl)); intro gb211 hg w12 hbox hb; have BK211 := zM (hbox); have GW211 := zM ((by rw [hg]; exact (below_size (HB.out)) : w.heap.size ≤ gb211)); have GE211 := GW211; replace HO1 := zM (Kd.V_below (Kd.V_elderB HO1.out gb211 (Nat.le_of_eq hg.symm)) hb); replace HB := zM (below_step (HB.out) hb); clear hb hbox hg) | ((with_reducible refine gate_dst (N := 5) rfl ?_); (try (refine gate_guard (by rfl) ?_; dsimp only)); refine box_event ?hg (N := 5) ?hd (cs := #[.int .i64 0, .int .i64 0]) (t := 29) ?hr ?_; (case hd => rfl); (case hg => rfl); (case hr => first | (go_simp; done) | (go_simp; rfl)); intro gb212 hg w13 hbox hb; have BK212 := zM (hbox); have GW212 := zM ((by rw [hg]; exact (below_size (by repeat (first | (with_reducible first | exact HB.out | apply pzA | apply pzD | apply pz1 | apply pzs | assumption) | exact HB.out))) : w.heap.size ≤ gb212)); have GE212 := GW212; have NB211_212 := pzf BK211 hg; have NB212_211 := pzg BK211 hg; replace HO1 := zM (Kd.V_below (Kd.V_elderB HO1.out gb212 (Nat.le_of_eq hg.symm)) hb); replace BK211 := pzb BK211 hb; replace HB := zM (below_step (by repeat (first | (with_reducible first | exact HB.out | apply pzA | apply pzD | apply pz1 | apply pzs | assumption) | exact HB.out)) hb); clear hb hbox hg; have hnb14 := NB211_212.out; have hnc14 := NB212_211.out; have hcz15_0 := pzc (v := .bool false) BK211 0 rfl; have hcz15_1 := pzc (v := .slice none 0 0) BK211 1 rfl; have hfz15_0 := zF BK211.out 0; have hfz15_1 := zF BK211.out 1; have hcz16_0 := pzc (v := .int .i64 0) BK212 0 rfl; have hcz16_1 := pzc (v := .int .i64 0) BK212 1 rfl; have hfz16_0 := zF BK212.out 0; have hfz16_1 := zF BK212.out 1))
   refine bodyPost_ret (results_cc rfl _ _ gb211 gb212 24 29 #[.bool (decide (0 < l1.length)), .slice A1 l1.length c1] #[.int .i64 0, .int .i64 0] (0, 0) (0, 0) _ _ rfl (by (with_reducible repeat (first | apply pzN | apply pzd | apply pza)); refine blk_far ?_ NB211_212.out _; (with_reducible repeat (first | apply pzN | apply pzd | apply pza)); refine blk_far ?_ NB211_212.out _; (with_reducible repeat (first | apply pzN | apply pzd | apply pza)); refine blk_put (cs := #[.bool (decide (0 < l1.length)), .slice none 0 0]) ?_ 1 _ rfl; (with_reducible repeat (first | apply pzN | apply pzd | apply pza)); refine blk_put (cs := #[.bool false, .slice none 0 0]) ?_ 0 _ rfl; (with_reducible repeat (first | apply pzN | apply pzd | apply pza)); exact BK211.out) Try.underlying24 rfl (by kernel_rfl) rfl (by (with_reducible repeat (first | apply pzN | apply pzd | apply pza)); refine blk_put (cs := #[.int .i64 0, .int .i64 0]) ?_ 1 _ rfl; (with_reducible repeat (first | apply pzN | apply pzd | apply pza)); refine blk_put (cs := #[.int .i64 0, .int .i64 0]) ?_ 0 _ rfl; (with_reducible repeat (first | apply pzN | apply pzd | apply pza)); refine blk_far ?_ NB212_211.out _; (with_reducible repeat (first | apply pzN | apply pzd | apply pza)); refine blk_far ?_ NB212_211.out _; (with_reducible repeat (first | apply pzN | apply pzd | apply pza)); exact BK212.out) Try.underlying29 rfl (by kernel_rfl)) rfl ?_
   exact ⟨_, by first | rfl | (simp [errW_none, errW_some] <;> rfl) | (simp [*, errW_none, errW_some] <;> rfl), by (with_reducible repeat (first | apply Kd.V_alloc | apply Kd.V_drewN | apply Kd.V_drew)); exact Kd.V_mono (Kd.V_far (p := ⟨gb212, 1, none⟩) (Kd.V_far (p := ⟨gb212, 0, none⟩) (Kd.V_far (p := ⟨gb211, 1, none⟩) (Kd.V_far (p := ⟨gb211, 0, none⟩) (Kd.V_mono (Kd.V_mono HO1.out (fun k_ hk => (⟨hk, hk.1.2⟩ : _ ∧ k_ ≠ gb211))) (fun k_ hk => (⟨hk, hk.1.2⟩ : _ ∧ k_ ≠ gb212))) (fun _ hk => hk.1.2) (.bool (decide (0 < l1.length)))) (fun _ hk => hk.1.2) (.slice A1 l1.length c1)) (fun _ hk => hk.2) (.int .i64 0)) (fun _ hk => hk.2) (.int .i64 0)) (fun _ hk => hk.1.1.1.1), by repeat (first | (with_reducible first | exact HB.out | apply pzA | apply pzD | apply pz1 | apply pzs | assumption) | exact HB.out)⟩
  ·replace c11 := Bool.eq_false_iff.mpr c11
   subst c11
   have H1 : (some (false, l1, 0, 0)) = some (r1, r2, r3, r4) := by rw [if_neg (show ¬ (false = true) by decide)] at H; exact H
   clear H
   have H := H1
   clear H1
   simp only [Option.some.injEq, Prod.mk.injEq] at H
   obtain ⟨rfl, rfl, rfl, rfl⟩ := H
   go_enter Try.func73, Try.ntmps73
   go_wp2_with (first | ((with_reducible refine gate_dst (N := 4) rfl ?_); (try (refine gate_guard (by rfl) ?_; dsimp only)); refine box_event ?hg (N := 4) ?hd (cs := #[.bool false, .slice none 0 0]) (t := 24) ?hr ?_; (case hd => rfl); (case hg => rfl); (case hr => first | (go_simp; done) | (go_simp; rfl)); intro gb211 hg w17 hbox hb; have BK211 := zM (hbox); have GW211 := zM ((by rw [hg]; exact (below_size (HB.out)) : w.heap.size ≤ gb211)); have GE211 := GW211; replace HO1 := zM (Kd.V_below (Kd.V_elderB HO1.out gb211 (Nat.le_of_eq hg.symm)) hb); replace HB := zM (below_step (HB.out) hb); clear hb hbox hg) | ((with_reducible refine gate_dst (N := 5) rfl ?_); (try (refine gate_guard (by rfl) ?_; dsimp only)); refine box_event ?hg (N := 5) ?hd (cs := #[.int .i64 0, .int .i64 0]) (t := 29) ?hr ?_; (case hd => rfl); (case hg => rfl); (case hr => first | (go_simp; done) | (go_simp; rfl)); intro gb212 hg w18 hbox hb; have BK212 := zM (hbox); have GW212 := zM ((by rw [hg]; exact (below_size (by repeat (first | (with_reducible first | exact HB.out | apply pzA | apply pzD | apply pz1 | apply pzs | assumption) | exact HB.out))) : w.heap.size ≤ gb212)); have GE212 := GW212; have NB211_212 := pzf BK211 hg; have NB212_211 := pzg BK211 hg; replace HO1 := zM (Kd.V_below (Kd.V_elderB HO1.out gb212 (Nat.le_of_eq hg.symm)) hb); replace BK211 := pzb BK211 hb; replace HB := zM (below_step (by repeat (first | (with_reducible first | exact HB.out | apply pzA | apply pzD | apply pz1 | apply pzs | assumption) | exact HB.out)) hb); clear hb hbox hg; have hnb19 := NB211_212.out; have hnc19 := NB212_211.out; have hcz20_0 := pzc (v := .bool false) BK211 0 rfl; have hcz20_1 := pzc (v := .slice none 0 0) BK211 1 rfl; have hfz20_0 := zF BK211.out 0; have hfz20_1 := zF BK211.out 1; have hcz21_0 := pzc (v := .int .i64 0) BK212 0 rfl; have hcz21_1 := pzc (v := .int .i64 0) BK212 1 rfl; have hfz21_0 := zF BK212.out 0; have hfz21_1 := zF BK212.out 1))
   refine bodyPost_ret (results_cc rfl _ _ gb211 gb212 24 29 #[.bool false, .slice A1 l1.length c1] #[.int .i64 0, .int .i64 0] (0, 0) (0, 0) _ _ rfl (by (with_reducible repeat (first | apply pzN | apply pzd | apply pza)); refine blk_far ?_ NB211_212.out _; (with_reducible repeat (first | apply pzN | apply pzd | apply pza)); refine blk_far ?_ NB211_212.out _; (with_reducible repeat (first | apply pzN | apply pzd | apply pza)); refine blk_put (cs := #[.bool false, .slice none 0 0]) ?_ 1 _ rfl; (with_reducible repeat (first | apply pzN | apply pzd | apply pza)); refine blk_put (cs := #[.bool false, .slice none 0 0]) ?_ 0 _ rfl; (with_reducible repeat (first | apply pzN | apply pzd | apply pza)); exact BK211.out) Try.underlying24 rfl (by kernel_rfl) rfl (by (with_reducible repeat (first | apply pzN | apply pzd | apply pza)); refine blk_put (cs := #[.int .i64 0, .int .i64 0]) ?_ 1 _ rfl; (with_reducible repeat (first | apply pzN | apply pzd | apply pza)); refine blk_put (cs := #[.int .i64 0, .int .i64 0]) ?_ 0 _ rfl; (with_reducible repeat (first | apply pzN | apply pzd | apply pza)); refine blk_far ?_ NB212_211.out _; (with_reducible repeat (first | apply pzN | apply pzd | apply pza)); refine blk_far ?_ NB212_211.out _; (with_reducible repeat (first | apply pzN | apply pzd | apply pza)); exact BK212.out) Try.underlying29 rfl (by kernel_rfl)) rfl ?_
   exact ⟨_, by first | rfl | (simp [errW_none, errW_some] <;> rfl) | (simp [*, errW_none, errW_some] <;> rfl), by (with_reducible repeat (first | apply Kd.V_alloc | apply Kd.V_drewN | apply Kd.V_drew)); exact Kd.V_mono (Kd.V_far (p := ⟨gb212, 1, none⟩) (Kd.V_far (p := ⟨gb212, 0, none⟩) (Kd.V_far (p := ⟨gb211, 1, none⟩) (Kd.V_far (p := ⟨gb211, 0, none⟩) (Kd.V_mono (Kd.V_mono HO1.out (fun k_ hk => (⟨hk, hk.1.2⟩ : _ ∧ k_ ≠ gb211))) (fun k_ hk => (⟨hk, hk.1.2⟩ : _ ∧ k_ ≠ gb212))) (fun _ hk => hk.1.2) (.bool false)) (fun _ hk => hk.1.2) (.slice A1 l1.length c1)) (fun _ hk => hk.2) (.int .i64 0)) (fun _ hk => hk.2) (.int .i64 0)) (fun _ hk => hk.1.1.1.1), by repeat (first | (with_reducible first | exact HB.out | apply pzA | apply pzD | apply pz1 | apply pzs | assumption) | exact HB.out)⟩

/-! ### slices_Clone_uint32_uint32: function 82 -/
def slices_Clone_uint32_uint32.f (l0 : List Int) : Option (List Int) := if l0.length < 35184372088832 then some l0 else none
set_option maxHeartbeats 1000000 in
set_option maxRecDepth 100000 in
theorem slices_Clone_uint32_uint32.calls (A0 : Option Addr) (c0 : Nat) (l0 : List Int) (r : List Int) (w : World) (hr0 : Kd.C (Kd.int .u32) w A0 l0.length l0) (hc0 : l0.length ≤ c0) (h : slices_Clone_uint32_uint32.f l0 = some r) :
    Calls Try.prog 82 #[.slice A0 l0.length c0] w fun e w' => ∃ v0_ : Value, e = .returned (v0_) ∧ Kd.R (Kd.int .u32) 76 w' w.heap.size (fun _ => True) v0_ r ∧ Below w.heap.size w w' := by
  unfold slices_Clone_uint32_uint32.f at h
  have HR := Aside0.mk hr0
  clear hr0
  by_cases hl : l0.length < 35184372088832
  · rw [if_pos hl] at h
    obtain rfl := Option.some.inj h
    have HL := Aside0.mk hl
    clear h hl hc0
    have q22 : ∀ (w : World) (a : Option Addr) (n c n' c' : Nat), (binOp .eql 22 (.slice a n c) (.slice none n' c')).run Try.prog w = .ok (.bool a.isNone) w := fun w a n c n' c' => Lib.run_eql_slice_nil w _ _ a n c n' c' Try.underlying22
    rcases A0 with _ | ad
    · have hz : l0 = [] := by
        rcases l0 with _ | ⟨x, l⟩
        · rfl
        · obtain ⟨ad, e, _⟩ := HR.out.2.2 (by simp)
          cases e
      subst hz
      go_enter Try.func82, Try.ntmps82
      go_wp2
      go_ret
      exact ⟨_, rfl, Kd.R_nil _ _ _ _ _, Below.refl _ _⟩
    · go_enter Try.func82, Try.ntmps82
      go_wp2_with (first
        | ((with_reducible refine gate_dst (N := 5) rfl ?_); refine Kd.R_lit (Kd.int .u32) (w0 := w) w.heap.size 76 ?hg (N := 5) ?hd (xs := ([] : List Int)) (inner := []) (ok := fun _ => True) (okp := fun _ => True) ?hr ?hp (fun _ hk => hk) trivial (Below.refl _ _) (Nat.le_refl _) (by simp) ?_; (case hd => rfl); (case hg => rfl); (case hr => first | (go_simp; done) | (go_simp; rfl)); (case hp => exact Reps.none _ _); intro v1 w1 ho1 hb1 hg_ hnew_; have HO := Aside0.mk ho1; have HB := Aside0.mk hb1; clear ho1 hb1 hg_ hnew_)
        | ((with_reducible refine gate_builtin (b := .append) (xs := #[.tmp 5, .tmp 6]) rfl ?_); at_builtin; refine Kd.R_append_rows (Kd.int .u32) (w0 := w) w.heap.size rfl (.tmp 5) (.tmp 6) 22 76 (.int .u32 0) 4 rfl Try.underlying22 info76 rfl (by decide) (by omega) v1 [] l0 _ _ _ (fun _ => True) (fun _ => False) rfl rfl ?aO ?aR (fun _ _ h => h) (fun _ h => h.elim) (fun _ _ => trivial) ?aB ?aS ?aL ?_; (case aO => exact HO.out); (case aR => exact Kd.C_below HR.out HB.out); (case aB => exact HB.out); (case aS => exact below_size HB.out); (case aL => have := HL.out; simp only [List.length_nil]; omega); intro v2 w2 ho hb hg hat; clear hg hat))
      go_ret
      exact ⟨_, rfl, by simpa using ho, hb⟩
  · rw [if_neg hl] at h
    cases h

/-! ### bits_Sub32: function 83 -/
def bits_Sub32.f (a0 : Int) (a1 : Int) (a2 : Int) : Option (Int × Int) := some (((a0 - a1) - a2) % 4294967296, (Go.bits .or .u32 (Go.bits .and .u32 (Go.bits .xor .u32 4294967295 a0) a1) (Go.bits .and .u32 (Go.bits .xor .u32 4294967295 (Go.bits .xor .u32 a0 a1)) (((a0 - a1) - a2) % 4294967296))) / 2147483648)
set_option maxHeartbeats 60000000 in
set_option maxRecDepth 100000 in
theorem bits_Sub32.calls (a0 : Int) (a1 : Int) (a2 : Int) (r1 : Int) (r2 : Int) (w : World) (h : bits_Sub32.f a0 a1 a2 = some (r1, r2)) :
  Calls Try.prog 83 #[.int .u32 a0, .int .u32 a1, .int .u32 a2] w fun e w' => e = .returned (.tuple #[.int .u32 r1, .int .u32 r2]) ∧ Drawn0 w w' := by
 have H : (some (((a0 - a1) - a2) % 4294967296, (Go.bits .or .u32 (Go.bits .and .u32 (Go.bits .xor .u32 4294967295 a0) a1) (Go.bits .and .u32 (Go.bits .xor .u32 4294967295 (Go.bits .xor .u32 a0 a1)) (((a0 - a1) - a2) % 4294967296))) / 2147483648)) = some (r1, r2) := h
 clear h
 simp only [Option.some.injEq, Prod.mk.injEq] at H
 obtain ⟨rfl, rfl⟩ := H
 go_enter Try.func83, Try.ntmps83
 go_wp2
 go_ret2
 exact ⟨by first | rfl | (simp; done) | (simp [*]; done), by repeat (first | exact Drawn0.refl _ | apply Drawn0.step)⟩

/-! ### natural_sub: function 80 -/
def natural_sub.l0 : Nat → List Int → List Int → Int → Int → Int → Option (List Int)
 | 0, _, _, _, _, _ => none
 | k + 1, x1, x5, x6, x12, x13 => if x13 < x12 then (if x13 < (x1.length : Int) then (if 0 ≤ x13 then (if x13 < (x5.length : Int) then ((bits_Sub32.f (rd x5 x13) (rd x1 x13) x6).bind fun bt220 => (natural_sub.l0 k x1 (x5.set (x13 : Int).toNat bt220.1) bt220.2 x12 (wrap64 (x13 + 1)))) else (none)) else (none)) else (if 0 ≤ x13 then (if x13 < (x5.length : Int) then ((bits_Sub32.f (rd x5 x13) 0 x6).bind fun bt224 => (natural_sub.l0 k x1 (x5.set (x13 : Int).toNat bt224.1) bt224.2 x12 (wrap64 (x13 + 1)))) else (none)) else (none))) else ((natural_trim.f k x5).bind fun t227 => (some t227))
def natural_sub.f (k : Nat) (l0 : List Int) (l1 : List Int) : Option (List Int) := (slices_Clone_uint32_uint32.f l0).bind fun t215 => (natural_sub.l0 k l1 t215 0 (t215.length : Int) 0)
theorem natural_sub.mono_l : ∀ k, (∀ y0 y1 y2 y3 y4, LeO (natural_sub.l0 k y0 y1 y2 y3 y4) (natural_sub.l0 (k + 1) y0 y1 y2 y3 y4))
 | 0 => fun _ _ _ _ _ r h => by simp [natural_sub.l0] at h
 | k + 1 => by
  have ih0 := natural_sub.mono_l k
  ·intro y0 y1 y2 y3 y4
   unfold natural_sub.l0
   repeat' first
   | (with_reducible exact ih0 _ _ _ _ _)
   | (with_reducible exact natural_trim.mono _ _)
   | (with_reducible exact LeO.refl _)
   | (with_reducible exact LeO.none _)
   | (with_reducible refine LeO.ite ?_ ?_)
   | (with_reducible refine LeO.bind ?_ (fun _ => ?_))
   | exact ih0 _ _ _ _ _
   | exact natural_trim.mono _ _
   | exact LeO.none _
   | refine LeO.ite ?_ ?_
   | refine LeO.bind ?_ (fun _ => ?_)
theorem natural_sub.mono : ∀ a0 a1 k, LeO (natural_sub.f k a0 a1) (natural_sub.f (k + 1) a0 a1) := by
 intro a0 a1 k
 have ih0 := natural_sub.mono_l k
 unfold natural_sub.f
 repeat' first
   | (with_reducible exact ih0 _ _ _ _ _)
   | (with_reducible exact natural_trim.mono _ _)
   | (with_reducible exact LeO.refl _)
   | (with_reducible exact LeO.none _)
   | (with_reducible refine LeO.ite ?_ ?_)
   | (with_reducible refine LeO.bind ?_ (fun _ => ?_))
   | exact ih0 _ _ _ _ _
   | exact natural_trim.mono _ _
   | exact LeO.none _
   | refine LeO.ite ?_ ?_
   | refine LeO.bind ?_ (fun _ => ?_)
set_option maxHeartbeats 60000000 in
set_option maxRecDepth 100000 in
theorem natural_sub.calls (k : Nat) (A0 : Option Addr) (c0 : Nat) (l0 : List Int) (A1 : Option Addr) (c1 : Nat) (l1 : List Int) (r : List Int) (w : World) (hr0 : Kd.C (Kd.int .u32) w A0 l0.length l0) (hc0 : l0.length ≤ c0) (hr1 : Kd.C (Kd.int .u32) w A1 l1.length l1) (hc1 : l1.length ≤ c1) (h : natural_sub.f k l0 l1 = some r) :
  Calls Try.prog 80 #[.slice A0 l0.length c0, .slice A1 l1.length c1] w fun e w' => ∃ v0_ : Value, e = .returned (v0_) ∧ Kd.V (Kd.int .u32) 76 w' w.heap.size (fun k_ => (w.heap.size ≤ k_)) v0_ r ∧ Below w.heap.size w w' := by
 have HR0 := zM hr0
 have HC0 := zM hc0
 clear hr0 hc0
 have HR1 := zM hr1
 have HC1 := zM hc1
 clear hr1 hc1
 have HB := zM (Below.refl w.heap.size w)
 have H : ((slices_Clone_uint32_uint32.f l0).bind fun t215 => (natural_sub.l0 k l1 t215 0 (t215.length : Int) 0)) = some r := h
 clear h
 replace H := zB H
 obtain ⟨t215, A30, H⟩ := H
 replace H : (natural_sub.l0 k l1 t215 0 (t215.length : Int) 0) = some r := H
 have A3 := zM A30
 clear A30
 have H' := zM H
 clear H
 go_enter Try.func80, Try.ntmps80
 go_wp2_with (first | ((with_reducible refine gate_callee (f := 82) rfl ?_); refine goesL_ (some 10) rfl rfl Try.func82 (by kernel_rfl) rfl #[.slice A0 l0.length c0] rfl (by (try simp only [zT, zC, zN]); first | done | rfl | (simp only [zR, zL]; rfl)) ?_; (with_reducible refine (slices_Clone_uint32_uint32.calls _ _ l0 t215 _ ?side1 ?side2 A3.out).mono ?_); (case side1 => repeat (first | exact HR0.out | (with_reducible refine Kd.C_alloc ?_ _) | (with_reducible refine Kd.C_drewN ?_ _) | (with_reducible refine Kd.C_drew ?_))); (case side2 => exact HC0.out); rintro e w4 ⟨v216, rfl, ho0, hb⟩; refine ⟨_, rfl, ?_⟩; have n0_ := zM (Kd.R_lower (Kd.R_newM (M := fun k_ => (w.heap.size ≤ k_)) ho0 (below_size (by repeat (first | (with_reducible first | exact HB.out | apply below_alloc | apply pw_below_drewN | apply below_drew1) | exact HB.out))) (fun k_ h_ => h_)) (below_size (by repeat (first | (with_reducible first | exact HB.out | apply below_alloc | apply pw_below_drewN | apply below_drew1) | exact HB.out)))); have n1_ := zM (below_step (by repeat (first | (with_reducible first | exact HB.out | apply below_alloc | apply pw_below_drewN | apply below_drew1) | exact HB.out)) hb); clear HB; have HO217 := n0_; have HB := n1_; clear n0_ n1_; (try clear hb); (try clear hb2); (try clear hk); (try clear hi); (try clear ho0); obtain ⟨Ao5, co5, eo5⟩ := Kd.R_slice HO217.out; subst eo5))
 go_loopg [6, 13] k (fun kq v6 v13 w' => ∃ (x5_1 : List Int) (x6_1 : Int) (x13_1 : Int), v6 = .int .u32 x6_1 ∧ v13 = .int .i64 x13_1 ∧ Aside0 (natural_sub.l0 kq l1 x5_1 x6_1 (t215.length : Int) x13_1 = some r) ∧ Aside0 (kq ≤ k) ∧ Aside0 (Kd.R (Kd.int .u32) 76 w' w.heap.size (fun k_ => (w.heap.size ≤ k_)) (.slice Ao5 t215.length co5) x5_1) ∧ Aside0 (Below w.heap.size w w'))
 case atStart => exact ⟨(t215), (0), (0), (by first | rfl | (simp; done) | (simp [*]; done)), (by first | rfl | (simp; done) | (simp [*]; done)), H', ⟨Nat.le_refl _⟩, ⟨by (with_reducible repeat (first | apply Kd.R_alloc | apply Kd.R_drewN | apply Kd.R_drew)); exact Kd.R_mono HO217.out (fun _ hk => hk.1)⟩, ⟨by repeat (first | (with_reducible first | exact HB.out | apply below_alloc | apply pw_below_drewN | apply below_drew1) | exact HB.out)⟩⟩
 case round =>
  clear H'
  try clear c1
  try clear p2
  obtain ⟨x5_1, x6_1, x13_1, rfl, rfl, HA, HK1, HO_5, HB⟩ := hrel
  have hl5_1 := (Kd.R_reads' HO_5.out).1
  rw [hl5_1] at HO_5
  (try simp only [hl5_1])
  cases gk with
  | zero => exact absurd HA.out (by simp [natural_sub.l0])
  | succ k1 =>
   have H := HA.out
   clear HA
   simp only [natural_sub.l0] at H
   by_cases c6 : x13_1 < (t215.length : Int)
   ·rw [if_pos c6] at H
    have c6b0 : decide (x13_1 < (t215.length : Int)) = true := zE c6
    (try (have c6b0l0 := c6b0; rw [hl5_1] at c6b0l0))
    clear c6
    by_cases c7 : x13_1 < (l1.length : Int)
    ·rw [if_pos c7] at H
     have c7b0 : decide (x13_1 < (l1.length : Int)) = true := zE c7
     (try (have c7b0l0 := c7b0; rw [hl5_1] at c7b0l0))
     clear c7
     by_cases c8 : 0 ≤ x13_1
     ·rw [if_pos c8] at H
      have c8b0 : decide (0 ≤ x13_1) = true := zE c8
      clear c8
      by_cases c9 : x13_1 < (x5_1.length : Int)
      ·rw [if_pos c9] at H
       have c9b0 : decide (x13_1 < (x5_1.length : Int)) = true := zE c9
       (try (have c9b0l0 := c9b0; rw [hl5_1] at c9b0l0))
       clear c9
       replace H := zB H
       obtain ⟨⟨t220, t221⟩, A100, H⟩ := H
       replace H : (natural_sub.l0 k1 l1 (x5_1.set (x13_1 : Int).toNat t220) t221 (t215.length : Int) (wrap64 (x13_1 + 1))) = some r := H
       have A10 := zM A100
       clear A100
       obtain ⟨y222, hy222⟩ : ∃ y_ : List Int, y_ = (x5_1.set (x13_1 : Int).toNat t220) := ⟨_, rfl⟩
       replace H : (natural_sub.l0 k1 l1 y222 t221 (t215.length : Int) (wrap64 (x13_1 + 1))) = some r := by first | (rw [hy222]; with_reducible exact H) | (have H2_ := (Option.bind_some _ _).symm.trans H; rw [hy222]; with_reducible exact H2_) | (have H2_ := (Option.bind_some _ _).symm.trans H; with_reducible exact H2_) | with_reducible exact H | (rw [hy222]; exact H) | exact H
       have Ny222 := zM hy222
       clear hy222
       have H' := zM H
       clear H
       have p218 : 0 ≤ (x13_1 : Int) := zD (by first | (with_reducible assumption) | assumption)
       have q218 : x13_1 < (l1.length : Int) := zD (by first | (with_reducible assumption) | assumption)
       obtain ⟨ad218, e218, hx218_0⟩ := Kd.at_int HR1.out x13_1 p218 q218
       cases e218
       replace hx218_0 := (HB.out.cell (World.block_lt_of_cell? w _ hx218_0)).trans hx218_0
       replace p218 := eq_true p218
       replace q218 := eq_true q218
       have p219 : 0 ≤ (x13_1 : Int) := zD (by first | (with_reducible assumption) | assumption)
       have q219 : x13_1 < (x5_1.length : Int) := zD (by first | (with_reducible assumption) | assumption)
       obtain ⟨ad219, e219, hx219_0⟩ := Kd.at_int (Kd.R_reads' HO_5.out).2.2 x13_1 p219 q219
       cases e219
       replace p219 := eq_true p219
       replace q219 := eq_true q219
       go_wp2_with (first | ((with_reducible refine gate_callee (f := 83) rfl ?_); refine goesL_ (some 33) rfl rfl Try.func83 (by kernel_rfl) rfl #[.int .u32 (rd x5_1 x13_1), .int .u32 (rd l1 x13_1), .int .u32 x6_1] rfl (by (try simp only [zT, zC, zN]); first | done | rfl | (simp only [zR, zL]; rfl)) ?_; (with_reducible refine (bits_Sub32.calls (rd x5_1 x13_1) (rd l1 x13_1) x6_1 t220 t221 _ A10.out).mono ?_); rintro e w' ⟨rfl, ⟨nd, rfl⟩⟩; refine ⟨_, rfl, ?_⟩; (try (rw [drewN_self wr]; generalize hq_ : World.drewN wr _ = wr; have n0_ : Aside0 (Kd.R (Kd.int .u32) 76 wr w.heap.size (fun k_ => (w.heap.size ≤ k_)) (.slice (some ad219) x5_1.length co5) x5_1) := ⟨by rw [← hq_]; exact (by (with_reducible repeat (first | apply Kd.R_alloc | apply Kd.R_drewN | apply Kd.R_drew)); exact HO_5.out)⟩; have n1_ : Aside0 (Below w.heap.size w wr) := ⟨by rw [← hq_]; exact (by repeat (first | (with_reducible first | exact HB.out | apply below_alloc | apply pw_below_drewN | apply below_drew1) | exact HB.out))⟩; clear HO_5 HB hq_; have HO_5 := n0_; have HB := n1_; clear n0_ n1_)); have p11 : 0 ≤ (x13_1 : Int) := zD (by first | (with_reducible assumption) | assumption); have q11 : (x13_1 : Int) < ((x5_1.length : Int) : Int) := zD (by first | (with_reducible assumption) | assumption); obtain ⟨go11, co11, eo11, gb11, gl11, cl11, HG11⟩ := Kd.R_form HO_5.out (by omega); (first | cases eo11 | (injection eo11 with ea_ en_ ec_; (first | subst ea_ | (injection ea_ with ea_; subst ea_)); subst ec_; clear en_)); have GB11 := zM gb11; have GG11 := zM HG11; clear gb11 gl11 HG11; (first | simp only [add_plain] at hx219_0 | skip); obtain ⟨hx11_0, hf11_0⟩ := Kd.R_celln 0 HO_5.out (x13_1 : Int) p11 q11; replace p11 := eq_true p11; replace q11 := eq_true q11; obtain ⟨hy12_, hz12_⟩ := Kd.R_celln 0 HO_5.out (x13_1 : Int) (zD (by first | (with_reducible assumption) | assumption)) (zD (by first | (with_reducible assumption) | assumption)); have HP12 := Kd.R_putg HO_5.out (x13_1 : Int) t220) | ((with_reducible refine gate_store (t := 76) (p := 36) rfl ?_); refine store_event (t := 76) (p := 36) (v := ?vo_w13) (w1 := (wr.setCell ⟨go11, (x13_1 : Int).toNat, none⟩ (.int .u32 t220))) ?hg ?ho ?hn ?hr ?_; (case ho => rfl); (case hg => rfl); (case hn => rfl); (case hr => first | (go_simp; done) | (go_simp; rfl)); intro w13 hw; have hg : wr.grownBy w13 (some go11) := (by rw [hw]; exact HP12.2); have hp_ : Kd.R (Kd.int .u32) 76 w13 w.heap.size (fun k_ => (w.heap.size ≤ k_)) (.slice (some ⟨go11, 0, none⟩) x5_1.length co5) y222 := (by rw [hw, Ny222.out]; exact HP12.1); clear HP12; have n0_ := zM (hp_); have n1_ := zM ((by rw [hw]; exact below_set (HB.out) GB11.out : Below w.heap.size w w13)); clear HO_5; clear HB; have HO_5 := n0_; have HB := n1_; clear n0_ n1_; clear hg hw hp_))
       (try simp only [← hl5_1])
       go_roundg k1
       case measure => have := HK1.out; omega
       case rel => exact ⟨(y222), (t221), (wrap64 (x13_1 + 1)), (by first | rfl | (simp; done) | (simp [*]; done)), (by first | rfl | (simp; done) | (simp [*]; done)), H', ⟨by have := HK1.out; omega⟩, ⟨by (try simp only [hl5_1]); (with_reducible repeat (first | apply Kd.R_alloc | apply Kd.R_drewN | apply Kd.R_drew)); exact HO_5.out⟩, ⟨by repeat (first | (with_reducible first | exact HB.out | apply below_alloc | apply pw_below_drewN | apply below_drew1) | exact HB.out)⟩⟩
      ·rw [if_neg c9] at H
       exact absurd H (by simp)
     ·rw [if_neg c8] at H
      exact absurd H (by simp)
    ·rw [if_neg c7] at H
     have c7b0 : decide (x13_1 < (l1.length : Int)) = false := decide_eq_false c7
     (try (have c7b0l0 := c7b0; rw [hl5_1] at c7b0l0))
     clear c7
     by_cases c14 : 0 ≤ x13_1
     ·rw [if_pos c14] at H
      have c14b0 : decide (0 ≤ x13_1) = true := zE c14
      clear c14
      by_cases c15 : x13_1 < (x5_1.length : Int)
      ·rw [if_pos c15] at H
       have c15b0 : decide (x13_1 < (x5_1.length : Int)) = true := zE c15
       (try (have c15b0l0 := c15b0; rw [hl5_1] at c15b0l0))
       clear c15
       replace H := zB H
       obtain ⟨⟨t224, t225⟩, A160, H⟩ := H
       replace H : (natural_sub.l0 k1 l1 (x5_1.set (x13_1 : Int).toNat t224) t225 (t215.length : Int) (wrap64 (x13_1 + 1))) = some r := H
       have A16 := zM A160
       clear A160
       obtain ⟨y226, hy226⟩ : ∃ y_ : List Int, y_ = (x5_1.set (x13_1 : Int).toNat t224) := ⟨_, rfl⟩
       replace H : (natural_sub.l0 k1 l1 y226 t225 (t215.length : Int) (wrap64 (x13_1 + 1))) = some r := by first | (rw [hy226]; with_reducible exact H) | (have H2_ := (Option.bind_some _ _).symm.trans H; rw [hy226]; with_reducible exact H2_) | (have H2_ := (Option.bind_some _ _).symm.trans H; with_reducible exact H2_) | with_reducible exact H | (rw [hy226]; exact H) | exact H
       have Ny226 := zM hy226
       clear hy226
       have H' := zM H
       clear H
       have p223 : 0 ≤ (x13_1 : Int) := zD (by first | (with_reducible assumption) | assumption)
       have q223 : x13_1 < (x5_1.length : Int) := zD (by first | (with_reducible assumption) | assumption)
       obtain ⟨ad223, e223, hx223_0⟩ := Kd.at_int (Kd.R_reads' HO_5.out).2.2 x13_1 p223 q223
       cases e223
       replace p223 := eq_true p223
       replace q223 := eq_true q223
       go_wp2_with (first | ((with_reducible refine gate_callee (f := 83) rfl ?_); refine goesL_ (some 33) rfl rfl Try.func83 (by kernel_rfl) rfl #[.int .u32 (rd x5_1 x13_1), .int .u32 0, .int .u32 x6_1] rfl (by (try simp only [zT, zC, zN]); first | done | rfl | (simp only [zR, zL]; rfl)) ?_; (with_reducible refine (bits_Sub32.calls (rd x5_1 x13_1) 0 x6_1 t224 t225 _ A16.out).mono ?_); rintro e w' ⟨rfl, ⟨nd, rfl⟩⟩; refine ⟨_, rfl, ?_⟩; (try (rw [drewN_self wr]; generalize hq_ : World.drewN wr _ = wr; have n0_ : Aside0 (Kd.R (Kd.int .u32) 76 wr w.heap.size (fun k_ => (w.heap.size ≤ k_)) (.slice (some ad223) x5_1.length co5) x5_1) := ⟨by rw [← hq_]; exact (by (with_reducible repeat (first | apply Kd.R_alloc | apply Kd.R_drewN | apply Kd.R_drew)); exact HO_5.out)⟩; have n1_ : Aside0 (Below w.heap.size w wr) := ⟨by rw [← hq_]; exact (by repeat (first | (with_reducible first | exact HB.out | apply below_alloc | apply pw_below_drewN | apply below_drew1) | exact HB.out))⟩; clear HO_5 HB hq_; have HO_5 := n0_; have HB := n1_; clear n0_ n1_)); have p17 : 0 ≤ (x13_1 : Int) := zD (by first | (with_reducible assumption) | assumption); have q17 : (x13_1 : Int) < ((x5_1.length : Int) : Int) := zD (by first | (with_reducible assumption) | assumption); obtain ⟨go17, co17, eo17, gb17, gl17, cl17, HG17⟩ := Kd.R_form HO_5.out (by omega); (first | cases eo17 | (injection eo17 with ea_ en_ ec_; (first | subst ea_ | (injection ea_ with ea_; subst ea_)); subst ec_; clear en_)); have GB17 := zM gb17; have GG17 := zM HG17; clear gb17 gl17 HG17; (first | simp only [add_plain] at hx223_0 | skip); obtain ⟨hx17_0, hf17_0⟩ := Kd.R_celln 0 HO_5.out (x13_1 : Int) p17 q17; replace p17 := eq_true p17; replace q17 := eq_true q17; obtain ⟨hy18_, hz18_⟩ := Kd.R_celln 0 HO_5.out (x13_1 : Int) (zD (by first | (with_reducible assumption) | assumption)) (zD (by first | (with_reducible assumption) | assumption)); have HP18 := Kd.R_putg HO_5.out (x13_1 : Int) t224) | ((with_reducible refine gate_store (t := 76) (p := 36) rfl ?_); refine store_event (t := 76) (p := 36) (v := ?vo_w19) (w1 := (wr.setCell ⟨go17, (x13_1 : Int).toNat, none⟩ (.int .u32 t224))) ?hg ?ho ?hn ?hr ?_; (case ho => rfl); (case hg => rfl); (case hn => rfl); (case hr => first | (go_simp; done) | (go_simp; rfl)); intro w19 hw; have hg : wr.grownBy w19 (some go17) := (by rw [hw]; exact HP18.2); have hp_ : Kd.R (Kd.int .u32) 76 w19 w.heap.size (fun k_ => (w.heap.size ≤ k_)) (.slice (some ⟨go17, 0, none⟩) x5_1.length co5) y226 := (by rw [hw, Ny226.out]; exact HP18.1); clear HP18; have n0_ := zM (hp_); have n1_ := zM ((by rw [hw]; exact below_set (HB.out) GB17.out : Below w.heap.size w w19)); clear HO_5; clear HB; have HO_5 := n0_; have HB := n1_; clear n0_ n1_; clear hg hw hp_))
       (try simp only [← hl5_1])
       go_roundg k1
       case measure => have := HK1.out; omega
       case rel => exact ⟨(y226), (t225), (wrap64 (x13_1 + 1)), (by first | rfl | (simp; done) | (simp [*]; done)), (by first | rfl | (simp; done) | (simp [*]; done)), H', ⟨by have := HK1.out; omega⟩, ⟨by (try simp only [hl5_1]); (with_reducible repeat (first | apply Kd.R_alloc | apply Kd.R_drewN | apply Kd.R_drew)); exact HO_5.out⟩, ⟨by repeat (first | (with_reducible first | exact HB.out | apply below_alloc | apply pw_below_drewN | apply below_drew1) | exact HB.out)⟩⟩
      ·rw [if_neg c15] at H
       exact absurd H (by simp)
     ·rw [if_neg c14] at H
      exact absurd H (by simp)
   ·rw [if_neg c6] at H
    have c6b0 : decide (x13_1 < (t215.length : Int)) = false := decide_eq_false c6
    (try (have c6b0l0 := c6b0; rw [hl5_1] at c6b0l0))
    clear c6
    replace H := zB H
    obtain ⟨t227, A200, H⟩ := H
    replace H : (some t227) = some r := H
    have A20 := zM A200
    clear A200
    obtain rfl := Option.some.inj H
    go_wp2_with (first | ((with_reducible refine gate_callee (f := 81) rfl ?_); refine goesL_ (some 39) rfl rfl Try.func81 (by kernel_rfl) rfl #[.slice Ao5 x5_1.length co5] rfl (by (try simp only [zT, zC, zN]); first | done | rfl | (simp only [zR, zL]; rfl)) ?_; (with_reducible refine (natural_trim.calls k1 (fun k_ => some k_ = (.slice Ao5 x5_1.length co5 : Value).ownBlock) _ _ x5_1 t227 _ ?side1 A20.out).mono ?_); (case side1 => exact Kd.R_V (Kd.R_tight rfl (HO_5.out))); rintro e w21 ⟨v228, rfl, ho0, hb⟩; refine ⟨_, rfl, ?_⟩; have n0_ := zM (Kd.R_below (by (with_reducible repeat (first | apply Kd.R_alloc | apply Kd.R_drewN | apply Kd.R_drew)); exact HO_5.out) hb); have n1_ := zM (Kd.V_lower (Kd.V_mono (ok' := fun k_ => (w.heap.size ≤ k_)) ho0 (fun k_ hk_ => Or.elim hk_ (fun hs_ => ((HO_5.out).1 k_ hs_.symm)) (fun hn_ => (Nat.le_trans (below_size (by repeat (first | (with_reducible first | exact HB.out | apply below_alloc | apply pw_below_drewN | apply below_drew1) | exact HB.out))) hn_)))) (below_size (by repeat (first | (with_reducible first | exact HB.out | apply below_alloc | apply pw_below_drewN | apply below_drew1) | exact HB.out)))); have n2_ := zM (below_step (by repeat (first | (with_reducible first | exact HB.out | apply below_alloc | apply pw_below_drewN | apply below_drew1) | exact HB.out)) hb); clear HO_5; clear HB; have HO_5 := n0_; have HO229 := n1_; have HB := n2_; clear n0_ n1_ n2_; (try clear hb); (try clear hb2); (try clear hk); (try clear hi); (try clear ho0)))
    go_ret
    exact ⟨_, by first | rfl | (simp [errW_none, errW_some] <;> rfl) | (simp [*, errW_none, errW_some] <;> rfl), by (with_reducible repeat (first | apply Kd.V_alloc | apply Kd.V_drewN | apply Kd.V_drew)); exact HO229.out, by repeat (first | (with_reducible first | exact HB.out | apply below_alloc | apply pw_below_drewN | apply below_drew1) | exact HB.out)⟩

/-! ### natural_Sub: function 74 -/
def natural_Sub.f (k : Nat) (l0 : List Int) (l1 : List Int) : Option (List Int × Int × Int) := (natural_check.f l0 l1).bind fun bt231 => (if bt231.1 = 0 then ((natural_compare.f k l0 l1).bind fun t234 => (if t234 < 0 then ((natural_at.f 4 (-2)).bind fun bt235 => (some (([] : List Int), bt235.1, bt235.2))) else ((natural_sub.f k l0 l1).bind fun t237 => (some (t237, 0, 0))))) else (some (([] : List Int), bt231.1, bt231.2)))
theorem natural_Sub.mono : ∀ a0 a1 k, LeO (natural_Sub.f k a0 a1) (natural_Sub.f (k + 1) a0 a1) := by
 intro a0 a1 k
 unfold natural_Sub.f
 repeat' first
   | (with_reducible exact natural_compare.mono _ _ _)
   | (with_reducible exact natural_sub.mono _ _ _)
   | (with_reducible exact LeO.refl _)
   | (with_reducible exact LeO.none _)
   | (with_reducible refine LeO.ite ?_ ?_)
   | (with_reducible refine LeO.bind ?_ (fun _ => ?_))
   | exact natural_compare.mono _ _ _
   | exact natural_sub.mono _ _ _
   | exact LeO.none _
   | refine LeO.ite ?_ ?_
   | refine LeO.bind ?_ (fun _ => ?_)
set_option maxHeartbeats 60000000 in
set_option maxRecDepth 100000 in
theorem natural_Sub.calls (k : Nat) (A0 : Option Addr) (c0 : Nat) (l0 : List Int) (A1 : Option Addr) (c1 : Nat) (l1 : List Int) (r1 : List Int) (r2 : Int) (r3 : Int) (w : World) (hr0 : Kd.C (Kd.int .u32) w A0 l0.length l0) (hc0 : l0.length ≤ c0) (hr1 : Kd.C (Kd.int .u32) w A1 l1.length l1) (hc1 : l1.length ≤ c1) (h : natural_Sub.f k l0 l1 = some (r1, r2, r3)) :
  Calls Try.prog 74 #[.slice A0 l0.length c0, .slice A1 l1.length c1] w fun e w' => ∃ v0_ : Value, e = .returned (.tuple #[v0_, .agg #[.int .i64 r2, .int .i64 r3]]) ∧ Kd.V (Kd.int .u32) 76 w' w.heap.size (fun k_ => (w.heap.size ≤ k_)) v0_ r1 ∧ Below w.heap.size w w' := by
 have hu29 := Try.underlying29
 have HR0 := zM hr0
 have HC0 := zM hc0
 clear hr0 hc0
 have HR1 := zM hr1
 have HC1 := zM hc1
 clear hr1 hc1
 have HB := zM (Below.refl w.heap.size w)
 have H : ((natural_check.f l0 l1).bind fun bt231 => (if bt231.1 = 0 then ((natural_compare.f k l0 l1).bind fun t234 => (if t234 < 0 then ((natural_at.f 4 (-2)).bind fun bt235 => (some (([] : List Int), bt235.1, bt235.2))) else ((natural_sub.f k l0 l1).bind fun t237 => (some (t237, 0, 0))))) else (some (([] : List Int), bt231.1, bt231.2)))) = some (r1, r2, r3) := h
 clear h
 replace H := zB H
 obtain ⟨⟨t231, t232⟩, A30, H⟩ := H
 replace H : (if t231 = 0 then ((natural_compare.f k l0 l1).bind fun t234 => (if t234 < 0 then ((natural_at.f 4 (-2)).bind fun bt235 => (some (([] : List Int), bt235.1, bt235.2))) else ((natural_sub.f k l0 l1).bind fun t237 => (some (t237, 0, 0))))) else (some (([] : List Int), t231, t232))) = some (r1, r2, r3) := H
 have A3 := zM A30
 clear A30
 by_cases c4 : t231 = 0
 ·rw [if_pos c4] at H
  have c4b0 : (t231 == 0) = true := beq_iff_eq.mpr c4
  have c4b1 : (t231 != 0) = false := bne_eq_false_iff_eq.mpr c4
  clear c4
  replace H := zB H
  obtain ⟨t234, A50, H⟩ := H
  replace H : (if t234 < 0 then ((natural_at.f 4 (-2)).bind fun bt235 => (some (([] : List Int), bt235.1, bt235.2))) else ((natural_sub.f k l0 l1).bind fun t237 => (some (t237, 0, 0)))) = some (r1, r2, r3) := H
  have A5 := zM A50
  clear A50
  by_cases c6 : t234 < 0
  ·rw [if_pos c6] at H
   have c6b0 : decide (t234 < 0) = true := zE c6
   clear c6
   replace H := zB H
   obtain ⟨⟨t235, t236⟩, A70, H⟩ := H
   replace H : (some (([] : List Int), t235, t236)) = some (r1, r2, r3) := H
   have A7 := zM A70
   clear A70
   simp only [Option.some.injEq, Prod.mk.injEq] at H
   obtain ⟨rfl, rfl, rfl⟩ := H
   go_enter Try.func74, Try.ntmps74
   go_wp2_with (first | ((with_reducible refine gate_dst (N := 5) rfl ?_); refine box_event ?hg (N := 5) ?hd (cs := #[.int .i64 0, .int .i64 0]) (t := 29) ?hr ?_; (case hd => rfl); (case hg => rfl); (case hr => first | (go_simp; done) | (go_simp; rfl)); intro gb230 hg w8 hbox hb; have BK230 := zM (hbox); have GW230 := zM ((by rw [hg]; exact (below_size (HB.out)) : w.heap.size ≤ gb230)); have GE230 := GW230; replace HB := zM (below_step (HB.out) hb); clear hb hbox hg) | ((with_reducible refine gate_callee (f := 70) rfl ?_); refine goesL_ (some 9) rfl rfl Try.func70 (by kernel_rfl) rfl #[.slice A0 l0.length c0, .slice A1 l1.length c1] rfl (by (try simp only [zT, zC, zN]); first | done | rfl | (simp only [zR, zL]; rfl)) ?_; (with_reducible refine (natural_check.calls _ _ l0 _ _ l1 t231 t232 _ ?side1 ?side2 ?side3 ?side4 A3.out).mono ?_); (case side1 => repeat (first | exact (Kd.C_below HR0.out HB.out) | (with_reducible refine Kd.C_alloc ?_ _) | (with_reducible refine Kd.C_drewN ?_ _) | (with_reducible refine Kd.C_drew ?_))); (case side2 => exact HC0.out); (case side3 => repeat (first | exact (Kd.C_below HR1.out HB.out) | (with_reducible refine Kd.C_alloc ?_ _) | (with_reducible refine Kd.C_drewN ?_ _) | (with_reducible refine Kd.C_drew ?_))); (case side4 => exact HC1.out); rintro e w9 ⟨rfl, hb⟩; refine ⟨_, rfl, ?_⟩; replace BK230 := pzb BK230 hb; replace HB := zM (below_step (by repeat (first | (with_reducible first | exact HB.out | apply pzA | apply pzD | apply pz1 | apply pzs | assumption) | exact HB.out)) hb); (try clear hb); (try clear hb2); (try clear hk); (try clear hi)) | ((with_reducible refine gate_dst (N := 6) rfl ?_); refine box_event ?hg (N := 6) ?hd (cs := #[.int .i64 0, .int .i64 0]) (t := 29) ?hr ?_; (case hd => rfl); (case hg => rfl); (case hr => first | (go_simp; done) | (go_simp; rfl)); intro gb233 hg w10 hbox hb; have BK233 := zM (hbox); have GW233 := zM ((by rw [hg]; exact (below_size (by repeat (first | (with_reducible first | exact HB.out | apply pzA | apply pzD | apply pz1 | apply pzs | assumption) | exact HB.out))) : w.heap.size ≤ gb233)); have GE233 := GW233; have NB230_233 := pzf BK230 hg; have NB233_230 := pzg BK230 hg; replace BK230 := pzb BK230 hb; replace HB := zM (below_step (by repeat (first | (with_reducible first | exact HB.out | apply pzA | apply pzD | apply pz1 | apply pzs | assumption) | exact HB.out)) hb); clear hb hbox hg; have hnb11 := NB233_230.out; have hnc11 := NB230_233.out; have hcz12_0 := pzc (v := .int .i64 0) BK233 0 rfl; have hcz12_1 := pzc (v := .int .i64 0) BK233 1 rfl; have hfz12_0 := zF BK233.out 0; have hfz12_1 := zF BK233.out 1) | ((with_reducible refine gate_callee (f := 71) rfl ?_); refine goesL_ (some 16) rfl rfl Try.func71 (by kernel_rfl) rfl #[.slice A0 l0.length c0, .slice A1 l1.length c1] rfl (by (try simp only [zT, zC, zN]); first | done | rfl | (simp only [zR, zL]; rfl)) ?_; (with_reducible refine (natural_compare.calls k _ _ l0 _ _ l1 t234 _ ?side1 ?side2 ?side3 ?side4 A5.out).mono ?_); (case side1 => exact Kd.C_below HR0.out (by repeat (first | (with_reducible first | exact HB.out | apply pzA | apply pzD | apply pz1 | apply pzs | assumption) | exact HB.out))); (case side2 => exact HC0.out); (case side3 => exact Kd.C_below HR1.out (by repeat (first | (with_reducible first | exact HB.out | apply pzA | apply pzD | apply pz1 | apply pzs | assumption) | exact HB.out))); (case side4 => exact HC1.out); rintro e w' ⟨rfl, ⟨nd, rfl⟩⟩; refine ⟨_, rfl, ?_⟩) | ((with_reducible refine gate_callee (f := 76) rfl ?_); refine goesL_ (some 18) rfl rfl Try.func76 (by kernel_rfl) rfl #[.int .i64 4, .int .i64 (-2)] rfl (by (try simp only [zT, zC, zN]); first | done | rfl | (simp only [zR, zL]; rfl)) ?_; (with_reducible refine (natural_at.calls 4 (-2) t235 t236 _ A7.out).mono ?_); rintro e w13 ⟨rfl, hb⟩; refine ⟨_, rfl, ?_⟩; replace BK230 := zM (blk_below (g := gb230) (o := .cells #[.int .i64 0, .int .i64 0] 29 (0, 0)) (by (with_reducible repeat (first | apply pzN | apply pzd | apply pza)); refine blk_far ?_ NB230_233.out _; (with_reducible repeat (first | apply pzN | apply pzd | apply pza)); refine blk_far ?_ NB230_233.out _; (with_reducible repeat (first | apply pzN | apply pzd | apply pza)); exact BK230.out) hb); replace HB := zM (below_step (by repeat (first | (with_reducible first | exact HB.out | apply pzA | apply pzD | apply pz1 | apply pzs | assumption) | exact HB.out)) hb); (try clear hb); (try clear hb2); (try clear hk); (try clear hi); have hcz14_0 := pzc (v := .int .i64 0) BK230 0 rfl; have hcz14_1 := pzc (v := .int .i64 0) BK230 1 rfl; have hfz14_0 := zF BK230.out 0; have hfz14_1 := zF BK230.out 1))
   refine bodyPost_ret (results_tc rfl _ _ gb230 29 #[.int .i64 t235, .int .i64 t236] (0, 0) _ rfl (by (with_reducible repeat (first | apply pzN | apply pzd | apply pza)); refine blk_put (cs := #[.int .i64 t235, .int .i64 0]) ?_ 1 _ rfl; (with_reducible repeat (first | apply pzN | apply pzd | apply pza)); refine blk_put (cs := #[.int .i64 0, .int .i64 0]) ?_ 0 _ rfl; (with_reducible repeat (first | apply pzN | apply pzd | apply pza)); exact BK230.out) Try.underlying29 rfl (by kernel_rfl)) rfl ?_
   exact ⟨_, by first | rfl | (simp [errW_none, errW_some] <;> rfl) | (simp [*, errW_none, errW_some] <;> rfl), Kd.V_nil _ _ _ _ _, by repeat (first | (with_reducible first | exact HB.out | apply pzA | apply pzD | apply pz1 | apply pzs | assumption) | exact HB.out)⟩
  ·rw [if_neg c6] at H
   have c6b0 : decide (t234 < 0) = false := decide_eq_false c6
   clear c6
   replace H := zB H
   obtain ⟨t237, A150, H⟩ := H
   replace H : (some (t237, 0, 0)) = some (r1, r2, r3) := H
   have A15 := zM A150
   clear A150
   simp only [Option.some.injEq, Prod.mk.injEq] at H
   obtain ⟨rfl, rfl, rfl⟩ := H
   go_enter Try.func74, Try.ntmps74
   go_wp2_with (first | ((with_reducible refine gate_dst (N := 5) rfl ?_); refine box_event ?hg (N := 5) ?hd (cs := #[.int .i64 0, .int .i64 0]) (t := 29) ?hr ?_; (case hd => rfl); (case hg => rfl); (case hr => first | (go_simp; done) | (go_simp; rfl)); intro gb230 hg w16 hbox hb; have BK230 := zM (hbox); have GW230 := zM ((by rw [hg]; exact (below_size (HB.out)) : w.heap.size ≤ gb230)); have GE230 := GW230; replace HB := zM (below_step (HB.out) hb); clear hb hbox hg) | ((with_reducible refine gate_callee (f := 70) rfl ?_); refine goesL_ (some 9) rfl rfl Try.func70 (by kernel_rfl) rfl #[.slice A0 l0.length c0, .slice A1 l1.length c1] rfl (by (try simp only [zT, zC, zN]); first | done | rfl | (simp only [zR, zL]; rfl)) ?_; (with_reducible refine (natural_check.calls _ _ l0 _ _ l1 t231 t232 _ ?side1 ?side2 ?side3 ?side4 A3.out).mono ?_); (case side1 => repeat (first | exact (Kd.C_below HR0.out HB.out) | (with_reducible refine Kd.C_alloc ?_ _) | (with_reducible refine Kd.C_drewN ?_ _) | (with_reducible refine Kd.C_drew ?_))); (case side2 => exact HC0.out); (case side3 => repeat (first | exact (Kd.C_below HR1.out HB.out) | (with_reducible refine Kd.C_alloc ?_ _) | (with_reducible refine Kd.C_drewN ?_ _) | (with_reducible refine Kd.C_drew ?_))); (case side4 => exact HC1.out); rintro e w17 ⟨rfl, hb⟩; refine ⟨_, rfl, ?_⟩; replace BK230 := pzb BK230 hb; replace HB := zM (below_step (by repeat (first | (with_reducible first | exact HB.out | apply pzA | apply pzD | apply pz1 | apply pzs | assumption) | exact HB.out)) hb); (try clear hb); (try clear hb2); (try clear hk); (try clear hi)) | ((with_reducible refine gate_dst (N := 6) rfl ?_); refine box_event ?hg (N := 6) ?hd (cs := #[.int .i64 0, .int .i64 0]) (t := 29) ?hr ?_; (case hd => rfl); (case hg => rfl); (case hr => first | (go_simp; done) | (go_simp; rfl)); intro gb233 hg w18 hbox hb; have BK233 := zM (hbox); have GW233 := zM ((by rw [hg]; exact (below_size (by repeat (first | (with_reducible first | exact HB.out | apply pzA | apply pzD | apply pz1 | apply pzs | assumption) | exact HB.out))) : w.heap.size ≤ gb233)); have GE233 := GW233; have NB230_233 := pzf BK230 hg; have NB233_230 := pzg BK230 hg; replace BK230 := pzb BK230 hb; replace HB := zM (below_step (by repeat (first | (with_reducible first | exact HB.out | apply pzA | apply pzD | apply pz1 | apply pzs | assumption) | exact HB.out)) hb); clear hb hbox hg; have hnb19 := NB233_230.out; have hnc19 := NB230_233.out; have hcz20_0 := pzc (v := .int .i64 0) BK233 0 rfl; have hcz20_1 := pzc (v := .int .i64 0) BK233 1 rfl; have hfz20_0 := zF BK233.out 0; have hfz20_1 := zF BK233.out 1) | ((with_reducible refine gate_callee (f := 71) rfl ?_); refine goesL_ (some 16) rfl rfl Try.func71 (by kernel_rfl) rfl #[.slice A0 l0.length c0, .slice A1 l1.length c1] rfl (by (try simp only [zT, zC, zN]); first | done | rfl | (simp only [zR, zL]; rfl)) ?_; (with_reducible refine (natural_compare.calls k _ _ l0 _ _ l1 t234 _ ?side1 ?side2 ?side3 ?side4 A5.out).mono ?_); (case side1 => exact Kd.C_below HR0.out (by repeat (first | (with_reducible first | exact HB.out | apply pzA | apply pzD | apply pz1 | apply pzs | assumption) | exact HB.out))); (case side2 => exact HC0.out); (case side3 => exact Kd.C_below HR1.out (by repeat (first | (with_reducible first | exact HB.out | apply pzA | apply pzD | apply pz1 | apply pzs | assumption) | exact HB.out))); (case side4 => exact HC1.out); rintro e w' ⟨rfl, ⟨nd, rfl⟩⟩; refine ⟨_, rfl, ?_⟩) | ((with_reducible refine gate_callee (f := 80) rfl ?_); refine goesL_ (some 21) rfl rfl Try.func80 (by kernel_rfl) rfl #[.slice A0 l0.length c0, .slice A1 l1.length c1] rfl (by (try simp only [zT, zC, zN]); first | done | rfl | (simp only [zR, zL]; rfl)) ?_; (with_reducible refine (natural_sub.calls k _ _ l0 _ _ l1 t237 _ ?side1 ?side2 ?side3 ?side4 A15.out).mono ?_); (case side1 => exact Kd.C_below HR0.out (by repeat (first | (with_reducible first | exact HB.out | apply pzA | apply pzD | apply pz1 | apply pzs | assumption) | exact HB.out))); (case side2 => exact HC0.out); (case side3 => exact Kd.C_below HR1.out (by repeat (first | (with_reducible first | exact HB.out | apply pzA | apply pzD | apply pz1 | apply pzs | assumption) | exact HB.out))); (case side4 => exact HC1.out); rintro e w21 ⟨v238, rfl, ho0, hb⟩; refine ⟨_, rfl, ?_⟩; have HO239 := zM (Kd.V_lower (Kd.V_mono (ok' := fun k_ => (w.heap.size ≤ k_) ∧ k_ ≠ gb230 ∧ k_ ≠ gb233) ho0 (fun k_ hk_ => ⟨(Nat.le_trans (below_size (by repeat (first | (with_reducible first | exact HB.out | apply pzA | apply pzD | apply pz1 | apply pzs | assumption) | exact HB.out))) hk_), (Kd.freshB (g := gb230) (o := .cells #[.int .i64 0, .int .i64 0] 29 (0, 0)) (by (with_reducible repeat (first | apply pzN | apply pzd | apply pza)); refine blk_far ?_ NB230_233.out _; (with_reducible repeat (first | apply pzN | apply pzd | apply pza)); refine blk_far ?_ NB230_233.out _; (with_reducible repeat (first | apply pzN | apply pzd | apply pza)); exact BK230.out) k_ hk_), (Kd.freshB (g := gb233) (o := .cells #[.int .i64 t231, .int .i64 t232] 29 (0, 0)) (by (with_reducible repeat (first | apply pzN | apply pzd | apply pza)); refine blk_put (cs := #[.int .i64 t231, .int .i64 0]) ?_ 1 _ rfl; (with_reducible repeat (first | apply pzN | apply pzd | apply pza)); refine blk_put (cs := #[.int .i64 0, .int .i64 0]) ?_ 0 _ rfl; (with_reducible repeat (first | apply pzN | apply pzd | apply pza)); exact BK233.out) k_ hk_)⟩)) (below_size (by repeat (first | (with_reducible first | exact HB.out | apply pzA | apply pzD | apply pz1 | apply pzs | assumption) | exact HB.out)))); replace BK230 := zM (blk_below (g := gb230) (o := .cells #[.int .i64 0, .int .i64 0] 29 (0, 0)) (by (with_reducible repeat (first | apply pzN | apply pzd | apply pza)); refine blk_far ?_ NB230_233.out _; (with_reducible repeat (first | apply pzN | apply pzd | apply pza)); refine blk_far ?_ NB230_233.out _; (with_reducible repeat (first | apply pzN | apply pzd | apply pza)); exact BK230.out) hb); replace HB := zM (below_step (by repeat (first | (with_reducible first | exact HB.out | apply pzA | apply pzD | apply pz1 | apply pzs | assumption) | exact HB.out)) hb); (try clear hb); (try clear hb2); (try clear hk); (try clear hi); (try clear ho0); have hcz22_0 := pzc (v := .int .i64 0) BK230 0 rfl; have hcz22_1 := pzc (v := .int .i64 0) BK230 1 rfl; have hfz22_0 := zF BK230.out 0; have hfz22_1 := zF BK230.out 1))
   refine bodyPost_ret (results_tc rfl _ _ gb230 29 #[.int .i64 0, .int .i64 0] (0, 0) _ rfl (by (with_reducible repeat (first | apply pzN | apply pzd | apply pza)); refine blk_put (cs := #[.int .i64 0, .int .i64 0]) ?_ 1 _ rfl; (with_reducible repeat (first | apply pzN | apply pzd | apply pza)); refine blk_put (cs := #[.int .i64 0, .int .i64 0]) ?_ 0 _ rfl; (with_reducible repeat (first | apply pzN | apply pzd | apply pza)); exact BK230.out) Try.underlying29 rfl (by kernel_rfl)) rfl ?_
   exact ⟨_, by first | rfl | (simp [errW_none, errW_some] <;> rfl) | (simp [*, errW_none, errW_some] <;> rfl), by (with_reducible repeat (first | apply Kd.V_alloc | apply Kd.V_drewN | apply Kd.V_drew)); exact Kd.V_mono (Kd.V_far (p := ⟨gb230, 1, none⟩) (Kd.V_far (p := ⟨gb230, 0, none⟩) (Kd.V_mono HO239.out (fun k_ hk => (⟨hk, hk.2.1⟩ : _ ∧ k_ ≠ gb230))) (fun _ hk => hk.2) (.int .i64 0)) (fun _ hk => hk.2) (.int .i64 0)) (fun _ hk => hk.1.1), by repeat (first | (with_reducible first | exact HB.out | apply pzA | apply pzD | apply pz1 | apply pzs | assumption) | exact HB.out)⟩
 ·rw [if_neg c4] at H
  have c4b0 : (t231 == 0) = false := beq_eq_false_iff_ne.mpr c4
  have c4b1 : (t231 != 0) = true := bne_iff_ne.mpr c4
  simp only [Option.some.injEq, Prod.mk.injEq] at H
  obtain ⟨rfl, rfl, rfl⟩ := H
  go_enter Try.func74, Try.ntmps74
  try go_wp2_with (first | ((with_reducible refine gate_dst (N := 5) rfl ?_); refine box_event ?hg (N := 5) ?hd (cs := #[.int .i64 0, .int .i64 0]) (t := 29) ?hr ?_; (case hd => rfl); (case hg => rfl); (case hr => first | (go_simp; done) | (go_simp; rfl)); intro gb230 hg w23 hbox hb; have BK230 := zM (hbox); have GW230 := zM ((by rw [hg]; exact (below_size (HB.out)) : w.heap.size ≤ gb230)); have GE230 := GW230; replace HB := zM (below_step (HB.out) hb); clear hb hbox hg) | ((with_reducible refine gate_callee (f := 70) rfl ?_); refine goesL_ (some 9) rfl rfl Try.func70 (by kernel_rfl) rfl #[.slice A0 l0.length c0, .slice A1 l1.length c1] rfl (by (try simp only [zT, zC, zN]); first | done | rfl | (simp only [zR, zL]; rfl)) ?_; (with_reducible refine (natural_check.calls _ _ l0 _ _ l1 t231 t232 _ ?side1 ?side2 ?side3 ?side4 A3.out).mono ?_); (case side1 => repeat (first | exact (Kd.C_below HR0.out HB.out) | (with_reducible refine Kd.C_alloc ?_ _) | (with_reducible refine Kd.C_drewN ?_ _) | (with_reducible refine Kd.C_drew ?_))); (case side2 => exact HC0.out); (case side3 => repeat (first | exact (Kd.C_below HR1.out HB.out) | (with_reducible refine Kd.C_alloc ?_ _) | (with_reducible refine Kd.C_drewN ?_ _) | (with_reducible refine Kd.C_drew ?_))); (case side4 => exact HC1.out); rintro e w24 ⟨rfl, hb⟩; refine ⟨_, rfl, ?_⟩; replace BK230 := pzb BK230 hb; replace HB := zM (below_step (by repeat (first | (with_reducible first | exact HB.out | apply pzA | apply pzD | apply pz1 | apply pzs | assumption) | exact HB.out)) hb); (try clear hb); (try clear hb2); (try clear hk); (try clear hi)) | ((with_reducible refine gate_dst (N := 6) rfl ?_); refine box_event ?hg (N := 6) ?hd (cs := #[.int .i64 0, .int .i64 0]) (t := 29) ?hr ?_; (case hd => rfl); (case hg => rfl); (case hr => first | (go_simp; done) | (go_simp; rfl)); intro gb233 hg w25 hbox hb; have BK233 := zM (hbox); have GW233 := zM ((by rw [hg]; exact (below_size (by repeat (first | (with_reducible first | exact HB.out | apply pzA | apply pzD | apply pz1 | apply pzs | assumption) | exact HB.out))) : w.heap.size ≤ gb233)); have GE233 := GW233; have NB230_233 := pzf BK230 hg; have NB233_230 := pzg BK230 hg; replace BK230 := pzb BK230 hb; replace HB := zM (below_step (by repeat (first | (with_reducible first | exact HB.out | apply pzA | apply pzD | apply pz1 | apply pzs | assumption) | exact HB.out)) hb); clear hb hbox hg; have hnb26 := NB233_230.out; have hnc26 := NB230_233.out; have hcz27_0 := pzc (v := .int .i64 0) BK233 0 rfl; have hcz27_1 := pzc (v := .int .i64 0) BK233 1 rfl; have hfz27_0 := zF BK233.out 0; have hfz27_1 := zF BK233.out 1))
  have n0_ : Aside0 (((w25.setCell ⟨gb233, 0, none⟩ (.int .i64 t231)).setCell ⟨gb233, 1, none⟩ (.int .i64 t232)).heap[gb230]? = some (.cells #[.int .i64 0, .int .i64 0] 29 (0, 0))) := ⟨by (with_reducible repeat (first | apply pzN | apply pzd | apply pza)); refine blk_far ?_ NB230_233.out _; (with_reducible repeat (first | apply pzN | apply pzd | apply pza)); refine blk_far ?_ NB230_233.out _; (with_reducible repeat (first | apply pzN | apply pzd | apply pza)); exact BK230.out⟩
  have n1_ : Aside0 (((w25.setCell ⟨gb233, 0, none⟩ (.int .i64 t231)).setCell ⟨gb233, 1, none⟩ (.int .i64 t232)).heap[gb233]? = some (.cells #[.int .i64 t231, .int .i64 t232] 29 (0, 0))) := ⟨by (with_reducible repeat (first | apply pzN | apply pzd | apply pza)); refine blk_put (cs := #[.int .i64 t231, .int .i64 0]) ?_ 1 _ rfl; (with_reducible repeat (first | apply pzN | apply pzd | apply pza)); refine blk_put (cs := #[.int .i64 0, .int .i64 0]) ?_ 0 _ rfl; (with_reducible repeat (first | apply pzN | apply pzd | apply pza)); exact BK233.out⟩
  have n2_ : Aside0 (Below w.heap.size w ((w25.setCell ⟨gb233, 0, none⟩ (.int .i64 t231)).setCell ⟨gb233, 1, none⟩ (.int .i64 t232))) := ⟨by repeat (first | (with_reducible first | exact HB.out | apply pzA | apply pzD | apply pz1 | apply pzs | assumption) | exact HB.out)⟩
  (try clear BK230)
  (try clear BK233)
  (try clear HB)
  generalize ((w25.setCell ⟨gb233, 0, none⟩ (.int .i64 t231)).setCell ⟨gb233, 1, none⟩ (.int .i64 t232)) = w28 at n0_ n1_ n2_ ⊢
  have BK230 := n0_
  have BK233 := n1_
  have HB := n2_
  clear n0_ n1_ n2_
  replace BK230 := zM (blk_drew BK230.out)
  replace BK233 := zM (blk_drew BK233.out)
  replace HB := zM (below_drew1 HB.out)
  refine start_ (n := 3) (S := fun w' => w'.cell? ⟨gb233, 0, none⟩ = some (.int .i64 t231) ∧ w'.cell? ⟨gb233, 1, none⟩ = some (.int .i64 t232)) (ds := []) #[false, false, false] (by kernel_rfl) rfl rfl ⟨(blk_cell BK233.out 0).trans rfl, (blk_cell BK233.out 1).trans rfl⟩ (fun hHeld => ?_)
  generalize w28.drew = w29 at BK230 HB hHeld ⊢
  refine pure_ (i := 1) (N := some 4) (v := ?_) (a' := ?_) #[false, true, false] rfl rfl (by kernel_rfl) (fun _ _ _ h => h) (Or.inl ⟨by rfl, ?_⟩) ?_ ?_
  rotate_left
  ·intro w'
   go_simp
   with_reducible rfl
  rotate_left
  ·simp only [Act.put, zS, z0, z1, i64_w, i32_w]
   rfl
  refine take_ (i := 0) (N := some 13) (v := ?_) (a' := ?_) #[true, true, false] rfl rfl (by kernel_rfl) (fun _ _ _ h => h) (Or.inl ⟨by rfl, ?_⟩) hHeld ?_ ?_
  rotate_left
  ·rintro w' ⟨s0, s1⟩
   go_simp
   with_reducible rfl
  rotate_left
  ·simp only [Act.put, zS, z0, z1, i64_w, i32_w]
   rfl
  refine one_ (i := 2) (N := none) #[true, true, true] rfl rfl (by kernel_rfl) (by decide) (fun K hK => ?_)
  have hs30 : w29.cell? ⟨gb230, 0, none⟩ = some (.int .i64 0) := (blk_cell BK230.out 0).trans rfl
  have hfs30 := zF BK230.out 0
  have hns30_1 := NB233_230.out
  have hms30_1 := NB230_233.out
  have hs31 : w29.cell? ⟨gb230, 1, none⟩ = some (.int .i64 0) := (blk_cell BK230.out 1).trans rfl
  have hfs31 := zF BK230.out 1
  have hns31_1 := NB233_230.out
  have hms31_1 := NB230_233.out
  refine skip_ (w1 := ?_) (by rfl) rfl ?_ ?_
  rotate_left
  ·go_simp
   rfl
  refine hK.out _ _ ⟨((cell_far (p := ⟨gb230, _, none⟩) NB233_230.out _).trans (((cell_far (p := ⟨gb230, _, none⟩) NB233_230.out _).trans (hHeld.1)))), ((cell_far (p := ⟨gb230, _, none⟩) NB233_230.out _).trans (((cell_far (p := ⟨gb230, _, none⟩) NB233_230.out _).trans (hHeld.2))))⟩ (fun hHeld => ?_)
  clear hK K
  refine done_ (by kernel_rfl) ?_
  try go_wp2
  refine bodyPost_ret (results_tc rfl _ _ gb230 29 #[.int .i64 t231, .int .i64 t232] (0, 0) _ rfl (by (with_reducible repeat (first | apply pzN | apply pzd | apply pza)); refine blk_put (cs := #[.int .i64 t231, .int .i64 0]) ?_ 1 _ rfl; (with_reducible repeat (first | apply pzN | apply pzd | apply pza)); refine blk_put (cs := #[.int .i64 0, .int .i64 0]) ?_ 0 _ rfl; (with_reducible repeat (first | apply pzN | apply pzd | apply pza)); exact BK230.out) Try.underlying29 rfl (by kernel_rfl)) rfl ?_
  exact ⟨_, by first | rfl | (simp [errW_none, errW_some] <;> rfl) | (simp [*, errW_none, errW_some] <;> rfl), Kd.V_nil _ _ _ _ _, by repeat (first | (with_reducible first | exact HB.out | apply pzA | apply pzD | apply pz1 | apply pzs | assumption) | exact HB.out)⟩

/-! ### integer_plus: function 64 -/

def integer_plus.f (k : Nat) (a0_0 : Bool) (l0_1 : List Int) (a1_0 : Bool) (l1_1 : List Int) : Option (Bool × List Int × Int × Int) :=
  if a0_0 = a1_0 then (natural_Add.f k l0_1 l1_1).bind fun s => integer_signed.f a0_0 s.1 else (natural_Cmp.f k l0_1 l1_1).bind fun c => if c.1 < 0 then (natural_Sub.f k l1_1 l0_1).bind fun s => integer_signed.f a1_0 s.1 else (natural_Sub.f k l0_1 l1_1).bind fun s => integer_signed.f a0_0 s.1
theorem integer_plus.mono : ∀ a0 a1 a2 a3 k, LeO (integer_plus.f k a0 a1 a2 a3) (integer_plus.f (k + 1) a0 a1 a2 a3) := by
  intro a0 a1 a2 a3 k
  unfold integer_plus.f
  exact LeO.ite (LeO.bind (natural_Add.mono _ _ _) (fun _ => LeO.refl _)) (LeO.bind (natural_Cmp.mono _ _ _) (fun _ => LeO.ite (LeO.bind (natural_Sub.mono _ _ _) (fun _ => LeO.refl _)) (LeO.bind (natural_Sub.mono _ _ _) (fun _ => LeO.refl _))))
set_option maxHeartbeats 1000000 in
set_option maxRecDepth 100000 in
theorem integer_plus.calls (k : Nat) (a0_0 : Bool) (A0_1 : Option Addr) (c0_1 : Nat) (l0_1 : List Int) (a1_0 : Bool) (A1_1 : Option Addr) (c1_1 : Nat) (l1_1 : List Int) (r1 : Bool) (r2 : List Int) (r3 : Int) (r4 : Int) (w : World) (hr0_1 : Kd.C (Kd.int .u32) w A0_1 l0_1.length l0_1) (hc0_1 : l0_1.length ≤ c0_1) (hr1_1 : Kd.C (Kd.int .u32) w A1_1 l1_1.length l1_1) (hc1_1 : l1_1.length ≤ c1_1) (h : integer_plus.f k a0_0 l0_1 a1_0 l1_1 = some (r1, r2, r3, r4)) :
    Calls Try.prog 64 #[.agg #[.bool a0_0, .slice A0_1 l0_1.length c0_1], .agg #[.bool a1_0, .slice A1_1 l1_1.length c1_1]] w fun e w' => ∃ v1_ : Value, e = .returned (.tuple #[.agg #[.bool r1, v1_], .agg #[.int .i64 r3, .int .i64 r4]]) ∧ Kd.V (Kd.int .u32) 76 w' w.heap.size (fun k_ => (w.heap.size ≤ k_)) v1_ r2 ∧ Below w.heap.size w w' := by
  unfold integer_plus.f at h
  have R0 := Aside0.mk hr0_1
  have R1 := Aside0.mk hr1_1
  have C0 := Aside0.mk hc0_1
  have C1 := Aside0.mk hc1_1
  clear hr0_1 hr1_1 hc0_1 hc1_1
  have hu24 := Try.underlying24
  have hu29 := Try.underlying29
  by_cases hs : a0_0 = a1_0
  · rw [if_pos hs] at h
    subst hs
    obtain ⟨⟨s, y1, y2⟩, h2, h⟩ := Option.bind_eq_some_iff.mp h
    have H2 := Aside0.mk h2
    have H3 := Aside0.mk h
    clear h2 h
    go_enter Try.func64, Try.ntmps64
    go_wp2_with fail
    go_at_call 72
    refine (natural_Add.calls k _ _ _ _ _ _ s y1 y2 _ (Kd.C_below R0.out (below_alloc (below_alloc (below_alloc (below_alloc (Below.refl _ _) _) _) _) _)) C0.out (Kd.C_below R1.out (below_alloc (below_alloc (below_alloc (below_alloc (Below.refl _ _) _) _) _) _)) C1.out H2.out).mono ?_
    rintro e w1 ⟨v0, rfl, ho, hb⟩
    have hz := hb.size
    simp only [World.size_alloc] at hz
    have B0 : w1.heap[w.heap.size]? = some (.cells #[.bool a0_0, .slice A0_1 l0_1.length c0_1] 24 (0, 0)) := blk_below (blk_alloc (blk_alloc (blk_alloc (heap_at (by simp only [World.size_alloc]) _) _) _) _) hb
    have kc0_0 : w1.cell? ⟨w.heap.size, 0, none⟩ = some (.bool a0_0) := (blk_cell B0 0).trans rfl
    have kf0_0 := blk_frozen B0 0
    have kc0_1 : w1.cell? ⟨w.heap.size, 1, none⟩ = some (.slice A0_1 l0_1.length c0_1) := (blk_cell B0 1).trans rfl
    have kf0_1 := blk_frozen B0 1
    have l0 : w.heap.size < w1.heap.size := by omega
    have n0 : w.heap.size ≠ w1.heap.size := by omega
    have B2 : w1.heap[w.heap.size + 1 + 1]? = some (.cells #[.bool false, .slice none 0 0] 24 (0, 0)) := blk_below (blk_alloc (heap_at (by simp only [World.size_alloc]) _) _) hb
    have kc2_0 : w1.cell? ⟨w.heap.size + 1 + 1, 0, none⟩ = some (.bool false) := (blk_cell B2 0).trans rfl
    have kf2_0 := blk_frozen B2 0
    have kc2_1 : w1.cell? ⟨w.heap.size + 1 + 1, 1, none⟩ = some (.slice none 0 0) := (blk_cell B2 1).trans rfl
    have kf2_1 := blk_frozen B2 1
    have l2 : w.heap.size + 1 + 1 < w1.heap.size := by omega
    have n2 : w.heap.size + 1 + 1 ≠ w1.heap.size := by omega
    have B3 : w1.heap[w.heap.size + 1 + 1 + 1]? = some (.cells #[.int .i64 0, .int .i64 0] 29 (0, 0)) := blk_below (heap_at (by simp only [World.size_alloc]) _) hb
    have kc3_0 : w1.cell? ⟨w.heap.size + 1 + 1 + 1, 0, none⟩ = some (.int .i64 0) := (blk_cell B3 0).trans rfl
    have kf3_0 := blk_frozen B3 0
    have kc3_1 : w1.cell? ⟨w.heap.size + 1 + 1 + 1, 1, none⟩ = some (.int .i64 0) := (blk_cell B3 1).trans rfl
    have kf3_1 := blk_frozen B3 1
    have l3 : w.heap.size + 1 + 1 + 1 < w1.heap.size := by omega
    have n3 : w.heap.size + 1 + 1 + 1 ≠ w1.heap.size := by omega
    have HB := Aside0.mk (below_step (below_alloc (below_alloc (below_alloc (below_alloc (Below.refl _ _) _) _) _) _) hb)
    obtain ⟨Av, cv, rfl, hl, hF⟩ := ho
    have HV := Aside0.mk (show Kd.V (Kd.int .u32) 76 w1 w.heap.size (fun k_ => w.heap.size + 1 + 1 + 1 + 1 ≤ k_) (.slice Av s.length cv) s from Kd.V_mono (Kd.V_mk hl hF) (fun k_ hk => by simp only [World.size_alloc, World.size_setCell] at hk; omega))
    clear hb hl hF
    go_wp2_with fail
    go_at_call 73
    refine (integer_signed.calls a0_0 (fun k_ => w.heap.size + 1 + 1 + 1 + 1 ≤ k_) Av cv s r1 r2 r3 r4 _ (Kd.V_alloc HV.out _) H3.out).mono ?_
    rintro e w9 ⟨v, rfl, ho, hb⟩
    obtain ⟨Aw, cw, rfl, hl, hF⟩ := ho
    have hzs := hb.size
    simp only [World.size_alloc, World.size_setCell, World.size_drew] at hzs
    have B2s : w9.heap[w.heap.size + 1 + 1]? = some (.cells #[.bool false, .slice none 0 0] 24 (0, 0)) := blk_below (blk_alloc (B2) _) hb
    have kc2_0s : w9.cell? ⟨w.heap.size + 1 + 1, 0, none⟩ = some (.bool false) := (blk_cell B2s 0).trans rfl
    have kf2_0s := blk_frozen B2s 0
    have kc2_1s : w9.cell? ⟨w.heap.size + 1 + 1, 1, none⟩ = some (.slice none 0 0) := (blk_cell B2s 1).trans rfl
    have kf2_1s := blk_frozen B2s 1
    have l2s : w.heap.size + 1 + 1 < w9.heap.size := by omega
    have n2s : w.heap.size + 1 + 1 ≠ w9.heap.size := by omega
    have B3s : w9.heap[w.heap.size + 1 + 1 + 1]? = some (.cells #[.int .i64 0, .int .i64 0] 29 (0, 0)) := blk_below (blk_alloc (B3) _) hb
    have kc3_0s : w9.cell? ⟨w.heap.size + 1 + 1 + 1, 0, none⟩ = some (.int .i64 0) := (blk_cell B3s 0).trans rfl
    have kf3_0s := blk_frozen B3s 0
    have kc3_1s : w9.cell? ⟨w.heap.size + 1 + 1 + 1, 1, none⟩ = some (.int .i64 0) := (blk_cell B3s 1).trans rfl
    have kf3_1s := blk_frozen B3s 1
    have l3s : w.heap.size + 1 + 1 + 1 < w9.heap.size := by omega
    have n3s : w.heap.size + 1 + 1 + 1 ≠ w9.heap.size := by omega
    have HB9 := Aside0.mk (below_step (below_alloc HB.out _) hb)
    have HV9 := Aside0.mk (show Kd.V (Kd.int .u32) 76 w9 w.heap.size (fun k_ => w.heap.size + 1 + 1 + 1 + 1 ≤ k_) (.slice Aw r2.length cw) r2 from Kd.V_mono (Kd.V_mk hl hF) (fun k_ hk => Or.elim hk id (fun hk => by simp only [World.size_alloc] at hk; omega)))
    clear hb hl hF
    go_wp2_with fail
    refine bodyPost_ret (v := .tuple #[.agg #[.bool r1, .slice Aw r2.length cw], .agg #[.int .i64 r3, .int .i64 r4]]) (by simp [results, Try.results64, go_sem, World.cell?_alloc_lt, *]) rfl ⟨_, rfl, ?_, ?_⟩
    · refine Kd.V_mono (ok := fun k_ => w.heap.size + 1 + 1 + 1 + 1 ≤ k_) ?_ (fun _ _ => by omega)
      repeat (first | exact HV9.out | refine Kd.V_far ?_ (fun k_ hk => ?_) _)
      all_goals (try (dsimp only; omega))
    · repeat (first | exact HB9.out | apply below_drew1 | refine below_set ?_ (by omega) | apply below_alloc)

  · rw [if_neg hs] at h
    have hs1 : (a0_0 == a1_0) = false := beq_eq_false_iff_ne.mpr hs
    clear hs
    obtain ⟨⟨c, z1, z2⟩, h1, h⟩ := Option.bind_eq_some_iff.mp h
    have H1 := Aside0.mk h1
    clear h1
    dsimp only at h
    go_enter Try.func64, Try.ntmps64
    go_wp2_with fail
    go_at_call 63
    refine (natural_Cmp.calls k _ _ _ _ _ _ c z1 z2 _ (Kd.C_below R0.out (below_alloc (below_alloc (below_alloc (below_alloc (Below.refl _ _) _) _) _) _)) C0.out (Kd.C_below R1.out (below_alloc (below_alloc (below_alloc (below_alloc (Below.refl _ _) _) _) _) _)) C1.out H1.out).mono ?_
    rintro e w1 ⟨rfl, hb⟩
    have hz := hb.size
    simp only [World.size_alloc] at hz
    have B0 : w1.heap[w.heap.size]? = some (.cells #[.bool a0_0, .slice A0_1 l0_1.length c0_1] 24 (0, 0)) := blk_below (blk_alloc (blk_alloc (blk_alloc (heap_at (by simp only [World.size_alloc]) _) _) _) _) hb
    have kc0_0 : w1.cell? ⟨w.heap.size, 0, none⟩ = some (.bool a0_0) := (blk_cell B0 0).trans rfl
    have kf0_0 := blk_frozen B0 0
    have kc0_1 : w1.cell? ⟨w.heap.size, 1, none⟩ = some (.slice A0_1 l0_1.length c0_1) := (blk_cell B0 1).trans rfl
    have kf0_1 := blk_frozen B0 1
    have l0 : w.heap.size < w1.heap.size := by omega
    have n0 : w.heap.size ≠ w1.heap.size := by omega
    have B1 : w1.heap[w.heap.size + 1]? = some (.cells #[.bool a1_0, .slice A1_1 l1_1.length c1_1] 24 (0, 0)) := blk_below (blk_alloc (blk_alloc (heap_at (by simp only [World.size_alloc]) _) _) _) hb
    have kc1_0 : w1.cell? ⟨w.heap.size + 1, 0, none⟩ = some (.bool a1_0) := (blk_cell B1 0).trans rfl
    have kf1_0 := blk_frozen B1 0
    have kc1_1 : w1.cell? ⟨w.heap.size + 1, 1, none⟩ = some (.slice A1_1 l1_1.length c1_1) := (blk_cell B1 1).trans rfl
    have kf1_1 := blk_frozen B1 1
    have l1 : w.heap.size + 1 < w1.heap.size := by omega
    have n1 : w.heap.size + 1 ≠ w1.heap.size := by omega
    have B2 : w1.heap[w.heap.size + 1 + 1]? = some (.cells #[.bool false, .slice none 0 0] 24 (0, 0)) := blk_below (blk_alloc (heap_at (by simp only [World.size_alloc]) _) _) hb
    have kc2_0 : w1.cell? ⟨w.heap.size + 1 + 1, 0, none⟩ = some (.bool false) := (blk_cell B2 0).trans rfl
    have kf2_0 := blk_frozen B2 0
    have kc2_1 : w1.cell? ⟨w.heap.size + 1 + 1, 1, none⟩ = some (.slice none 0 0) := (blk_cell B2 1).trans rfl
    have kf2_1 := blk_frozen B2 1
    have l2 : w.heap.size + 1 + 1 < w1.heap.size := by omega
    have n2 : w.heap.size + 1 + 1 ≠ w1.heap.size := by omega
    have B3 : w1.heap[w.heap.size + 1 + 1 + 1]? = some (.cells #[.int .i64 0, .int .i64 0] 29 (0, 0)) := blk_below (heap_at (by simp only [World.size_alloc]) _) hb
    have kc3_0 : w1.cell? ⟨w.heap.size + 1 + 1 + 1, 0, none⟩ = some (.int .i64 0) := (blk_cell B3 0).trans rfl
    have kf3_0 := blk_frozen B3 0
    have kc3_1 : w1.cell? ⟨w.heap.size + 1 + 1 + 1, 1, none⟩ = some (.int .i64 0) := (blk_cell B3 1).trans rfl
    have kf3_1 := blk_frozen B3 1
    have l3 : w.heap.size + 1 + 1 + 1 < w1.heap.size := by omega
    have n3 : w.heap.size + 1 + 1 + 1 ≠ w1.heap.size := by omega
    have HBc := Aside0.mk (below_step (below_alloc (below_alloc (below_alloc (below_alloc (Below.refl _ _) _) _) _) _) hb)
    clear hb
    by_cases hc : c < 0
    · rw [if_pos hc] at h
      have hc1 : decide (c < 0) = true := decide_eq_true hc
      clear hc
      obtain ⟨⟨s, y1, y2⟩, h2, h⟩ := Option.bind_eq_some_iff.mp h
      have H2 := Aside0.mk h2
      have H3 := Aside0.mk h
      clear h2 h
      go_wp2_with fail
      go_at_call 74
      refine (natural_Sub.calls k _ _ _ _ _ _ s y1 y2 _ (Kd.C_below R1.out ?b1) C1.out (Kd.C_below R0.out ?b2) C0.out H2.out).mono ?_
      case b1 => with_reducible repeat (first | exact HBc.out | refine below_set ?_ (by omega) | apply below_alloc)
      case b2 => with_reducible repeat (first | exact HBc.out | refine below_set ?_ (by omega) | apply below_alloc)
      rintro e w2 ⟨v0, rfl, ho, hb⟩
      have hzt := hb.size
      simp only [World.size_alloc, World.size_setCell, World.size_drew] at hzt
      have B0t : w2.heap[w.heap.size]? = some (.cells #[.bool a1_0, .slice A1_1 l1_1.length c1_1] 24 (0, 0)) := blk_below (by refine blk_alloc ?_ _; refine blk_far ?_ (by first | omega | (dsimp only; omega)) _; refine blk_far ?_ (by first | omega | (dsimp only; omega)) _; refine blk_put (cs := #[.bool a1_0, .slice A0_1 l0_1.length c0_1]) ?_ 1 _ rfl; refine blk_put (cs := #[.bool a0_0, .slice A0_1 l0_1.length c0_1]) ?_ 0 _ rfl; exact B0) hb
      have kc0_0t : w2.cell? ⟨w.heap.size, 0, none⟩ = some (.bool a1_0) := (blk_cell B0t 0).trans rfl
      have kf0_0t := blk_frozen B0t 0
      have kc0_1t : w2.cell? ⟨w.heap.size, 1, none⟩ = some (.slice A1_1 l1_1.length c1_1) := (blk_cell B0t 1).trans rfl
      have kf0_1t := blk_frozen B0t 1
      have l0t : w.heap.size < w2.heap.size := by omega
      have n0t : w.heap.size ≠ w2.heap.size := by omega
      have B2t : w2.heap[w.heap.size + 1 + 1]? = some (.cells #[.bool false, .slice none 0 0] 24 (0, 0)) := blk_below (by with_reducible refine blk_alloc ?_ _; refine blk_far ?_ ?_ _; refine blk_far ?_ ?_ _; refine blk_far ?_ ?_ _; refine blk_far ?_ ?_ _; exact B2; all_goals (first | omega | (dsimp only; omega))) hb
      have kc2_0t : w2.cell? ⟨w.heap.size + 1 + 1, 0, none⟩ = some (.bool false) := (blk_cell B2t 0).trans rfl
      have kf2_0t := blk_frozen B2t 0
      have kc2_1t : w2.cell? ⟨w.heap.size + 1 + 1, 1, none⟩ = some (.slice none 0 0) := (blk_cell B2t 1).trans rfl
      have kf2_1t := blk_frozen B2t 1
      have l2t : w.heap.size + 1 + 1 < w2.heap.size := by omega
      have n2t : w.heap.size + 1 + 1 ≠ w2.heap.size := by omega
      have B3t : w2.heap[w.heap.size + 1 + 1 + 1]? = some (.cells #[.int .i64 0, .int .i64 0] 29 (0, 0)) := blk_below (by with_reducible refine blk_alloc ?_ _; refine blk_far ?_ ?_ _; refine blk_far ?_ ?_ _; refine blk_far ?_ ?_ _; refine blk_far ?_ ?_ _; exact B3; all_goals (first | omega | (dsimp only; omega))) hb
      have kc3_0t : w2.cell? ⟨w.heap.size + 1 + 1 + 1, 0, none⟩ = some (.int .i64 0) := (blk_cell B3t 0).trans rfl
      have kf3_0t := blk_frozen B3t 0
      have kc3_1t : w2.cell? ⟨w.heap.size + 1 + 1 + 1, 1, none⟩ = some (.int .i64 0) := (blk_cell B3t 1).trans rfl
      have kf3_1t := blk_frozen B3t 1
      have l3t : w.heap.size + 1 + 1 + 1 < w2.heap.size := by omega
      have n3t : w.heap.size + 1 + 1 + 1 ≠ w2.heap.size := by omega
      have HB : Aside0 (Below w.heap.size w w2) := ⟨below_step (by with_reducible repeat (first | exact HBc.out | refine below_set ?_ (by omega) | apply below_alloc)) hb⟩
      obtain ⟨Av, cv, rfl, hl, hF⟩ := ho
      have HV := Aside0.mk (show Kd.V (Kd.int .u32) 76 w2 w.heap.size (fun k_ => w.heap.size + 1 + 1 + 1 + 1 ≤ k_) (.slice Av s.length cv) s from Kd.V_mono (Kd.V_mk hl hF) (fun k_ hk => by simp only [World.size_alloc, World.size_setCell] at hk; omega))
      clear hb hl hF
      go_wp2_with fail
      go_at_call 73
      refine (integer_signed.calls a1_0 (fun k_ => w.heap.size + 1 + 1 + 1 + 1 ≤ k_) Av cv s r1 r2 r3 r4 _ (Kd.V_alloc HV.out _) H3.out).mono ?_
      rintro e w9 ⟨v, rfl, ho, hb⟩
      obtain ⟨Aw, cw, rfl, hl, hF⟩ := ho
      have hzs := hb.size
      simp only [World.size_alloc, World.size_setCell, World.size_drew] at hzs
      have B2s : w9.heap[w.heap.size + 1 + 1]? = some (.cells #[.bool false, .slice none 0 0] 24 (0, 0)) := blk_below (blk_alloc (B2t) _) hb
      have kc2_0s : w9.cell? ⟨w.heap.size + 1 + 1, 0, none⟩ = some (.bool false) := (blk_cell B2s 0).trans rfl
      have kf2_0s := blk_frozen B2s 0
      have kc2_1s : w9.cell? ⟨w.heap.size + 1 + 1, 1, none⟩ = some (.slice none 0 0) := (blk_cell B2s 1).trans rfl
      have kf2_1s := blk_frozen B2s 1
      have l2s : w.heap.size + 1 + 1 < w9.heap.size := by omega
      have n2s : w.heap.size + 1 + 1 ≠ w9.heap.size := by omega
      have B3s : w9.heap[w.heap.size + 1 + 1 + 1]? = some (.cells #[.int .i64 0, .int .i64 0] 29 (0, 0)) := blk_below (blk_alloc (B3t) _) hb
      have kc3_0s : w9.cell? ⟨w.heap.size + 1 + 1 + 1, 0, none⟩ = some (.int .i64 0) := (blk_cell B3s 0).trans rfl
      have kf3_0s := blk_frozen B3s 0
      have kc3_1s : w9.cell? ⟨w.heap.size + 1 + 1 + 1, 1, none⟩ = some (.int .i64 0) := (blk_cell B3s 1).trans rfl
      have kf3_1s := blk_frozen B3s 1
      have l3s : w.heap.size + 1 + 1 + 1 < w9.heap.size := by omega
      have n3s : w.heap.size + 1 + 1 + 1 ≠ w9.heap.size := by omega
      have HB9 := Aside0.mk (below_step (below_alloc HB.out _) hb)
      have HV9 := Aside0.mk (show Kd.V (Kd.int .u32) 76 w9 w.heap.size (fun k_ => w.heap.size + 1 + 1 + 1 + 1 ≤ k_) (.slice Aw r2.length cw) r2 from Kd.V_mono (Kd.V_mk hl hF) (fun k_ hk => Or.elim hk id (fun hk => by simp only [World.size_alloc] at hk; omega)))
      clear hb hl hF
      go_wp2_with fail
      refine bodyPost_ret (v := .tuple #[.agg #[.bool r1, .slice Aw r2.length cw], .agg #[.int .i64 r3, .int .i64 r4]]) (by simp [results, Try.results64, go_sem, World.cell?_alloc_lt, *]) rfl ⟨_, rfl, ?_, ?_⟩
      · refine Kd.V_mono (ok := fun k_ => w.heap.size + 1 + 1 + 1 + 1 ≤ k_) ?_ (fun _ _ => by omega)
        repeat (first | exact HV9.out | refine Kd.V_far ?_ (fun k_ hk => ?_) _)
        all_goals (try (dsimp only; omega))
      · repeat (first | exact HB9.out | apply below_drew1 | refine below_set ?_ (by omega) | apply below_alloc)

    · rw [if_neg hc] at h
      have hc1 : decide (c < 0) = false := decide_eq_false hc
      clear hc
      obtain ⟨⟨s, y1, y2⟩, h2, h⟩ := Option.bind_eq_some_iff.mp h
      have H2 := Aside0.mk h2
      have H3 := Aside0.mk h
      clear h2 h
      go_wp2_with fail
      go_at_call 74
      refine (natural_Sub.calls k _ _ _ _ _ _ s y1 y2 _ (Kd.C_below R0.out (below_alloc HBc.out _)) C0.out (Kd.C_below R1.out (below_alloc HBc.out _)) C1.out H2.out).mono ?_
      rintro e w2 ⟨v0, rfl, ho, hb⟩
      have hzt := hb.size
      simp only [World.size_alloc, World.size_setCell, World.size_drew] at hzt
      have B0t : w2.heap[w.heap.size]? = some (.cells #[.bool a0_0, .slice A0_1 l0_1.length c0_1] 24 (0, 0)) := blk_below (blk_alloc (B0) _) hb
      have kc0_0t : w2.cell? ⟨w.heap.size, 0, none⟩ = some (.bool a0_0) := (blk_cell B0t 0).trans rfl
      have kf0_0t := blk_frozen B0t 0
      have kc0_1t : w2.cell? ⟨w.heap.size, 1, none⟩ = some (.slice A0_1 l0_1.length c0_1) := (blk_cell B0t 1).trans rfl
      have kf0_1t := blk_frozen B0t 1
      have l0t : w.heap.size < w2.heap.size := by omega
      have n0t : w.heap.size ≠ w2.heap.size := by omega
      have B2t : w2.heap[w.heap.size + 1 + 1]? = some (.cells #[.bool false, .slice none 0 0] 24 (0, 0)) := blk_below (blk_alloc (B2) _) hb
      have kc2_0t : w2.cell? ⟨w.heap.size + 1 + 1, 0, none⟩ = some (.bool false) := (blk_cell B2t 0).trans rfl
      have kf2_0t := blk_frozen B2t 0
      have kc2_1t : w2.cell? ⟨w.heap.size + 1 + 1, 1, none⟩ = some (.slice none 0 0) := (blk_cell B2t 1).trans rfl
      have kf2_1t := blk_frozen B2t 1
      have l2t : w.heap.size + 1 + 1 < w2.heap.size := by omega
      have n2t : w.heap.size + 1 + 1 ≠ w2.heap.size := by omega
      have B3t : w2.heap[w.heap.size + 1 + 1 + 1]? = some (.cells #[.int .i64 0, .int .i64 0] 29 (0, 0)) := blk_below (blk_alloc (B3) _) hb
      have kc3_0t : w2.cell? ⟨w.heap.size + 1 + 1 + 1, 0, none⟩ = some (.int .i64 0) := (blk_cell B3t 0).trans rfl
      have kf3_0t := blk_frozen B3t 0
      have kc3_1t : w2.cell? ⟨w.heap.size + 1 + 1 + 1, 1, none⟩ = some (.int .i64 0) := (blk_cell B3t 1).trans rfl
      have kf3_1t := blk_frozen B3t 1
      have l3t : w.heap.size + 1 + 1 + 1 < w2.heap.size := by omega
      have n3t : w.heap.size + 1 + 1 + 1 ≠ w2.heap.size := by omega
      have HB := Aside0.mk (below_step (below_alloc HBc.out _) hb)
      obtain ⟨Av, cv, rfl, hl, hF⟩ := ho
      have HV := Aside0.mk (show Kd.V (Kd.int .u32) 76 w2 w.heap.size (fun k_ => w.heap.size + 1 + 1 + 1 + 1 ≤ k_) (.slice Av s.length cv) s from Kd.V_mono (Kd.V_mk hl hF) (fun k_ hk => by simp only [World.size_alloc, World.size_setCell] at hk; omega))
      clear hb hl hF
      go_wp2_with fail
      go_at_call 73
      refine (integer_signed.calls a0_0 (fun k_ => w.heap.size + 1 + 1 + 1 + 1 ≤ k_) Av cv s r1 r2 r3 r4 _ (Kd.V_alloc HV.out _) H3.out).mono ?_
      rintro e w9 ⟨v, rfl, ho, hb⟩
      obtain ⟨Aw, cw, rfl, hl, hF⟩ := ho
      have hzs := hb.size
      simp only [World.size_alloc, World.size_setCell, World.size_drew] at hzs
      have B2s : w9.heap[w.heap.size + 1 + 1]? = some (.cells #[.bool false, .slice none 0 0] 24 (0, 0)) := blk_below (blk_alloc (B2t) _) hb
      have kc2_0s : w9.cell? ⟨w.heap.size + 1 + 1, 0, none⟩ = some (.bool false) := (blk_cell B2s 0).trans rfl
      have kf2_0s := blk_frozen B2s 0
      have kc2_1s : w9.cell? ⟨w.heap.size + 1 + 1, 1, none⟩ = some (.slice none 0 0) := (blk_cell B2s 1).trans rfl
      have kf2_1s := blk_frozen B2s 1
      have l2s : w.heap.size + 1 + 1 < w9.heap.size := by omega
      have n2s : w.heap.size + 1 + 1 ≠ w9.heap.size := by omega
      have B3s : w9.heap[w.heap.size + 1 + 1 + 1]? = some (.cells #[.int .i64 0, .int .i64 0] 29 (0, 0)) := blk_below (blk_alloc (B3t) _) hb
      have kc3_0s : w9.cell? ⟨w.heap.size + 1 + 1 + 1, 0, none⟩ = some (.int .i64 0) := (blk_cell B3s 0).trans rfl
      have kf3_0s := blk_frozen B3s 0
      have kc3_1s : w9.cell? ⟨w.heap.size + 1 + 1 + 1, 1, none⟩ = some (.int .i64 0) := (blk_cell B3s 1).trans rfl
      have kf3_1s := blk_frozen B3s 1
      have l3s : w.heap.size + 1 + 1 + 1 < w9.heap.size := by omega
      have n3s : w.heap.size + 1 + 1 + 1 ≠ w9.heap.size := by omega
      have HB9 := Aside0.mk (below_step (below_alloc HB.out _) hb)
      have HV9 := Aside0.mk (show Kd.V (Kd.int .u32) 76 w9 w.heap.size (fun k_ => w.heap.size + 1 + 1 + 1 + 1 ≤ k_) (.slice Aw r2.length cw) r2 from Kd.V_mono (Kd.V_mk hl hF) (fun k_ hk => Or.elim hk id (fun hk => by simp only [World.size_alloc] at hk; omega)))
      clear hb hl hF
      go_wp2_with fail
      refine bodyPost_ret (v := .tuple #[.agg #[.bool r1, .slice Aw r2.length cw], .agg #[.int .i64 r3, .int .i64 r4]]) (by simp [results, Try.results64, go_sem, World.cell?_alloc_lt, *]) rfl ⟨_, rfl, ?_, ?_⟩
      · refine Kd.V_mono (ok := fun k_ => w.heap.size + 1 + 1 + 1 + 1 ≤ k_) ?_ (fun _ _ => by omega)
        repeat (first | exact HV9.out | refine Kd.V_far ?_ (fun k_ hk => ?_) _)
        all_goals (try (dsimp only; omega))
      · repeat (first | exact HB9.out | apply below_drew1 | refine below_set ?_ (by omega) | apply below_alloc)


/-! ### integer_Sub: function 45 -/

def integer_Sub.f (k : Nat) (a0_0 : Bool) (l0_1 : List Int) (a1_0 : Bool) (l1_1 : List Int) : Option (Bool × List Int × Int × Int) :=
  (integer_check.f k [(⟨a0_0, l0_1⟩ : S24), (⟨a1_0, l1_1⟩ : S24)]).bind fun f => if f.1 = 0 then integer_plus.f k a0_0 l0_1 (!a1_0) l1_1 else some (false, [], f.1, f.2)
theorem integer_Sub.mono : ∀ a0 a1 a2 a3 k, LeO (integer_Sub.f k a0 a1 a2 a3) (integer_Sub.f (k + 1) a0 a1 a2 a3) := by
  intro a0 a1 a2 a3 k
  unfold integer_Sub.f
  exact LeO.bind (integer_check.mono _ _) (fun _ => LeO.ite (integer_plus.mono _ _ _ _ _) (LeO.refl _))
set_option maxHeartbeats 1000000 in
set_option maxRecDepth 100000 in
theorem integer_Sub.calls (k : Nat) (a0_0 : Bool) (A0_1 : Option Addr) (c0_1 : Nat) (l0_1 : List Int) (a1_0 : Bool) (A1_1 : Option Addr) (c1_1 : Nat) (l1_1 : List Int) (r1 : Bool) (r2 : List Int) (r3 : Int) (r4 : Int) (w : World) (hr0_1 : Kd.C (Kd.int .u32) w A0_1 l0_1.length l0_1) (hc0_1 : l0_1.length ≤ c0_1) (hr1_1 : Kd.C (Kd.int .u32) w A1_1 l1_1.length l1_1) (hc1_1 : l1_1.length ≤ c1_1) (h : integer_Sub.f k a0_0 l0_1 a1_0 l1_1 = some (r1, r2, r3, r4)) :
    Calls Try.prog 45 #[.agg #[.bool a0_0, .slice A0_1 l0_1.length c0_1], .agg #[.bool a1_0, .slice A1_1 l1_1.length c1_1]] w fun e w' => ∃ v1_ : Value, e = .returned (.tuple #[.agg #[.bool r1, v1_], .agg #[.int .i64 r3, .int .i64 r4]]) ∧ Kd.V (Kd.int .u32) 76 w' w.heap.size (fun k_ => (w.heap.size ≤ k_)) v1_ r2 ∧ Below w.heap.size w w' := by
  unfold integer_Sub.f at h
  obtain ⟨⟨f1, f2⟩, h1, h⟩ := Option.bind_eq_some_iff.mp h
  have H1 := Aside0.mk h1
  have R0 := Aside0.mk hr0_1
  have R1 := Aside0.mk hr1_1
  have C0 := Aside0.mk hc0_1
  have C1 := Aside0.mk hc1_1
  clear h1 hr0_1 hr1_1 hc0_1 hc1_1
  have hu24 := Try.underlying24
  have hu29 := Try.underlying29
  dsimp only at h
  go_enter Try.func45, Try.ntmps45
  go_wp2_with fail
  go_at_call 62
  refine (integer_check.calls k _ _ _ f1 f2 _ (Kd.C_new (cs := #[.bool a0_0, .slice A0_1 l0_1.length c0_1, .bool a1_0, .slice A1_1 l1_1.length c1_1]) (t := 24) ?hb (Reps.c2 (k24_mk _ ⟨a0_0, l0_1⟩ C0.out ?g0) (Reps.c2 (k24_mk _ ⟨a1_0, l1_1⟩ C1.out ?g1) (Reps.none _ _))) ?e1) ?e2 H1.out).mono ?_
  case e1 => simp
  case e2 => simp
  case hb => simp
  case g0 => exact Kd.C_below R0.out (below_alloc (below_alloc (below_alloc (below_alloc (below_alloc (Below.refl _ _) _) _) _) _) _)
  case g1 => exact Kd.C_below R1.out (below_alloc (below_alloc (below_alloc (below_alloc (below_alloc (Below.refl _ _) _) _) _) _) _)
  rintro e w1 ⟨rfl, hb⟩
  have hz := hb.size
  simp only [World.size_alloc] at hz
  have B0 : w1.heap[w.heap.size]? = some (.cells #[.bool a0_0, .slice A0_1 l0_1.length c0_1] 24 (0, 0)) := blk_below (blk_alloc (blk_alloc (blk_alloc (blk_alloc (heap_at (by simp only [World.size_alloc]) _) _) _) _) _) hb
  have kc0_0 : w1.cell? ⟨w.heap.size, 0, none⟩ = some (.bool a0_0) := (blk_cell B0 0).trans rfl
  have kf0_0 := blk_frozen B0 0
  have kc0_1 : w1.cell? ⟨w.heap.size, 1, none⟩ = some (.slice A0_1 l0_1.length c0_1) := (blk_cell B0 1).trans rfl
  have kf0_1 := blk_frozen B0 1
  have l0 : w.heap.size < w1.heap.size := by omega
  have n0 : w.heap.size ≠ w1.heap.size := by omega
  have B1 : w1.heap[w.heap.size + 1]? = some (.cells #[.bool a1_0, .slice A1_1 l1_1.length c1_1] 24 (0, 0)) := blk_below (blk_alloc (blk_alloc (blk_alloc (heap_at (by simp only [World.size_alloc]) _) _) _) _) hb
  have kc1_0 : w1.cell? ⟨w.heap.size + 1, 0, none⟩ = some (.bool a1_0) := (blk_cell B1 0).trans rfl
  have kf1_0 := blk_frozen B1 0
  have kc1_1 : w1.cell? ⟨w.heap.size + 1, 1, none⟩ = some (.slice A1_1 l1_1.length c1_1) := (blk_cell B1 1).trans rfl
  have kf1_1 := blk_frozen B1 1
  have l1 : w.heap.size + 1 < w1.heap.size := by omega
  have n1 : w.heap.size + 1 ≠ w1.heap.size := by omega
  have B2 : w1.heap[w.heap.size + 1 + 1]? = some (.cells #[.bool false, .slice none 0 0] 24 (0, 0)) := blk_below (blk_alloc (blk_alloc (heap_at (by simp only [World.size_alloc]) _) _) _) hb
  have kc2_0 : w1.cell? ⟨w.heap.size + 1 + 1, 0, none⟩ = some (.bool false) := (blk_cell B2 0).trans rfl
  have kf2_0 := blk_frozen B2 0
  have kc2_1 : w1.cell? ⟨w.heap.size + 1 + 1, 1, none⟩ = some (.slice none 0 0) := (blk_cell B2 1).trans rfl
  have kf2_1 := blk_frozen B2 1
  have l2 : w.heap.size + 1 + 1 < w1.heap.size := by omega
  have n2 : w.heap.size + 1 + 1 ≠ w1.heap.size := by omega
  have B3 : w1.heap[w.heap.size + 1 + 1 + 1]? = some (.cells #[.int .i64 0, .int .i64 0] 29 (0, 0)) := blk_below (blk_alloc (heap_at (by simp only [World.size_alloc]) _) _) hb
  have kc3_0 : w1.cell? ⟨w.heap.size + 1 + 1 + 1, 0, none⟩ = some (.int .i64 0) := (blk_cell B3 0).trans rfl
  have kf3_0 := blk_frozen B3 0
  have kc3_1 : w1.cell? ⟨w.heap.size + 1 + 1 + 1, 1, none⟩ = some (.int .i64 0) := (blk_cell B3 1).trans rfl
  have kf3_1 := blk_frozen B3 1
  have l3 : w.heap.size + 1 + 1 + 1 < w1.heap.size := by omega
  have n3 : w.heap.size + 1 + 1 + 1 ≠ w1.heap.size := by omega
  have HB := Aside0.mk (below_step (below_alloc (below_alloc (below_alloc (below_alloc (below_alloc (Below.refl _ _) _) _) _) _) _) hb)
  clear hb
  by_cases hf : f1 = 0
  · rw [if_pos hf] at h
    subst hf
    have H2 := Aside0.mk h
    clear h
    go_wp2_with fail
    go_at_call 64
    refine (integer_plus.calls k a0_0 _ _ _ (!a1_0) _ _ _ r1 r2 r3 r4 _ (Kd.C_below R0.out (below_alloc HB.out _)) C0.out (Kd.C_below R1.out (below_alloc HB.out _)) C1.out H2.out).mono ?_
    rintro e w2 ⟨v, rfl, ho, hb⟩
    have hzs := hb.size
    simp only [World.size_alloc, World.size_setCell, World.size_drew] at hzs
    have B2s : w2.heap[w.heap.size + 1 + 1]? = some (.cells #[.bool false, .slice none 0 0] 24 (0, 0)) := blk_below (blk_alloc (B2) _) hb
    have kc2_0s : w2.cell? ⟨w.heap.size + 1 + 1, 0, none⟩ = some (.bool false) := (blk_cell B2s 0).trans rfl
    have kf2_0s := blk_frozen B2s 0
    have kc2_1s : w2.cell? ⟨w.heap.size + 1 + 1, 1, none⟩ = some (.slice none 0 0) := (blk_cell B2s 1).trans rfl
    have kf2_1s := blk_frozen B2s 1
    have l2s : w.heap.size + 1 + 1 < w2.heap.size := by omega
    have n2s : w.heap.size + 1 + 1 ≠ w2.heap.size := by omega
    have B3s : w2.heap[w.heap.size + 1 + 1 + 1]? = some (.cells #[.int .i64 0, .int .i64 0] 29 (0, 0)) := blk_below (blk_alloc (B3) _) hb
    have kc3_0s : w2.cell? ⟨w.heap.size + 1 + 1 + 1, 0, none⟩ = some (.int .i64 0) := (blk_cell B3s 0).trans rfl
    have kf3_0s := blk_frozen B3s 0
    have kc3_1s : w2.cell? ⟨w.heap.size + 1 + 1 + 1, 1, none⟩ = some (.int .i64 0) := (blk_cell B3s 1).trans rfl
    have kf3_1s := blk_frozen B3s 1
    have l3s : w.heap.size + 1 + 1 + 1 < w2.heap.size := by omega
    have n3s : w.heap.size + 1 + 1 + 1 ≠ w2.heap.size := by omega
    obtain ⟨Av, cv, rfl, hl, hF⟩ := ho
    have HB2 := Aside0.mk (below_step (below_alloc HB.out _) hb)
    have HV := Aside0.mk (show Kd.V (Kd.int .u32) 76 w2 w.heap.size (fun k_ => w.heap.size + 1 + 1 + 1 + 1 ≤ k_) (.slice Av r2.length cv) r2 from Kd.V_mono (Kd.V_mk hl hF) (fun k_ hk => by simp only [World.size_alloc] at hk; omega))
    clear hb hl hF
    go_wp2_with fail
    refine bodyPost_ret (v := .tuple #[.agg #[.bool r1, .slice Av r2.length cv], .agg #[.int .i64 r3, .int .i64 r4]]) (by simp [results, Try.results45, go_sem, World.cell?_alloc_lt, *]) rfl ⟨_, rfl, ?_, ?_⟩
    · refine Kd.V_mono (ok := fun k_ => w.heap.size + 1 + 1 + 1 + 1 ≤ k_) ?_ (fun _ _ => by omega)
      repeat (first | exact HV.out | refine Kd.V_far ?_ (fun k_ hk => ?_) _)
      all_goals (try (dsimp only; omega))
    · repeat (first | exact HB2.out | apply below_drew1 | refine below_set ?_ (by omega) | apply below_alloc)
  · rw [if_neg hf] at h
    simp only [Option.some.injEq, Prod.mk.injEq] at h
    obtain ⟨rfl, rfl, rfl, rfl⟩ := h
    have hf1 : (f1 != 0) = true := bne_iff_ne.mpr hf
    clear hf
    go_wp2_with fail
    go_region
    go_wp2_with fail
    refine bodyPost_ret (v := .tuple #[.agg #[.bool false, .slice none 0 0], .agg #[.int .i64 f1, .int .i64 f2]]) (by simp [results, Try.results45, go_sem, World.cell?_alloc_lt, *]) rfl ⟨_, rfl, Kd.V_nil _ _ _ _ _, ?_⟩
    repeat (first | exact HB.out | apply below_drew1 | refine below_set ?_ (by omega) | apply below_alloc)

end Go.Proofs.Ytkhiohlfdkkhdaa.P
