-- Written by the session's own program wip/tools/mp.py (over the kit's print) out of the translation. Not trusted: Lean checks it.
import Derived.Test.YtkhiohlfdkkhdaaRPP0
import Derived.Test.YtkhiohlfdkkhdaaRPP2
namespace Go.Proofs.Ytkhiohlfdkkhdaa.P
open Go.RowKit Go.Proofs.YtkhiohlfdkkhdaaW.PrintWords Go.Proofs.YtkhiohlfdkkhdaaW.PrintLast Go.Proofs.YtkhiohlfdkkhdaaW.PrintMore
attribute [local go_sem] max2_int min2_int max_two min_two max_three min_three max_four min_four   -- for this text's walks alone
set_option linter.unusedVariables false
set_option linter.unusedSimpArgs false

/-! ### integer_Of: function 47 -/
mutual
def integer_Of.j0 : Nat → Int → Int → Option (Bool × List Int)
 | 0, _, _ => none
 | k + 1, x0, x3 => integer_Of.l0 k x0 (([(x3) % 4294967296, (x3 / 4294967296) % 4294967296] : List Int))
def integer_Of.l0 : Nat → Int → List Int → Option (Bool × List Int)
 | 0, _, _ => none
 | k + 1, x0, x4 => if (x4.length : Int) > 0 then (if 0 ≤ (wrap64 ((x4.length : Int) - 1)) then (if (wrap64 ((x4.length : Int) - 1)) < (x4.length : Int) then (if (rd x4 (wrap64 ((x4.length : Int) - 1))) = 0 then (if (wrap64 ((x4.length : Int) - 1)) ≤ (x4.length : Int) then (integer_Of.l0 k x0 (x4.take ((wrap64 ((x4.length : Int) - 1)) : Int).toNat)) else (none)) else (some (decide (x0 < 0), x4))) else (none)) else (none)) else (some (decide (x0 < 0), x4))
end
def integer_Of.f (k : Nat) (a0 : Int) : Option (Bool × List Int) := if a0 < 0 then (integer_Of.j0 k a0 (IntKind.u64.wrap (-(IntKind.u64.wrap (a0))))) else (integer_Of.j0 k a0 (IntKind.u64.wrap (a0)))
theorem integer_Of.mono_l : ∀ k, (∀ y0 y1, LeO (integer_Of.j0 k y0 y1) (integer_Of.j0 (k + 1) y0 y1)) ∧ (∀ y0 y1, LeO (integer_Of.l0 k y0 y1) (integer_Of.l0 (k + 1) y0 y1))
 | 0 => ⟨fun _ _ r h => by simp [integer_Of.j0] at h, fun _ _ r h => by simp [integer_Of.l0] at h⟩
 | k + 1 => by
  obtain ⟨ih0, ih1⟩ := integer_Of.mono_l k
  refine ⟨?_, ?_⟩
  ·intro y0 y1
   unfold integer_Of.j0
   repeat' first
   | (with_reducible exact ih0 _ _)
   | (with_reducible exact ih1 _ _)
   | (with_reducible exact LeO.refl _)
   | (with_reducible exact LeO.none _)
   | (with_reducible refine LeO.ite ?_ ?_)
   | (with_reducible refine LeO.bind ?_ (fun _ => ?_))
   | exact ih0 _ _
   | exact ih1 _ _
   | exact LeO.none _
   | refine LeO.ite ?_ ?_
   | refine LeO.bind ?_ (fun _ => ?_)
  ·intro y0 y1
   unfold integer_Of.l0
   repeat' first
   | (with_reducible exact ih0 _ _)
   | (with_reducible exact ih1 _ _)
   | (with_reducible exact LeO.refl _)
   | (with_reducible exact LeO.none _)
   | (with_reducible refine LeO.ite ?_ ?_)
   | (with_reducible refine LeO.bind ?_ (fun _ => ?_))
   | exact ih0 _ _
   | exact ih1 _ _
   | exact LeO.none _
   | refine LeO.ite ?_ ?_
   | refine LeO.bind ?_ (fun _ => ?_)
theorem integer_Of.mono : ∀ a0 k, LeO (integer_Of.f k a0) (integer_Of.f (k + 1) a0) := by
 intro a0 k
 obtain ⟨ih0, ih1⟩ := integer_Of.mono_l k
 unfold integer_Of.f
 repeat' first
   | (with_reducible exact ih0 _ _)
   | (with_reducible exact ih1 _ _)
   | (with_reducible exact LeO.refl _)
   | (with_reducible exact LeO.none _)
   | (with_reducible refine LeO.ite ?_ ?_)
   | (with_reducible refine LeO.bind ?_ (fun _ => ?_))
   | exact ih0 _ _
   | exact ih1 _ _
   | exact LeO.none _
   | refine LeO.ite ?_ ?_
   | refine LeO.bind ?_ (fun _ => ?_)
set_option maxHeartbeats 60000000 in
set_option maxRecDepth 100000 in
theorem integer_Of.calls (k : Nat) (a0 : Int) (r1 : Bool) (r2 : List Int) (w : World) (h : integer_Of.f k a0 = some (r1, r2)) :
  Calls Try.prog 47 #[.int .i64 a0] w fun e w' => ∃ v1_ : Value, e = .returned (.agg #[.bool r1, v1_]) ∧ Kd.R (Kd.int .u32) 76 w' w.heap.size (fun _ => True) v1_ r2 ∧ Below w.heap.size w w' := by
 have hu24 := Try.underlying24
 have HB := zM (Below.refl w.heap.size w)
 have H : (if a0 < 0 then (integer_Of.j0 k a0 (IntKind.u64.wrap (-(IntKind.u64.wrap (a0))))) else (integer_Of.j0 k a0 (IntKind.u64.wrap (a0)))) = some (r1, r2) := h
 clear h
 have HC2 := zM H
 clear H
 go_enter Try.func47, Try.ntmps47
 go_upto_if 8 with (first | ((with_reducible refine gate_dst (N := 2) rfl ?_); (try (refine gate_guard (by rfl) ?_; dsimp only)); refine box_event ?hg (N := 2) ?hd (cs := #[.bool false, .slice none 0 0]) (t := 24) ?hr ?_; (case hd => rfl); (case hg => rfl); (case hr => first | (go_simp; done) | (go_simp; rfl)); intro gb240 hg w3 hbox hb; have BK240 := zM (hbox); have GW240 := zM ((by rw [hg]; exact (below_size (HB.out)) : w.heap.size ≤ gb240)); have GE240 := GW240; replace HB := zM (below_step (HB.out) hb); clear hb hbox hg))
 (try simp only [Act.put, zS, z0, z1])
 go_cut [3] (fun v3 wc => ∃ (kq : Nat) (x3_1 : Int), v3 = .int .u64 x3_1 ∧ Aside0 (integer_Of.j0 kq a0 x3_1 = some (r1, r2)) ∧ Aside0 (kq ≤ k) ∧ Aside0 (wc.heap[gb240]? = some (.cells #[.bool false, (.slice none 0 0)] 24 (0, 0))) ∧ Aside0 (Below w.heap.size w wc))
 case first =>
  have H := HC2.out
  clear HC2
  by_cases c4 : a0 < 0
  ·rw [if_pos c4] at H
   have c4b0 : decide (a0 < 0) = true := zE c4
   clear c4
   (first | rw [c4b0] | (simp only [i64_w, i32_w]; rw [c4b0]) | skip)
   have H' := zM H
   clear H
   go_wp2
   go_meet
   case rel => exact ⟨_, (IntKind.u64.wrap (-(IntKind.u64.wrap (a0)))), (by first | rfl | (simp; done) | (simp [*]; done)), H', ⟨by first | omega | exact Nat.le_refl _⟩, ⟨by (with_reducible repeat (first | apply pzN | apply pzd | apply pza)); exact BK240.out⟩, ⟨by repeat (first | (with_reducible first | exact HB.out | apply pzA | apply pzD | apply pz1 | apply pzs | assumption) | exact HB.out)⟩⟩
  ·rw [if_neg c4] at H
   have c4b0 : decide (a0 < 0) = false := decide_eq_false c4
   clear c4
   (first | rw [c4b0] | (simp only [i64_w, i32_w]; rw [c4b0]) | skip)
   have H' := zM H
   clear H
   go_wp2
   go_meet
   case rel => exact ⟨_, (IntKind.u64.wrap (a0)), (by first | rfl | (simp; done) | (simp [*]; done)), H', ⟨by first | omega | exact Nat.le_refl _⟩, ⟨by (with_reducible repeat (first | apply pzN | apply pzd | apply pza)); exact BK240.out⟩, ⟨by repeat (first | (with_reducible first | exact HB.out | apply pzA | apply pzD | apply pz1 | apply pzs | assumption) | exact HB.out)⟩⟩
 case rest =>
  clear HC2
  try clear p2
  try clear c4
  try clear c4b0
  obtain ⟨kq, x3_1, rfl, HA, HJ1, BK240, HB⟩ := hcut
  cases kq with
  | zero => exact absurd HA.out (by simp [integer_Of.j0])
  | succ kj1 =>
   have H := HA.out
   clear HA
   simp only [integer_Of.j0] at H
   obtain ⟨y241, hy241⟩ : ∃ y_ : List Int, y_ = (([(x3_1) % 4294967296, (x3_1 / 4294967296) % 4294967296] : List Int)) := ⟨_, rfl⟩
   replace H : (integer_Of.l0 kj1 a0 y241) = some (r1, r2) := by first | (rw [hy241]; with_reducible exact H) | (have H2_ := (Option.bind_some _ _).symm.trans H; rw [hy241]; with_reducible exact H2_) | (have H2_ := (Option.bind_some _ _).symm.trans H; with_reducible exact H2_) | with_reducible exact H | (rw [hy241]; exact H) | exact H
   have Ny241 := zM hy241
   clear hy241
   have H' := zM H
   clear H
   go_wp2_with (first | ((with_reducible refine gate_dst (N := 16) rfl ?_); (try (refine gate_guard (by rfl) ?_; dsimp only)); refine Kd.R_lit (Kd.int .u32) _ 76 ?hg (N := 16) ?hd (xs := ([(x3_1) % 4294967296, (x3_1 / 4294967296) % 4294967296] : List Int)) (inner := [.int .u32 ((x3_1) % 4294967296), .int .u32 ((x3_1 / 4294967296) % 4294967296)]) (ok := fun _ => True) (okp := fun _ => True) ?hr ?hp (fun _ hk => hk) trivial (Below.refl _ _) (Nat.le_refl _) (by simp) ?_; (case hd => rfl); (case hg => rfl); (case hr => first | (go_simp; done) | (go_simp; rfl) | (go_simp; simp only [mp_u32, mp_u8, mp_w32, mp_w8]; first | done | rfl)); (case hp => exact (Reps.one (show Kd.M (Kd.int .u32) _ _ _ ((x3_1) % 4294967296) [.int .u32 ((x3_1) % 4294967296)] from rfl) (Reps.one (show Kd.M (Kd.int .u32) _ _ _ ((x3_1 / 4294967296) % 4294967296) [.int .u32 ((x3_1 / 4294967296) % 4294967296)] from rfl) (Reps.none _ _)))); intro v242 w5 ho6 hb hg_ hnew_; clear hg_ hnew_; (first | rw [← Ny241.out] at ho6 | (simp only [Int.reduceToNat] at ho6; rw [← Ny241.out] at ho6)); have HO243 := zM (Kd.R_lower ho6 (below_size (by repeat (first | (with_reducible first | exact HB.out | apply pzA | apply pzD | apply pz1 | apply pzs | assumption) | exact HB.out)))); replace BK240 := pzb BK240 hb; replace HB := zM (below_step (by repeat (first | (with_reducible first | exact HB.out | apply pzA | apply pzD | apply pz1 | apply pzs | assumption) | exact HB.out)) hb); clear hb ho6))
   go_loopg [4] kj1 (fun kq v4 w' => ∃ (x4_2 : List Int), Aside0 (integer_Of.l0 kq a0 x4_2 = some (r1, r2)) ∧ Aside0 (kq ≤ kj1) ∧ Aside0 (Kd.R (Kd.int .u32) 76 w' w.heap.size (fun _ => True) v4 x4_2) ∧ Aside0 (w'.heap[gb240]? = some (.cells #[.bool false, (.slice none 0 0)] 24 (0, 0))) ∧ Aside0 (Below w.heap.size w w'))
   case atStart => exact ⟨(y241), H', ⟨Nat.le_refl _⟩, ⟨by (with_reducible repeat (first | apply Kd.R_alloc | apply Kd.R_drewN | apply Kd.R_drew)); exact HO243.out⟩, ⟨by (with_reducible repeat (first | apply pzN | apply pzd | apply pza)); exact BK240.out⟩, ⟨by repeat (first | (with_reducible first | exact HB.out | apply pzA | apply pzD | apply pz1 | apply pzs | assumption) | exact HB.out)⟩⟩
   case round =>
    clear H'
    try clear p2
    try clear c4
    try clear c4b0
    try clear p2
    obtain ⟨x4_2, HA, HK2, HO_4, BK240, HB⟩ := hrel
    cases gk with
    | zero => exact absurd HA.out (by simp [integer_Of.l0])
    | succ k2 =>
     have H := HA.out
     clear HA
     simp only [integer_Of.l0] at H
     by_cases c7 : (x4_2.length : Int) > 0
     ·rw [if_pos c7] at H
      have c7b0 : decide (0 < (x4_2.length : Int)) = true := zE c7
      have c7b1 : decide (0 < x4_2.length) = true := zE (by omega)
      clear c7
      obtain ⟨ji8, hji8⟩ : ∃ j_ : Int, (wrap64 ((x4_2.length : Int) - 1)) = j_ := ⟨_, rfl⟩
      replace H : (if 0 ≤ (ji8) then (if (ji8) < (x4_2.length : Int) then (if (rd x4_2 (ji8)) = 0 then (if (ji8) ≤ (x4_2.length : Int) then (integer_Of.l0 k2 a0 (x4_2.take ((ji8) : Int).toNat)) else (none)) else (some (decide (a0 < 0), x4_2))) else (none)) else (none)) = some (r1, r2) := by first | (rw [hji8] at H; exact H) | (simp only [hji8] at H ⊢; exact H)
      have hji8w : (IntKind.i64.wrap ((x4_2.length : Int) - 1)) = ji8 := (i64_w _).trans hji8
      by_cases c9 : 0 ≤ (ji8)
      ·rw [if_pos c9] at H
       have c9b0 : decide (0 ≤ (ji8)) = true := zE c9
       clear c9
       by_cases c10 : (ji8) < (x4_2.length : Int)
       ·rw [if_pos c10] at H
        have c10b0 : decide ((ji8) < (x4_2.length : Int)) = true := zE c10
        clear c10
        by_cases c11 : (rd x4_2 (ji8)) = 0
        ·rw [if_pos c11] at H
         have c11b0 : ((rd x4_2 (ji8)) == 0) = true := beq_iff_eq.mpr c11
         have c11b1 : ((rd x4_2 (ji8)) != 0) = false := bne_eq_false_iff_eq.mpr c11
         clear c11
         by_cases c12 : (ji8) ≤ (x4_2.length : Int)
         ·rw [if_pos c12] at H
          have c12b0 := eq_true c12
          have c12b1 : decide ((ji8) ≤ (x4_2.length : Int)) = true := zE c12
          clear c12
          obtain ⟨y245, hy245⟩ : ∃ y_ : List Int, y_ = (x4_2.take ((ji8) : Int).toNat) := ⟨_, rfl⟩
          replace H : (integer_Of.l0 k2 a0 y245) = some (r1, r2) := by first | (rw [hy245]; with_reducible exact H) | (have H2_ := (Option.bind_some _ _).symm.trans H; rw [hy245]; with_reducible exact H2_) | (have H2_ := (Option.bind_some _ _).symm.trans H; with_reducible exact H2_) | with_reducible exact H | (rw [hy245]; exact H) | exact H
          have Ny245 := zM hy245
          clear hy245
          have H' := zM H
          clear H
          obtain ⟨Ao13, co13, eo13⟩ := Kd.R_slice HO_4.out
          subst eo13
          have p244 : 0 ≤ ((ji8) : Int) := zD (by first | (with_reducible assumption) | assumption)
          have q244 : (ji8) < (x4_2.length : Int) := zD (by first | (with_reducible assumption) | assumption)
          obtain ⟨ad244, e244, hx244_0⟩ := Kd.at_int (Kd.R_reads' HO_4.out).2.2 (ji8) p244 q244
          cases e244
          replace p244 := eq_true p244
          replace q244 := eq_true q244
          have q14 : ((ji8) : Int) ≤ ((x4_2.length : Int) : Int) := zD (by first | (with_reducible assumption) | assumption)
          obtain ⟨i014, hi014, _, hsz14, _⟩ := info_parts info76
          have hcut14 := cut_to (P := Try.prog) 22 76 .i64 Try.underlying22 hi014 (some ad244) x4_2.length co13 (ji8) (zD (by first | (with_reducible assumption) | assumption)) q14 (Kd.R_reads' HO_4.out).2.1
          have hr14 := Kd.R_take (m := ((ji8) : Int).toNat) HO_4.out (by omega)
          have hy14 : y245.length = ((ji8) : Int).toNat := (by rw [Ny245.out, zL]; omega)
          rw [← Ny245.out] at hr14
          rw [← hy14] at hr14 hcut14
          clear hy14 hi014 hsz14 HO_4
          have HO247 := zM hr14
          clear hr14
          replace q14 := eq_true q14
          go_wp2
          go_roundg k2
          case measure => have := HJ1.out; have := HK2.out; omega
          case rel => exact ⟨(y245), H', ⟨by have := HJ1.out; have := HK2.out; omega⟩, ⟨by (with_reducible repeat (first | apply Kd.R_alloc | apply Kd.R_drewN | apply Kd.R_drew)); exact HO247.out⟩, ⟨by (with_reducible repeat (first | apply pzN | apply pzd | apply pza)); exact BK240.out⟩, ⟨by repeat (first | (with_reducible first | exact HB.out | apply pzA | apply pzD | apply pz1 | apply pzs | assumption) | exact HB.out)⟩⟩
         ·rw [if_neg c12] at H
          exact absurd H (by simp)
        ·rw [if_neg c11] at H
         have c11b0 : ((rd x4_2 (ji8)) == 0) = false := beq_eq_false_iff_ne.mpr c11
         have c11b1 : ((rd x4_2 (ji8)) != 0) = true := bne_iff_ne.mpr c11
         simp only [Option.some.injEq, Prod.mk.injEq] at H
         obtain ⟨rfl, rfl⟩ := H
         obtain ⟨Ao15, co15, eo15⟩ := Kd.R_slice HO_4.out
         subst eo15
         have p244 : 0 ≤ ((ji8) : Int) := zD (by first | (with_reducible assumption) | assumption)
         have q244 : (ji8) < (x4_2.length : Int) := zD (by first | (with_reducible assumption) | assumption)
         obtain ⟨ad244, e244, hx244_0⟩ := Kd.at_int (Kd.R_reads' HO_4.out).2.2 (ji8) p244 q244
         cases e244
         replace p244 := eq_true p244
         replace q244 := eq_true q244
         have hcz16_0 := pzc (v := .bool false) BK240 0 rfl
         have hcz16_1 := pzc (v := .slice none 0 0) BK240 1 rfl
         have hfz16_0 := zF BK240.out 0
         have hfz16_1 := zF BK240.out 1
         go_wp2
         refine bodyPost_ret (results_cell_row rfl _ _ gb240 24 #[.bool (decide (a0 < 0)), .slice (some ad244) x4_2.length co15] (0, 0) _ rfl (by (with_reducible repeat (first | apply pzN | apply pzd | apply pza)); refine blk_put (cs := #[.bool (decide (a0 < 0)), .slice none 0 0]) ?_ 1 _ rfl; (with_reducible repeat (first | apply pzN | apply pzd | apply pza)); refine blk_put (cs := #[.bool false, .slice none 0 0]) ?_ 0 _ rfl; (with_reducible repeat (first | apply pzN | apply pzd | apply pza)); exact BK240.out) Try.underlying24 rfl (by kernel_rfl)) rfl ?_
         exact ⟨_, by first | rfl | (simp [errW_none, errW_some] <;> rfl) | (simp only [← hji8]; first | rfl | (simp [errW_none, errW_some] <;> rfl)) | (simp [*, errW_none, errW_some] <;> rfl), by (with_reducible repeat (first | apply Kd.R_alloc | apply Kd.R_drewN | apply Kd.R_drew)); exact Kd.R_mono (Kd.R_far (p := ⟨gb240, 1, none⟩) (Kd.R_far (p := ⟨gb240, 0, none⟩) (Kd.R_types HO_4.out BK240.out (by decide)) (fun _ hk => hk.2) (.bool (decide (a0 < 0)))) (fun _ hk => hk.2) (.slice (some ad244) x4_2.length co15)) (fun _ hk => trivial), by repeat (first | (with_reducible first | exact HB.out | apply pzA | apply pzD | apply pz1 | apply pzs | assumption) | exact HB.out)⟩
       ·rw [if_neg c10] at H
        exact absurd H (by simp)
      ·rw [if_neg c9] at H
       exact absurd H (by simp)
     ·rw [if_neg c7] at H
      have c7b0 : decide (0 < (x4_2.length : Int)) = false := decide_eq_false c7
      have c7b1 : decide (0 < x4_2.length) = false := decide_eq_false (by omega)
      clear c7
      simp only [Option.some.injEq, Prod.mk.injEq] at H
      obtain ⟨rfl, rfl⟩ := H
      obtain ⟨Ao17, co17, eo17⟩ := Kd.R_slice HO_4.out
      subst eo17
      have hcz18_0 := pzc (v := .bool false) BK240 0 rfl
      have hcz18_1 := pzc (v := .slice none 0 0) BK240 1 rfl
      have hfz18_0 := zF BK240.out 0
      have hfz18_1 := zF BK240.out 1
      go_wp2
      refine bodyPost_ret (results_cell_row rfl _ _ gb240 24 #[.bool (decide (a0 < 0)), .slice Ao17 x4_2.length co17] (0, 0) _ rfl (by (with_reducible repeat (first | apply pzN | apply pzd | apply pza)); refine blk_put (cs := #[.bool (decide (a0 < 0)), .slice none 0 0]) ?_ 1 _ rfl; (with_reducible repeat (first | apply pzN | apply pzd | apply pza)); refine blk_put (cs := #[.bool false, .slice none 0 0]) ?_ 0 _ rfl; (with_reducible repeat (first | apply pzN | apply pzd | apply pza)); exact BK240.out) Try.underlying24 rfl (by kernel_rfl)) rfl ?_
      exact ⟨_, by first | rfl | (simp [errW_none, errW_some] <;> rfl) | (simp [*, errW_none, errW_some] <;> rfl), by (with_reducible repeat (first | apply Kd.R_alloc | apply Kd.R_drewN | apply Kd.R_drew)); exact Kd.R_mono (Kd.R_far (p := ⟨gb240, 1, none⟩) (Kd.R_far (p := ⟨gb240, 0, none⟩) (Kd.R_types HO_4.out BK240.out (by decide)) (fun _ hk => hk.2) (.bool (decide (a0 < 0)))) (fun _ hk => hk.2) (.slice Ao17 x4_2.length co17)) (fun _ hk => trivial), by repeat (first | (with_reducible first | exact HB.out | apply pzA | apply pzD | apply pz1 | apply pzs | assumption) | exact HB.out)⟩

/-! ### bits_Len32: function 77 -/
def bits_Len32.f (a0 : Int) : Option Int := if 0 ≤ a0 ∧ a0 ≤ 4294967295 then some (Lib.bitLen a0.toNat : Int) else none
theorem bits_Len32.calls (a0 : Int) (r : Int) (w : World) (h : bits_Len32.f a0 = some r) :
    Calls Try.prog 77 #[.int .u32 a0] w fun e w' => e = .returned (.int .i64 r) ∧ Drawn0 w w' := by
  unfold bits_Len32.f at h
  by_cases hb : 0 ≤ a0 ∧ a0 ≤ 4294967295
  · rw [if_pos hb] at h
    obtain rfl := Option.some.inj h
    refine (Try.bits_Len32 a0 w hb.1 hb.2).mono ?_
    rintro e w' ⟨rfl, rfl⟩
    exact ⟨rfl, Drawn0.refl _⟩
  · rw [if_neg hb] at h
    cases h

/-! ### natural_Bits: function 68 -/
def natural_Bits.f (l0 : List Int) : Option (Int × Int × Int) := (natural_Valid.f l0).bind fun t249 => (if t249 = true then (if (l0.length : Int) = 0 then (some (0, 0, 0)) else (if 0 ≤ (wrap64 ((l0.length : Int) - 1)) then (if (wrap64 ((l0.length : Int) - 1)) < (l0.length : Int) then ((bits_Len32.f (rd l0 (wrap64 ((l0.length : Int) - 1)))).bind fun t251 => (some (wrap64 ((wrap64 (32 * (wrap64 ((l0.length : Int) - 1)))) + t251), 0, 0))) else (none)) else (none))) else ((natural_at.f 6 (-1)).bind fun bt252 => (some (0, bt252.1, bt252.2))))
set_option maxHeartbeats 60000000 in
set_option maxRecDepth 100000 in
theorem natural_Bits.calls (A0 : Option Addr) (c0 : Nat) (l0 : List Int) (r1 : Int) (r2 : Int) (r3 : Int) (w : World) (hr0 : Kd.C (Kd.int .u32) w A0 l0.length l0) (hc0 : l0.length ≤ c0) (h : natural_Bits.f l0 = some (r1, r2, r3)) :
  Calls Try.prog 68 #[.slice A0 l0.length c0] w fun e w' => e = .returned (.tuple #[.int .i64 r1, .agg #[.int .i64 r2, .int .i64 r3]]) ∧ Below w.heap.size w w' := by
 have hu29 := Try.underlying29
 have HR0 := zM hr0
 have HC0 := zM hc0
 clear hr0 hc0
 have HB := zM (Below.refl w.heap.size w)
 have H : ((natural_Valid.f l0).bind fun t249 => (if t249 = true then (if (l0.length : Int) = 0 then (some (0, 0, 0)) else (if 0 ≤ (wrap64 ((l0.length : Int) - 1)) then (if (wrap64 ((l0.length : Int) - 1)) < (l0.length : Int) then ((bits_Len32.f (rd l0 (wrap64 ((l0.length : Int) - 1)))).bind fun t251 => (some (wrap64 ((wrap64 (32 * (wrap64 ((l0.length : Int) - 1)))) + t251), 0, 0))) else (none)) else (none))) else ((natural_at.f 6 (-1)).bind fun bt252 => (some (0, bt252.1, bt252.2))))) = some (r1, r2, r3) := h
 clear h
 replace H := zB H
 obtain ⟨t249, A20, H⟩ := H
 replace H : (if t249 = true then (if (l0.length : Int) = 0 then (some (0, 0, 0)) else (if 0 ≤ (wrap64 ((l0.length : Int) - 1)) then (if (wrap64 ((l0.length : Int) - 1)) < (l0.length : Int) then ((bits_Len32.f (rd l0 (wrap64 ((l0.length : Int) - 1)))).bind fun t251 => (some (wrap64 ((wrap64 (32 * (wrap64 ((l0.length : Int) - 1)))) + t251), 0, 0))) else (none)) else (none))) else ((natural_at.f 6 (-1)).bind fun bt252 => (some (0, bt252.1, bt252.2)))) = some (r1, r2, r3) := H
 have A2 := zM A20
 clear A20
 by_cases c3 : t249 = true
 ·subst c3
  have H1 : (if (l0.length : Int) = 0 then (some (0, 0, 0)) else (if 0 ≤ (wrap64 ((l0.length : Int) - 1)) then (if (wrap64 ((l0.length : Int) - 1)) < (l0.length : Int) then ((bits_Len32.f (rd l0 (wrap64 ((l0.length : Int) - 1)))).bind fun t251 => (some (wrap64 ((wrap64 (32 * (wrap64 ((l0.length : Int) - 1)))) + t251), 0, 0))) else (none)) else (none))) = some (r1, r2, r3) := by rw [if_pos rfl] at H; exact H
  clear H
  have H := H1
  clear H1
  by_cases c4 : (l0.length : Int) = 0
  ·rw [if_pos c4] at H
   have c4b0 : ((l0.length : Int) == 0) = true := beq_iff_eq.mpr c4
   have c4b1 : ((l0.length : Int) != 0) = false := bne_eq_false_iff_eq.mpr c4
   clear c4
   simp only [Option.some.injEq, Prod.mk.injEq] at H
   obtain ⟨rfl, rfl, rfl⟩ := H
   go_enter Try.func68, Try.ntmps68
   go_wp2_with (first | ((with_reducible refine gate_dst (N := 3) rfl ?_); refine box_event ?hg (N := 3) ?hd (cs := #[.int .i64 0, .int .i64 0]) (t := 29) ?hr ?_; (case hd => rfl); (case hg => rfl); (case hr => first | (go_simp; done) | (go_simp; rfl)); intro gb248 hg w5 hbox hb; have BK248 := zM (hbox); have GW248 := zM ((by rw [hg]; exact (below_size (HB.out)) : w.heap.size ≤ gb248)); have GE248 := GW248; replace HB := zM (below_step (HB.out) hb); clear hb hbox hg) | ((with_reducible refine gate_callee (f := 75) rfl ?_); refine goesL_ (some 5) rfl rfl Try.func75 (by kernel_rfl) rfl #[.slice A0 l0.length c0] rfl (by (try simp only [zT, zC, zN]); first | done | rfl | (simp only [zR, zL]; rfl)) ?_; (with_reducible refine (natural_Valid.calls _ _ l0 true _ ?side1 ?side2 A2.out).mono ?_); (case side1 => repeat (first | exact (Kd.C_below HR0.out HB.out) | (with_reducible refine Kd.C_alloc ?_ _) | (with_reducible refine Kd.C_drewN ?_ _) | (with_reducible refine Kd.C_drew ?_))); (case side2 => exact HC0.out); rintro e w' ⟨rfl, ⟨nd, rfl⟩⟩; refine ⟨_, rfl, ?_⟩; (try (rw [drewN_self w5]; generalize hq_ : World.drewN w5 _ = w5; have n0_ : Aside0 (w5.heap[gb248]? = some (.cells #[.int .i64 0, .int .i64 0] 29 (0, 0))) := ⟨by rw [← hq_]; exact BK248.out⟩; have n1_ : Aside0 (Below w.heap.size w w5) := ⟨by rw [← hq_]; exact (by repeat (first | (with_reducible first | exact HB.out | apply pzA | apply pzD | apply pz1 | apply pzs | assumption) | exact HB.out))⟩; clear BK248 HB hq_; have BK248 := n0_; have HB := n1_; clear n0_ n1_)); have hcz6_0 := pzc (v := .int .i64 0) BK248 0 rfl; have hcz6_1 := pzc (v := .int .i64 0) BK248 1 rfl; have hfz6_0 := zF BK248.out 0; have hfz6_1 := zF BK248.out 1))
   refine bodyPost_ret (results_tc rfl _ _ gb248 29 #[.int .i64 0, .int .i64 0] (0, 0) _ rfl (by (with_reducible repeat (first | apply pzN | apply pzd | apply pza)); refine blk_put (cs := #[.int .i64 0, .int .i64 0]) ?_ 1 _ rfl; (with_reducible repeat (first | apply pzN | apply pzd | apply pza)); refine blk_put (cs := #[.int .i64 0, .int .i64 0]) ?_ 0 _ rfl; (with_reducible repeat (first | apply pzN | apply pzd | apply pza)); exact BK248.out) Try.underlying29 rfl (by kernel_rfl)) rfl ?_
   exact ⟨by first | rfl | (simp [errW_none, errW_some] <;> rfl) | (simp [*, errW_none, errW_some] <;> rfl), by repeat (first | (with_reducible first | exact HB.out | apply pzA | apply pzD | apply pz1 | apply pzs | assumption) | exact HB.out)⟩
  ·rw [if_neg c4] at H
   have c4b0 : ((l0.length : Int) == 0) = false := beq_eq_false_iff_ne.mpr c4
   have c4b1 : ((l0.length : Int) != 0) = true := bne_iff_ne.mpr c4
   have c4b2 : ¬ (l0 = []) := fun h_ => c4 (by rw [h_]; rfl)
   obtain ⟨ji7, hji7⟩ : ∃ j_ : Int, (wrap64 ((l0.length : Int) - 1)) = j_ := ⟨_, rfl⟩
   replace H : (if 0 ≤ (ji7) then (if (ji7) < (l0.length : Int) then ((bits_Len32.f (rd l0 (ji7))).bind fun t251 => (some (wrap64 ((wrap64 (32 * (ji7))) + t251), 0, 0))) else (none)) else (none)) = some (r1, r2, r3) := by first | (rw [hji7] at H; exact H) | (simp only [hji7] at H ⊢; exact H)
   (try rw [hji7] at A2)
   have hji7w : (IntKind.i64.wrap ((l0.length : Int) - 1)) = ji7 := (i64_w _).trans hji7
   by_cases c8 : 0 ≤ (ji7)
   ·rw [if_pos c8] at H
    have c8b0 : decide (0 ≤ (ji7)) = true := zE c8
    clear c8
    by_cases c9 : (ji7) < (l0.length : Int)
    ·rw [if_pos c9] at H
     have c9b0 : decide ((ji7) < (l0.length : Int)) = true := zE c9
     clear c9
     replace H := zB H
     obtain ⟨t251, A100, H⟩ := H
     replace H : (some (wrap64 ((wrap64 (32 * (ji7))) + t251), 0, 0)) = some (r1, r2, r3) := H
     have A10 := zM A100
     clear A100
     simp only [Option.some.injEq, Prod.mk.injEq] at H
     obtain ⟨rfl, rfl, rfl⟩ := H
     go_enter Try.func68, Try.ntmps68
     go_wp2_with (first | ((with_reducible refine gate_dst (N := 3) rfl ?_); refine box_event ?hg (N := 3) ?hd (cs := #[.int .i64 0, .int .i64 0]) (t := 29) ?hr ?_; (case hd => rfl); (case hg => rfl); (case hr => first | (go_simp; done) | (go_simp; rfl)); intro gb248 hg w11 hbox hb; have BK248 := zM (hbox); have GW248 := zM ((by rw [hg]; exact (below_size (HB.out)) : w.heap.size ≤ gb248)); have GE248 := GW248; replace HB := zM (below_step (HB.out) hb); clear hb hbox hg) | ((with_reducible refine gate_callee (f := 75) rfl ?_); refine goesL_ (some 5) rfl rfl Try.func75 (by kernel_rfl) rfl #[.slice A0 l0.length c0] rfl (by (try simp only [zT, zC, zN]); first | done | rfl | (simp only [zR, zL]; rfl)) ?_; (with_reducible refine (natural_Valid.calls _ _ l0 true _ ?side1 ?side2 A2.out).mono ?_); (case side1 => repeat (first | exact (Kd.C_below HR0.out HB.out) | (with_reducible refine Kd.C_alloc ?_ _) | (with_reducible refine Kd.C_drewN ?_ _) | (with_reducible refine Kd.C_drew ?_))); (case side2 => exact HC0.out); rintro e w' ⟨rfl, ⟨nd, rfl⟩⟩; refine ⟨_, rfl, ?_⟩; (try (rw [drewN_self w11]; generalize hq_ : World.drewN w11 _ = w11; have n0_ : Aside0 (w11.heap[gb248]? = some (.cells #[.int .i64 0, .int .i64 0] 29 (0, 0))) := ⟨by rw [← hq_]; exact BK248.out⟩; have n1_ : Aside0 (Below w.heap.size w w11) := ⟨by rw [← hq_]; exact (by repeat (first | (with_reducible first | exact HB.out | apply pzA | apply pzD | apply pz1 | apply pzs | assumption) | exact HB.out))⟩; clear BK248 HB hq_; have BK248 := n0_; have HB := n1_; clear n0_ n1_)); have p250 : 0 ≤ ((ji7) : Int) := zD (by first | (with_reducible assumption) | assumption); have q250 : (ji7) < (l0.length : Int) := zD (by first | (with_reducible assumption) | assumption); obtain ⟨ad250, e250, hx250_0⟩ := Kd.at_int HR0.out (ji7) p250 q250; cases e250; replace hx250_0 := (HB.out.cell (World.block_lt_of_cell? w _ hx250_0)).trans hx250_0; replace p250 := eq_true p250; replace q250 := eq_true q250) | ((with_reducible refine gate_callee (f := 77) rfl ?_); refine goesL_ (some 22) rfl rfl Try.func77 (by kernel_rfl) rfl #[.int .u32 (rd l0 (ji7))] rfl (by (try simp only [zT, zC, zN]); first | done | (simp only [hji7]; rfl) | rfl | (simp only [zR, zL]; rfl)) ?_; (with_reducible refine (bits_Len32.calls (rd l0 (ji7)) t251 _ A10.out).mono ?_); rintro e w' ⟨rfl, ⟨nd, rfl⟩⟩; refine ⟨_, rfl, ?_⟩; (try (rw [drewN_self w11]; generalize hq_ : World.drewN w11 _ = w11; have n0_ : Aside0 (w11.heap[gb248]? = some (.cells #[.int .i64 0, .int .i64 0] 29 (0, 0))) := ⟨by rw [← hq_]; exact BK248.out⟩; have n1_ : Aside0 (Below w.heap.size w w11) := ⟨by rw [← hq_]; exact (by repeat (first | (with_reducible first | exact HB.out | apply pzA | apply pzD | apply pz1 | apply pzs | assumption) | exact HB.out))⟩; clear BK248 HB hq_; have BK248 := n0_; have HB := n1_; clear n0_ n1_)); have hcz12_0 := pzc (v := .int .i64 0) BK248 0 rfl; have hcz12_1 := pzc (v := .int .i64 0) BK248 1 rfl; have hfz12_0 := zF BK248.out 0; have hfz12_1 := zF BK248.out 1))
     refine bodyPost_ret (results_tc rfl _ _ gb248 29 #[.int .i64 0, .int .i64 0] (0, 0) _ rfl (by (with_reducible repeat (first | apply pzN | apply pzd | apply pza)); refine blk_put (cs := #[.int .i64 0, .int .i64 0]) ?_ 1 _ rfl; (with_reducible repeat (first | apply pzN | apply pzd | apply pza)); refine blk_put (cs := #[.int .i64 0, .int .i64 0]) ?_ 0 _ rfl; (with_reducible repeat (first | apply pzN | apply pzd | apply pza)); exact BK248.out) Try.underlying29 rfl (by kernel_rfl)) rfl ?_
     exact ⟨by first | rfl | (simp [errW_none, errW_some] <;> rfl) | (simp only [← hji7]; first | rfl | (simp [errW_none, errW_some] <;> rfl)) | (simp [*, errW_none, errW_some] <;> rfl), by repeat (first | (with_reducible first | exact HB.out | apply pzA | apply pzD | apply pz1 | apply pzs | assumption) | exact HB.out)⟩
    ·rw [if_neg c9] at H
     exact absurd H (by simp)
   ·rw [if_neg c8] at H
    exact absurd H (by simp)
 ·replace c3 := Bool.eq_false_iff.mpr c3
  subst c3
  have H1 : ((natural_at.f 6 (-1)).bind fun bt252 => (some (0, bt252.1, bt252.2))) = some (r1, r2, r3) := by rw [if_neg (show ¬ (false = true) by decide)] at H; exact H
  clear H
  have H := H1
  clear H1
  replace H := zB H
  obtain ⟨⟨t252, t253⟩, A130, H⟩ := H
  replace H : (some (0, t252, t253)) = some (r1, r2, r3) := H
  have A13 := zM A130
  clear A130
  simp only [Option.some.injEq, Prod.mk.injEq] at H
  obtain ⟨rfl, rfl, rfl⟩ := H
  go_enter Try.func68, Try.ntmps68
  go_wp2_with (first | ((with_reducible refine gate_dst (N := 3) rfl ?_); refine box_event ?hg (N := 3) ?hd (cs := #[.int .i64 0, .int .i64 0]) (t := 29) ?hr ?_; (case hd => rfl); (case hg => rfl); (case hr => first | (go_simp; done) | (go_simp; rfl)); intro gb248 hg w14 hbox hb; have BK248 := zM (hbox); have GW248 := zM ((by rw [hg]; exact (below_size (HB.out)) : w.heap.size ≤ gb248)); have GE248 := GW248; replace HB := zM (below_step (HB.out) hb); clear hb hbox hg) | ((with_reducible refine gate_callee (f := 75) rfl ?_); refine goesL_ (some 5) rfl rfl Try.func75 (by kernel_rfl) rfl #[.slice A0 l0.length c0] rfl (by (try simp only [zT, zC, zN]); first | done | rfl | (simp only [zR, zL]; rfl)) ?_; (with_reducible refine (natural_Valid.calls _ _ l0 false _ ?side1 ?side2 A2.out).mono ?_); (case side1 => repeat (first | exact (Kd.C_below HR0.out HB.out) | (with_reducible refine Kd.C_alloc ?_ _) | (with_reducible refine Kd.C_drewN ?_ _) | (with_reducible refine Kd.C_drew ?_))); (case side2 => exact HC0.out); rintro e w' ⟨rfl, ⟨nd, rfl⟩⟩; refine ⟨_, rfl, ?_⟩; (try (rw [drewN_self w14]; generalize hq_ : World.drewN w14 _ = w14; have n0_ : Aside0 (w14.heap[gb248]? = some (.cells #[.int .i64 0, .int .i64 0] 29 (0, 0))) := ⟨by rw [← hq_]; exact BK248.out⟩; have n1_ : Aside0 (Below w.heap.size w w14) := ⟨by rw [← hq_]; exact (by repeat (first | (with_reducible first | exact HB.out | apply pzA | apply pzD | apply pz1 | apply pzs | assumption) | exact HB.out))⟩; clear BK248 HB hq_; have BK248 := n0_; have HB := n1_; clear n0_ n1_))) | ((with_reducible refine gate_callee (f := 76) rfl ?_); refine goesL_ (some 7) rfl rfl Try.func76 (by kernel_rfl) rfl #[.int .i64 6, .int .i64 (-1)] rfl (by (try simp only [zT, zC, zN]); first | done | rfl | (simp only [zR, zL]; rfl)) ?_; (with_reducible refine (natural_at.calls 6 (-1) t252 t253 _ A13.out).mono ?_); rintro e w15 ⟨rfl, hb⟩; refine ⟨_, rfl, ?_⟩; replace BK248 := pzb BK248 hb; replace HB := zM (below_step (by repeat (first | (with_reducible first | exact HB.out | apply pzA | apply pzD | apply pz1 | apply pzs | assumption) | exact HB.out)) hb); (try clear hb); (try clear hb2); (try clear hk); (try clear hi); have hcz16_0 := pzc (v := .int .i64 0) BK248 0 rfl; have hcz16_1 := pzc (v := .int .i64 0) BK248 1 rfl; have hfz16_0 := zF BK248.out 0; have hfz16_1 := zF BK248.out 1))
  refine bodyPost_ret (results_tc rfl _ _ gb248 29 #[.int .i64 t252, .int .i64 t253] (0, 0) _ rfl (by (with_reducible repeat (first | apply pzN | apply pzd | apply pza)); refine blk_put (cs := #[.int .i64 t252, .int .i64 0]) ?_ 1 _ rfl; (with_reducible repeat (first | apply pzN | apply pzd | apply pza)); refine blk_put (cs := #[.int .i64 0, .int .i64 0]) ?_ 0 _ rfl; (with_reducible repeat (first | apply pzN | apply pzd | apply pza)); exact BK248.out) Try.underlying29 rfl (by kernel_rfl)) rfl ?_
  exact ⟨by first | rfl | (simp [errW_none, errW_some] <;> rfl) | (simp [*, errW_none, errW_some] <;> rfl), by repeat (first | (with_reducible first | exact HB.out | apply pzA | apply pzD | apply pz1 | apply pzs | assumption) | exact HB.out)⟩

/-! ### integer_Bits: function 60 -/

def integer_Bits.f (k : Nat) (a0_0 : Bool) (l0_1 : List Int) : Option (Int × Int × Int) :=
  (integer_check.f k [(⟨a0_0, l0_1⟩ : S24)]).bind fun f => if f.1 = 0 then natural_Bits.f l0_1 else some (0, f.1, f.2)
theorem integer_Bits.mono : ∀ a0 a1 k, LeO (integer_Bits.f k a0 a1) (integer_Bits.f (k + 1) a0 a1) := by
  intro a0 a1 k
  unfold integer_Bits.f
  exact LeO.bind (integer_check.mono _ _) (fun _ => LeO.refl _)
set_option maxHeartbeats 1000000 in
set_option maxRecDepth 100000 in
theorem integer_Bits.calls (k : Nat) (a0_0 : Bool) (A0_1 : Option Addr) (c0_1 : Nat) (l0_1 : List Int) (r1 : Int) (r2 : Int) (r3 : Int) (w : World) (hr0_1 : Kd.C (Kd.int .u32) w A0_1 l0_1.length l0_1) (hc0_1 : l0_1.length ≤ c0_1) (h : integer_Bits.f k a0_0 l0_1 = some (r1, r2, r3)) :
    Calls Try.prog 60 #[.agg #[.bool a0_0, .slice A0_1 l0_1.length c0_1]] w fun e w' => e = .returned (.tuple #[.int .i64 r1, .agg #[.int .i64 r2, .int .i64 r3]]) ∧ Below w.heap.size w w' := by
  unfold integer_Bits.f at h
  obtain ⟨⟨f1, f2⟩, h1, h⟩ := Option.bind_eq_some_iff.mp h
  have H1 := Aside0.mk h1
  have R0 := Aside0.mk hr0_1
  have C0 := Aside0.mk hc0_1
  clear h1 hr0_1 hc0_1
  have hu24 := Try.underlying24
  have hu29 := Try.underlying29
  dsimp only at h
  go_enter Try.func60, Try.ntmps60
  go_wp2_with fail
  go_at_call 62
  refine (integer_check.calls k _ _ _ f1 f2 _ (Kd.C_new (cs := #[.bool a0_0, .slice A0_1 l0_1.length c0_1]) (t := 24) ?hb (Reps.c2 (k24_mk _ ⟨a0_0, l0_1⟩ C0.out ?g0) (Reps.none _ _)) ?e1) ?e2 H1.out).mono ?_
  case e1 => simp
  case e2 => simp
  case hb => simp
  case g0 => exact Kd.C_below R0.out (below_alloc (below_alloc (below_alloc (Below.refl _ _) _) _) _)
  rintro e w1 ⟨rfl, hb⟩
  have hz := hb.size
  simp only [World.size_alloc] at hz
  have B0 : w1.heap[w.heap.size]? = some (.cells #[.bool a0_0, .slice A0_1 l0_1.length c0_1] 24 (0, 0)) := blk_below (blk_alloc (blk_alloc (heap_at (by simp only [World.size_alloc]) _) _) _) hb
  have kc0_0 : w1.cell? ⟨w.heap.size, 0, none⟩ = some (.bool a0_0) := (blk_cell B0 0).trans rfl
  have kf0_0 := blk_frozen B0 0
  have kc0_1 : w1.cell? ⟨w.heap.size, 1, none⟩ = some (.slice A0_1 l0_1.length c0_1) := (blk_cell B0 1).trans rfl
  have kf0_1 := blk_frozen B0 1
  have l0 : w.heap.size < w1.heap.size := by omega
  have n0 : w.heap.size ≠ w1.heap.size := by omega
  have B1 : w1.heap[w.heap.size + 1]? = some (.cells #[.int .i64 0, .int .i64 0] 29 (0, 0)) := blk_below (blk_alloc (heap_at (by simp only [World.size_alloc]) _) _) hb
  have kc1_0 : w1.cell? ⟨w.heap.size + 1, 0, none⟩ = some (.int .i64 0) := (blk_cell B1 0).trans rfl
  have kf1_0 := blk_frozen B1 0
  have kc1_1 : w1.cell? ⟨w.heap.size + 1, 1, none⟩ = some (.int .i64 0) := (blk_cell B1 1).trans rfl
  have kf1_1 := blk_frozen B1 1
  have l1 : w.heap.size + 1 < w1.heap.size := by omega
  have n1 : w.heap.size + 1 ≠ w1.heap.size := by omega
  have HB := Aside0.mk (below_step (below_alloc (below_alloc (below_alloc (Below.refl _ _) _) _) _) hb)
  clear hb
  by_cases hf : f1 = 0
  · rw [if_pos hf] at h
    subst hf
    have H2 := Aside0.mk h
    clear h
    go_wp2_with fail
    go_at_call 68
    refine (natural_Bits.calls _ _ _ r1 r2 r3 _ (Kd.C_below R0.out (below_alloc HB.out _)) C0.out H2.out).mono ?_
    rintro e w2 ⟨rfl, hb⟩
    have hzs := hb.size
    simp only [World.size_alloc, World.size_setCell, World.size_drew] at hzs
    have B1s : w2.heap[w.heap.size + 1]? = some (.cells #[.int .i64 0, .int .i64 0] 29 (0, 0)) := blk_below (blk_alloc (B1) _) hb
    have kc1_0s : w2.cell? ⟨w.heap.size + 1, 0, none⟩ = some (.int .i64 0) := (blk_cell B1s 0).trans rfl
    have kf1_0s := blk_frozen B1s 0
    have kc1_1s : w2.cell? ⟨w.heap.size + 1, 1, none⟩ = some (.int .i64 0) := (blk_cell B1s 1).trans rfl
    have kf1_1s := blk_frozen B1s 1
    have l1s : w.heap.size + 1 < w2.heap.size := by omega
    have n1s : w.heap.size + 1 ≠ w2.heap.size := by omega
    have HB2 := Aside0.mk (below_step (below_alloc HB.out _) hb)
    clear hb
    go_wp2_with fail
    refine bodyPost_ret (v := .tuple #[.int .i64 r1, .agg #[.int .i64 r2, .int .i64 r3]]) (by simp [results, Try.results60, go_sem, World.cell?_alloc_lt, *]) rfl ⟨rfl, ?_⟩
    repeat (first | exact HB2.out | apply below_drew1 | refine below_set ?_ (by omega) | apply below_alloc)
  · rw [if_neg hf] at h
    simp only [Option.some.injEq, Prod.mk.injEq] at h
    obtain ⟨rfl, rfl, rfl⟩ := h
    have hf1 : (f1 != 0) = true := bne_iff_ne.mpr hf
    clear hf
    go_wp2_with fail
    go_region
    go_wp2_with fail
    refine bodyPost_ret (v := .tuple #[.int .i64 0, .agg #[.int .i64 f1, .int .i64 f2]]) (by simp [results, Try.results60, go_sem, World.cell?_alloc_lt, *]) rfl ⟨rfl, ?_⟩
    repeat (first | exact HB.out | apply below_drew1 | refine below_set ?_ (by omega) | apply below_alloc)

/-! ### random_source_bits: function 61 -/
mutual
def random_source_bits.l0 : Nat → Int → List Int → Int → Int → Option (Bool × List Int × Int × Int)
 | 0, _, _, _, _ => none
 | k + 1, x1, x5, x1000, x1001 => if x1 > 0 then ((random_source_next.f x1000 x1001).bind fun bt255 => (if x1 < 32 then (if 0 ≤ (wrap64 (32 - x1)) then (if x5.length < 35184372088832 then (random_source_bits.l0 k (wrap64 (x1 - 32)) (x5 ++ [shr .u32 ((bt255.1 / 4294967296) % 4294967296) (wrap64 (32 - x1))]) bt255.2.1 bt255.2.2) else (none)) else (none)) else (if x5.length < 35184372088832 then (random_source_bits.l0 k (wrap64 (x1 - 32)) (x5 ++ [(bt255.1 / 4294967296) % 4294967296]) bt255.2.1 bt255.2.2) else (none)))) else (random_source_bits.l1 k x5 x1000 x1001)
def random_source_bits.l1 : Nat → List Int → Int → Int → Option (Bool × List Int × Int × Int)
 | 0, _, _, _ => none
 | k + 1, x5, x1000, x1001 => if (x5.length : Int) > 0 then (if 0 ≤ (wrap64 ((x5.length : Int) - 1)) then (if (wrap64 ((x5.length : Int) - 1)) < (x5.length : Int) then (if (rd x5 (wrap64 ((x5.length : Int) - 1))) = 0 then (if (wrap64 ((x5.length : Int) - 1)) ≤ (x5.length : Int) then (random_source_bits.l1 k (x5.take ((wrap64 ((x5.length : Int) - 1)) : Int).toNat) x1000 x1001) else (none)) else (some (false, x5, x1000, x1001))) else (none)) else (none)) else (some (false, x5, x1000, x1001))
end
def random_source_bits.f (k : Nat) (s0_0 : Int) (s0_1 : Int) (a1 : Int) : Option (Bool × List Int × Int × Int) := random_source_bits.l0 k a1 ([] : List Int) s0_0 s0_1
theorem random_source_bits.mono_l : ∀ k, (∀ y0 y1 y2 y3, LeO (random_source_bits.l0 k y0 y1 y2 y3) (random_source_bits.l0 (k + 1) y0 y1 y2 y3)) ∧ (∀ y0 y1 y2, LeO (random_source_bits.l1 k y0 y1 y2) (random_source_bits.l1 (k + 1) y0 y1 y2))
 | 0 => ⟨fun _ _ _ _ r h => by simp [random_source_bits.l0] at h, fun _ _ _ r h => by simp [random_source_bits.l1] at h⟩
 | k + 1 => by
  obtain ⟨ih0, ih1⟩ := random_source_bits.mono_l k
  refine ⟨?_, ?_⟩
  ·intro y0 y1 y2 y3
   unfold random_source_bits.l0
   repeat' first
   | (with_reducible exact ih0 _ _ _ _)
   | (with_reducible exact ih1 _ _ _)
   | (with_reducible exact LeO.refl _)
   | (with_reducible exact LeO.none _)
   | (with_reducible refine LeO.ite ?_ ?_)
   | (with_reducible refine LeO.bind ?_ (fun _ => ?_))
   | exact ih0 _ _ _ _
   | exact ih1 _ _ _
   | exact LeO.none _
   | refine LeO.ite ?_ ?_
   | refine LeO.bind ?_ (fun _ => ?_)
  ·intro y0 y1 y2
   unfold random_source_bits.l1
   repeat' first
   | (with_reducible exact ih0 _ _ _ _)
   | (with_reducible exact ih1 _ _ _)
   | (with_reducible exact LeO.refl _)
   | (with_reducible exact LeO.none _)
   | (with_reducible refine LeO.ite ?_ ?_)
   | (with_reducible refine LeO.bind ?_ (fun _ => ?_))
   | exact ih0 _ _ _ _
   | exact ih1 _ _ _
   | exact LeO.none _
   | refine LeO.ite ?_ ?_
   | refine LeO.bind ?_ (fun _ => ?_)
theorem random_source_bits.mono : ∀ a0 a1 a2 k, LeO (random_source_bits.f k a0 a1 a2) (random_source_bits.f (k + 1) a0 a1 a2) := by
 intro a0 a1 a2 k
 obtain ⟨ih0, ih1⟩ := random_source_bits.mono_l k
 unfold random_source_bits.f
 repeat' first
   | (with_reducible exact ih0 _ _ _ _)
   | (with_reducible exact ih1 _ _ _)
   | (with_reducible exact LeO.refl _)
   | (with_reducible exact LeO.none _)
   | (with_reducible refine LeO.ite ?_ ?_)
   | (with_reducible refine LeO.bind ?_ (fun _ => ?_))
   | exact ih0 _ _ _ _
   | exact ih1 _ _ _
   | exact LeO.none _
   | refine LeO.ite ?_ ?_
   | refine LeO.bind ?_ (fun _ => ?_)
set_option maxHeartbeats 60000000 in
set_option maxRecDepth 100000 in
theorem random_source_bits.calls (k : Nat) (g : Nat) (s0_0 : Int) (s0_1 : Int) (a1 : Int) (r1 : Bool) (r2 : List Int) (r3 : Int) (r4 : Int) (w0 w : World) (hI : IsS81 w0 w g s0_0 s0_1) (hB : Below w0.heap.size w0 w) (h : random_source_bits.f k s0_0 s0_1 a1 = some (r1, r2, r3, r4)) :
  Calls Try.prog 61 #[.pointer (some ⟨g, 0, none⟩), .int .i64 a1] w fun e w' => ∃ v1_ : Value, e = .returned (.agg #[.bool r1, v1_]) ∧ Kd.R (Kd.int .u32) 76 w' w.heap.size (fun _ => True) v1_ r2 ∧ IsS81 w0 w' g r3 r4 ∧ Below w0.heap.size w0 w' ∧ KeepBut w w' g none := by
 have hu24 := Try.underlying24
 have HI0 := zM hI
 have HK := zM (KeepBut.refl w g none)
 have HL := zM hB.size
 clear hI
 have HW0 := zM hB.size
 have HB := zM hB
 clear hB
 have H : (random_source_bits.l0 k a1 ([] : List Int) s0_0 s0_1) = some (r1, r2, r3, r4) := h
 clear h
 have H' := zM H
 clear H
 go_enter Try.func61, Try.ntmps61
 go_wp2_with (first | ((with_reducible refine gate_dst (N := 4) rfl ?_); (try (refine gate_guard (by rfl) ?_; dsimp only)); refine box_event ?hg (N := 4) ?hd (cs := #[.bool false, .slice none 0 0]) (t := 24) ?hr ?_; (case hd => rfl); (case hg => rfl); (case hr => first | (go_simp; done) | (go_simp; rfl)); intro gb254 hg w3 hbox hb; have BK254 := zM (hbox); have GW254 := zM ((by rw [hg]; exact (keep_size (w := w) (g := g) (row := none) (HK.out)) : w.heap.size ≤ gb254)); have GE254 := zM ((Nat.le_trans HW0.out (by rw [hg]; exact (keep_size (w := w) (g := g) (row := none) (HK.out)) : w.heap.size ≤ gb254) : w0.heap.size ≤ gb254)); have NB0_254 := zM ((by rw [hg]; exact Nat.ne_of_lt (IsS81.lt (show IsS81 w0 _ g s0_0 s0_1 from HI0.out)) : g ≠ gb254)); have NB254_0 := zM ((by rw [hg]; exact Nat.ne_of_gt (IsS81.lt (show IsS81 w0 _ g s0_0 s0_1 from HI0.out)) : gb254 ≠ g)); replace HK := zM (KeepBut.trans (HK.out) (KeepBut.of_below hb g none) (.inl rfl)); replace HB := zM (below_step (by repeat (first | (with_reducible first | exact HB.out | apply below_alloc | apply pw_below_drewN | apply below_drew1 | refine below_set ?_ (IsS81.ge HI0.out)) | exact HB.out)) hb); replace HI0 := zM (IsS81.below (HI0.out) hb); clear hb hbox hg))
 go_loopg [1, 5] k (fun kq v1 v5 w' => ∃ (x1_1 : Int) (x5_1 : List Int) (x1000_1 : Int) (x1001_1 : Int), v1 = .int .i64 x1_1 ∧ Aside0 (random_source_bits.l0 kq x1_1 x5_1 x1000_1 x1001_1 = some (r1, r2, r3, r4)) ∧ Aside0 (kq ≤ k) ∧ Aside0 (Kd.R (Kd.int .u32) 76 w' w.heap.size (fun _ => True) v5 x5_1) ∧ Aside0 (w'.heap[gb254]? = some (.cells #[.bool false, (.slice none 0 0)] 24 (0, 0))) ∧ Aside0 (IsS81 w0 w' g x1000_1 x1001_1) ∧ Aside0 (KeepBut w w' g none) ∧ Aside0 (Below w0.heap.size w0 w'))
 case atStart => exact ⟨(a1), (([] : List Int)), (s0_0), (s0_1), (by first | rfl | (simp; done) | (simp [*]; done)), H', ⟨Nat.le_refl _⟩, ⟨by first | exact Kd.R_nil _ _ _ _ _ | exact Kd.N_nil _ _ _ _ _ | exact Kd.V_nil _ _ _ _ _ | exact Kd.Q_nil _ _ _ _ _ | exact Kd.S_nil _ _ _ _ _⟩, ⟨by (with_reducible repeat (first | apply pzN | apply pzd | apply pza)); exact BK254.out⟩, ⟨by repeat (first | (with_reducible first | exact HI0.out | apply IsS81.alloc | apply IsS81.drewN | apply IsS81.drew | apply IsS81.set_0 | apply IsS81.set_1 | refine IsS81.far ?_ NB0_254.out _) | exact HI0.out)⟩, ⟨by repeat (first | (with_reducible first | exact HK.out | apply KeepBut.set_ | apply keep_drewN | apply keep_drew | apply keep_alloc | refine keep_far ?_ GW254.out _) | exact HK.out)⟩, ⟨by repeat (first | (with_reducible first | exact HB.out | apply below_alloc | apply pw_below_drewN | apply below_drew1 | refine below_set ?_ (IsS81.ge HI0.out) | refine below_setA ?_ (by assumption)) | exact HB.out)⟩⟩
 case round =>
  clear H'
  try clear p2
  obtain ⟨x1_1, x5_1, x1000_1, x1001_1, rfl, HA, HK1, HO_5, BK254, HI0, HK, HB⟩ := hrel
  cases gk with
  | zero => exact absurd HA.out (by simp [random_source_bits.l0])
  | succ k1 =>
   have H := HA.out
   clear HA
   simp only [random_source_bits.l0] at H
   by_cases c4 : x1_1 > 0
   ·rw [if_pos c4] at H
    have c4b0 : decide (0 < x1_1) = true := zE c4
    clear c4
    replace H := zB H
    obtain ⟨⟨t255, t256, t257⟩, A50, H⟩ := H
    replace H : (if x1_1 < 32 then (if 0 ≤ (wrap64 (32 - x1_1)) then (if x5_1.length < 35184372088832 then (random_source_bits.l0 k1 (wrap64 (x1_1 - 32)) (x5_1 ++ [shr .u32 ((t255 / 4294967296) % 4294967296) (wrap64 (32 - x1_1))]) t256 t257) else (none)) else (none)) else (if x5_1.length < 35184372088832 then (random_source_bits.l0 k1 (wrap64 (x1_1 - 32)) (x5_1 ++ [(t255 / 4294967296) % 4294967296]) t256 t257) else (none))) = some (r1, r2, r3, r4) := H
    have A5 := zM A50
    clear A50
    by_cases c6 : x1_1 < 32
    ·rw [if_pos c6] at H
     have c6b0 : decide (x1_1 < 32) = true := zE c6
     clear c6
     obtain ⟨ji7, hji7⟩ : ∃ j_ : Int, (wrap64 (32 - x1_1)) = j_ := ⟨_, rfl⟩
     replace H : (if 0 ≤ (ji7) then (if x5_1.length < 35184372088832 then (random_source_bits.l0 k1 (wrap64 (x1_1 - 32)) (x5_1 ++ [shr .u32 ((t255 / 4294967296) % 4294967296) (ji7)]) t256 t257) else (none)) else (none)) = some (r1, r2, r3, r4) := by first | (rw [hji7] at H; exact H) | (simp only [hji7] at H ⊢; exact H)
     (try rw [hji7] at A5)
     have hji7w : (IntKind.i64.wrap (32 - x1_1)) = ji7 := (i64_w _).trans hji7
     by_cases c8 : 0 ≤ (ji7)
     ·rw [if_pos c8] at H
      have c8b0 := eq_true c8
      have c8b1 : decide (0 ≤ (ji7)) = true := zE c8
      clear c8
      obtain ⟨ji9, hji9⟩ : ∃ j_ : Int, (shr .u32 ((t255 / 4294967296) % 4294967296) (ji7)) = j_ := ⟨_, rfl⟩
      replace H : (if x5_1.length < 35184372088832 then (random_source_bits.l0 k1 (wrap64 (x1_1 - 32)) (x5_1 ++ [ji9]) t256 t257) else (none)) = some (r1, r2, r3, r4) := by first | (rw [hji9] at H; exact H) | (simp only [hji9] at H ⊢; exact H)
      (try rw [hji9] at A5)
      have hji9_ : (((t255 / 4294967296) % 4294967296) / 2 ^ min (ji7).toNat 32) = ji9 := hji9
      have hji9z : (ji7) ≤ 32 → (((t255 / 4294967296) % 4294967296) / 2 ^ (ji7).toNat) = ji9 := shr_small hji9
      by_cases c10 : x5_1.length < 35184372088832
      ·rw [if_pos c10] at H
       have LMc10 := zM c10
       clear c10
       obtain ⟨y258, hy258⟩ : ∃ y_ : List Int, y_ = (x5_1 ++ [ji9]) := ⟨_, rfl⟩
       replace H : (random_source_bits.l0 k1 (wrap64 (x1_1 - 32)) y258 t256 t257) = some (r1, r2, r3, r4) := by first | (rw [hy258]; with_reducible exact H) | (have H2_ := (Option.bind_some _ _).symm.trans H; rw [hy258]; with_reducible exact H2_) | (have H2_ := (Option.bind_some _ _).symm.trans H; with_reducible exact H2_) | with_reducible exact H | (rw [hy258]; exact H) | exact H
       have Ny258 := zM hy258
       clear hy258
       have H' := zM H
       clear H
       go_wp2_with (first | ((with_reducible refine gate_callee (f := 40) rfl ?_); refine goesL_ (some 12) rfl rfl Try.func40 (by kernel_rfl) rfl #[.pointer (some ⟨g, 0, none⟩)] rfl (by (try simp only [zT, zC, zN]); first | done | rfl | (simp only [zR, zL]; rfl)) ?_; (with_reducible refine (random_source_next.calls g x1000_1 x1001_1 t255 t256 t257 w0 _ ?side1 ?side2 A5.out).mono ?_); (case side1 => repeat (first | (with_reducible first | exact HI0.out | apply IsS81.alloc | apply IsS81.drewN | apply IsS81.drew | apply IsS81.set_0 | apply IsS81.set_1 | refine IsS81.far ?_ NB0_254.out _) | exact HI0.out)); (case side2 => repeat (first | (with_reducible first | exact HB.out | apply below_alloc | apply pw_below_drewN | apply below_drew1 | refine below_set ?_ (IsS81.ge HI0.out) | refine below_setA ?_ (by assumption)) | exact HB.out)); rintro e w11 ⟨rfl, hi, hb, hk⟩; refine ⟨_, rfl, ?_⟩; replace HO_5 := zM (Kd.R_mono (Kd.R_keep (IsS81.apart (show IsS81 w0 _ g x1000_1 x1001_1 from by repeat (first | (with_reducible first | exact HI0.out | apply IsS81.alloc | apply IsS81.drewN | apply IsS81.drew | apply IsS81.set_0 | apply IsS81.set_1 | refine IsS81.far ?_ NB0_254.out _) | exact HI0.out)) HO_5.out (by decide)) hk (fun _ h => h.2)) (fun _ h => h.1)); replace BK254 := zM (KeepBut.blk hk (g' := gb254) (o := .cells #[.bool false, .slice none 0 0] 24 (0, 0)) BK254.out NB254_0.out (by simp)); replace HK := zM (KeepBut.trans (by repeat (first | (with_reducible first | exact HK.out | apply KeepBut.set_ | apply keep_drewN | apply keep_drew | apply keep_alloc | refine keep_far ?_ GW254.out _) | exact HK.out)) hk (.inl rfl)); replace HB := zM (hb); replace HI0 := zM (hi); (try clear hb); (try clear hb2); (try clear hk); (try clear hi)) | ((with_reducible refine gate_builtin (b := .append) (xs := #[.tmp 21, .tmp 23]) rfl ?_); (try (refine gate_guard (by rfl) ?_; dsimp only)); at_builtin; refine Kd.R_append (Kd.int .u32) w.heap.size rfl (.tmp 21) (.tmp 23) 22 76 (.int .u32 0) 4 rfl Try.underlying22 info76 rfl (by decide) (by omega) u5 x5_1 ji9 [.int .u32 ji9] (fun _ => True) (fun _ => False) rfl rfl ?aP (fun _ hk => hk.elim) ?aF ?aO (Below.refl _ _) ?aS ?aL ?_; (case aP => exact rfl); (case aF => exact (fun _ _ => trivial)); (case aO => exact HO_5.out); (case aS => exact (keep_size (w := w) (g := g) (row := none) (by repeat (first | (with_reducible first | exact HK.out | apply KeepBut.set_ | apply keep_drewN | apply keep_drew | apply keep_alloc | refine keep_far ?_ GW254.out _) | exact HK.out)))); (case aL => have := LMc10.out; omega); intro v259 w12 ho hb hg hat; rw [← Ny258.out] at ho; have n0_ := zM (blk_grown (g := gb254) (o := .cells #[.bool false, .slice none 0 0] 24 (0, 0)) BK254.out hg (Kd.R_ne HO_5.out BK254.out (by decide))); have n1_ := zM (IsS81.grown (by repeat (first | (with_reducible first | exact HI0.out | apply IsS81.alloc | apply IsS81.drewN | apply IsS81.drew | apply IsS81.set_0 | apply IsS81.set_1 | refine IsS81.far ?_ NB0_254.out _) | exact HI0.out)) hg (IsS81.own_ne HI0.out HO_5.out (by decide))); have n2_ := zM (below_weaken (by repeat (first | (with_reducible first | exact HB.out | apply below_alloc | apply pw_below_drewN | apply below_drew1 | refine below_set ?_ (IsS81.ge HI0.out) | refine below_setA ?_ (by assumption)) | exact HB.out)) HL.out hb); have n3_ := zM (KeepBut.trans (by repeat (first | (with_reducible first | exact HK.out | apply KeepBut.set_ | apply keep_drewN | apply keep_drew | apply keep_alloc | refine keep_far ?_ GW254.out _) | exact HK.out)) (KeepBut.of_grown hg g) (Kd.R_base2 HO_5.out)); have n4_ := zM (ho); clear BK254; clear HI0; clear HB; clear HK; clear HO_5; have BK254 := n0_; have HI0 := n1_; have HB := n2_; have HK := n3_; have HO260 := n4_; clear n0_ n1_ n2_ n3_ n4_; clear ho hb hg hat))
       go_roundg k1
       case measure => have := HK1.out; omega
       case rel => exact ⟨(wrap64 (x1_1 - 32)), (y258), (t256), (t257), (by first | rfl | (simp; done) | (simp [*]; done)), H', ⟨by have := HK1.out; omega⟩, ⟨by (with_reducible repeat (first | apply Kd.R_alloc | apply Kd.R_drewN | apply Kd.R_drew)); exact HO260.out⟩, ⟨by (with_reducible repeat (first | apply pzN | apply pzd | apply pza)); exact BK254.out⟩, ⟨by repeat (first | (with_reducible first | exact HI0.out | apply IsS81.alloc | apply IsS81.drewN | apply IsS81.drew | apply IsS81.set_0 | apply IsS81.set_1 | refine IsS81.far ?_ NB0_254.out _) | exact HI0.out)⟩, ⟨by repeat (first | (with_reducible first | exact HK.out | apply KeepBut.set_ | apply keep_drewN | apply keep_drew | apply keep_alloc | refine keep_far ?_ GW254.out _) | exact HK.out)⟩, ⟨by repeat (first | (with_reducible first | exact HB.out | apply below_alloc | apply pw_below_drewN | apply below_drew1 | refine below_set ?_ (IsS81.ge HI0.out) | refine below_setA ?_ (by assumption)) | exact HB.out)⟩⟩
      ·rw [if_neg c10] at H
       exact absurd H (by simp)
     ·rw [if_neg c8] at H
      exact absurd H (by simp)
    ·rw [if_neg c6] at H
     have c6b0 : decide (x1_1 < 32) = false := decide_eq_false c6
     clear c6
     by_cases c13 : x5_1.length < 35184372088832
     ·rw [if_pos c13] at H
      have LMc13 := zM c13
      clear c13
      obtain ⟨y261, hy261⟩ : ∃ y_ : List Int, y_ = (x5_1 ++ [(t255 / 4294967296) % 4294967296]) := ⟨_, rfl⟩
      replace H : (random_source_bits.l0 k1 (wrap64 (x1_1 - 32)) y261 t256 t257) = some (r1, r2, r3, r4) := by first | (rw [hy261]; with_reducible exact H) | (have H2_ := (Option.bind_some _ _).symm.trans H; rw [hy261]; with_reducible exact H2_) | (have H2_ := (Option.bind_some _ _).symm.trans H; with_reducible exact H2_) | with_reducible exact H | (rw [hy261]; exact H) | exact H
      have Ny261 := zM hy261
      clear hy261
      have H' := zM H
      clear H
      go_wp2_with (first | ((with_reducible refine gate_callee (f := 40) rfl ?_); refine goesL_ (some 12) rfl rfl Try.func40 (by kernel_rfl) rfl #[.pointer (some ⟨g, 0, none⟩)] rfl (by (try simp only [zT, zC, zN]); first | done | rfl | (simp only [zR, zL]; rfl)) ?_; (with_reducible refine (random_source_next.calls g x1000_1 x1001_1 t255 t256 t257 w0 _ ?side1 ?side2 A5.out).mono ?_); (case side1 => repeat (first | (with_reducible first | exact HI0.out | apply IsS81.alloc | apply IsS81.drewN | apply IsS81.drew | apply IsS81.set_0 | apply IsS81.set_1 | refine IsS81.far ?_ NB0_254.out _) | exact HI0.out)); (case side2 => repeat (first | (with_reducible first | exact HB.out | apply below_alloc | apply pw_below_drewN | apply below_drew1 | refine below_set ?_ (IsS81.ge HI0.out) | refine below_setA ?_ (by assumption)) | exact HB.out)); rintro e w14 ⟨rfl, hi, hb, hk⟩; refine ⟨_, rfl, ?_⟩; replace HO_5 := zM (Kd.R_mono (Kd.R_keep (IsS81.apart (show IsS81 w0 _ g x1000_1 x1001_1 from by repeat (first | (with_reducible first | exact HI0.out | apply IsS81.alloc | apply IsS81.drewN | apply IsS81.drew | apply IsS81.set_0 | apply IsS81.set_1 | refine IsS81.far ?_ NB0_254.out _) | exact HI0.out)) HO_5.out (by decide)) hk (fun _ h => h.2)) (fun _ h => h.1)); replace BK254 := zM (KeepBut.blk hk (g' := gb254) (o := .cells #[.bool false, .slice none 0 0] 24 (0, 0)) BK254.out NB254_0.out (by simp)); replace HK := zM (KeepBut.trans (by repeat (first | (with_reducible first | exact HK.out | apply KeepBut.set_ | apply keep_drewN | apply keep_drew | apply keep_alloc | refine keep_far ?_ GW254.out _) | exact HK.out)) hk (.inl rfl)); replace HB := zM (hb); replace HI0 := zM (hi); (try clear hb); (try clear hb2); (try clear hk); (try clear hi)) | ((with_reducible refine gate_builtin (b := .append) (xs := #[.tmp 21, .tmp 23]) rfl ?_); (try (refine gate_guard (by rfl) ?_; dsimp only)); at_builtin; refine Kd.R_append (Kd.int .u32) w.heap.size rfl (.tmp 21) (.tmp 23) 22 76 (.int .u32 0) 4 rfl Try.underlying22 info76 rfl (by decide) (by omega) u5 x5_1 ((t255 / 4294967296) % 4294967296) [.int .u32 ((t255 / 4294967296) % 4294967296)] (fun _ => True) (fun _ => False) rfl rfl ?aP (fun _ hk => hk.elim) ?aF ?aO (Below.refl _ _) ?aS ?aL ?_; (case aP => exact rfl); (case aF => exact (fun _ _ => trivial)); (case aO => exact HO_5.out); (case aS => exact (keep_size (w := w) (g := g) (row := none) (by repeat (first | (with_reducible first | exact HK.out | apply KeepBut.set_ | apply keep_drewN | apply keep_drew | apply keep_alloc | refine keep_far ?_ GW254.out _) | exact HK.out)))); (case aL => have := LMc13.out; omega); intro v262 w15 ho hb hg hat; rw [← Ny261.out] at ho; have n0_ := zM (blk_grown (g := gb254) (o := .cells #[.bool false, .slice none 0 0] 24 (0, 0)) BK254.out hg (Kd.R_ne HO_5.out BK254.out (by decide))); have n1_ := zM (IsS81.grown (by repeat (first | (with_reducible first | exact HI0.out | apply IsS81.alloc | apply IsS81.drewN | apply IsS81.drew | apply IsS81.set_0 | apply IsS81.set_1 | refine IsS81.far ?_ NB0_254.out _) | exact HI0.out)) hg (IsS81.own_ne HI0.out HO_5.out (by decide))); have n2_ := zM (below_weaken (by repeat (first | (with_reducible first | exact HB.out | apply below_alloc | apply pw_below_drewN | apply below_drew1 | refine below_set ?_ (IsS81.ge HI0.out) | refine below_setA ?_ (by assumption)) | exact HB.out)) HL.out hb); have n3_ := zM (KeepBut.trans (by repeat (first | (with_reducible first | exact HK.out | apply KeepBut.set_ | apply keep_drewN | apply keep_drew | apply keep_alloc | refine keep_far ?_ GW254.out _) | exact HK.out)) (KeepBut.of_grown hg g) (Kd.R_base2 HO_5.out)); have n4_ := zM (ho); clear BK254; clear HI0; clear HB; clear HK; clear HO_5; have BK254 := n0_; have HI0 := n1_; have HB := n2_; have HK := n3_; have HO263 := n4_; clear n0_ n1_ n2_ n3_ n4_; clear ho hb hg hat))
      go_roundg k1
      case measure => have := HK1.out; omega
      case rel => exact ⟨(wrap64 (x1_1 - 32)), (y261), (t256), (t257), (by first | rfl | (simp; done) | (simp [*]; done)), H', ⟨by have := HK1.out; omega⟩, ⟨by (with_reducible repeat (first | apply Kd.R_alloc | apply Kd.R_drewN | apply Kd.R_drew)); exact HO263.out⟩, ⟨by (with_reducible repeat (first | apply pzN | apply pzd | apply pza)); exact BK254.out⟩, ⟨by repeat (first | (with_reducible first | exact HI0.out | apply IsS81.alloc | apply IsS81.drewN | apply IsS81.drew | apply IsS81.set_0 | apply IsS81.set_1 | refine IsS81.far ?_ NB0_254.out _) | exact HI0.out)⟩, ⟨by repeat (first | (with_reducible first | exact HK.out | apply KeepBut.set_ | apply keep_drewN | apply keep_drew | apply keep_alloc | refine keep_far ?_ GW254.out _) | exact HK.out)⟩, ⟨by repeat (first | (with_reducible first | exact HB.out | apply below_alloc | apply pw_below_drewN | apply below_drew1 | refine below_set ?_ (IsS81.ge HI0.out) | refine below_setA ?_ (by assumption)) | exact HB.out)⟩⟩
     ·rw [if_neg c13] at H
      exact absurd H (by simp)
   ·rw [if_neg c4] at H
    have c4b0 : decide (0 < x1_1) = false := decide_eq_false c4
    clear c4
    have H' := zM H
    clear H
    go_wp2
    go_loopg [5] k1 (fun kq v5 w' => ∃ (x5_2 : List Int), Aside0 (random_source_bits.l1 kq x5_2 x1000_1 x1001_1 = some (r1, r2, r3, r4)) ∧ Aside0 (kq ≤ k1) ∧ Aside0 (Kd.R (Kd.int .u32) 76 w' w.heap.size (fun _ => True) v5 x5_2) ∧ Aside0 (w'.heap[gb254]? = some (.cells #[.bool false, (.slice none 0 0)] 24 (0, 0))) ∧ Aside0 (IsS81 w0 w' g x1000_1 x1001_1) ∧ Aside0 (KeepBut w w' g none) ∧ Aside0 (Below w0.heap.size w0 w'))
    case atStart => exact ⟨(x5_1), H', ⟨Nat.le_refl _⟩, ⟨by (with_reducible repeat (first | apply Kd.R_alloc | apply Kd.R_drewN | apply Kd.R_drew)); exact HO_5.out⟩, ⟨by (with_reducible repeat (first | apply pzN | apply pzd | apply pza)); exact BK254.out⟩, ⟨by repeat (first | (with_reducible first | exact HI0.out | apply IsS81.alloc | apply IsS81.drewN | apply IsS81.drew | apply IsS81.set_0 | apply IsS81.set_1 | refine IsS81.far ?_ NB0_254.out _) | exact HI0.out)⟩, ⟨by repeat (first | (with_reducible first | exact HK.out | apply KeepBut.set_ | apply keep_drewN | apply keep_drew | apply keep_alloc | refine keep_far ?_ GW254.out _) | exact HK.out)⟩, ⟨by repeat (first | (with_reducible first | exact HB.out | apply below_alloc | apply pw_below_drewN | apply below_drew1 | refine below_set ?_ (IsS81.ge HI0.out) | refine below_setA ?_ (by assumption)) | exact HB.out)⟩⟩
    case round =>
     clear H'
     try clear c1
     try clear p2
     try clear c4
     try clear c4b0
     try clear c6
     try clear c6b0
     try clear p6
     try clear c8
     try clear c8b0
     try clear c8b1
     try clear c10
     try clear c13
     try clear p2
     obtain ⟨x5_2, HA, HK2, HO_5, BK254, HI0, HK, HB⟩ := hrel
     cases gk with
     | zero => exact absurd HA.out (by simp [random_source_bits.l1])
     | succ k2 =>
      have H := HA.out
      clear HA
      simp only [random_source_bits.l1] at H
      by_cases c16 : (x5_2.length : Int) > 0
      ·rw [if_pos c16] at H
       have c16b0 : decide (0 < (x5_2.length : Int)) = true := zE c16
       have c16b1 : decide (0 < x5_2.length) = true := zE (by omega)
       clear c16
       obtain ⟨ji17, hji17⟩ : ∃ j_ : Int, (wrap64 ((x5_2.length : Int) - 1)) = j_ := ⟨_, rfl⟩
       replace H : (if 0 ≤ (ji17) then (if (ji17) < (x5_2.length : Int) then (if (rd x5_2 (ji17)) = 0 then (if (ji17) ≤ (x5_2.length : Int) then (random_source_bits.l1 k2 (x5_2.take ((ji17) : Int).toNat) x1000_1 x1001_1) else (none)) else (some (false, x5_2, x1000_1, x1001_1))) else (none)) else (none)) = some (r1, r2, r3, r4) := by first | (rw [hji17] at H; exact H) | (simp only [hji17] at H ⊢; exact H)
       have hji17w : (IntKind.i64.wrap ((x5_2.length : Int) - 1)) = ji17 := (i64_w _).trans hji17
       by_cases c18 : 0 ≤ (ji17)
       ·rw [if_pos c18] at H
        have c18b0 : decide (0 ≤ (ji17)) = true := zE c18
        clear c18
        by_cases c19 : (ji17) < (x5_2.length : Int)
        ·rw [if_pos c19] at H
         have c19b0 : decide ((ji17) < (x5_2.length : Int)) = true := zE c19
         clear c19
         by_cases c20 : (rd x5_2 (ji17)) = 0
         ·rw [if_pos c20] at H
          have c20b0 : ((rd x5_2 (ji17)) == 0) = true := beq_iff_eq.mpr c20
          have c20b1 : ((rd x5_2 (ji17)) != 0) = false := bne_eq_false_iff_eq.mpr c20
          clear c20
          by_cases c21 : (ji17) ≤ (x5_2.length : Int)
          ·rw [if_pos c21] at H
           have c21b0 := eq_true c21
           have c21b1 : decide ((ji17) ≤ (x5_2.length : Int)) = true := zE c21
           clear c21
           obtain ⟨y265, hy265⟩ : ∃ y_ : List Int, y_ = (x5_2.take ((ji17) : Int).toNat) := ⟨_, rfl⟩
           replace H : (random_source_bits.l1 k2 y265 x1000_1 x1001_1) = some (r1, r2, r3, r4) := by first | (rw [hy265]; with_reducible exact H) | (have H2_ := (Option.bind_some _ _).symm.trans H; rw [hy265]; with_reducible exact H2_) | (have H2_ := (Option.bind_some _ _).symm.trans H; with_reducible exact H2_) | with_reducible exact H | (rw [hy265]; exact H) | exact H
           have Ny265 := zM hy265
           clear hy265
           have H' := zM H
           clear H
           obtain ⟨Ao22, co22, eo22⟩ := Kd.R_slice HO_5.out
           subst eo22
           have p264 : 0 ≤ ((ji17) : Int) := zD (by first | (with_reducible assumption) | assumption)
           have q264 : (ji17) < (x5_2.length : Int) := zD (by first | (with_reducible assumption) | assumption)
           obtain ⟨ad264, e264, hx264_0⟩ := Kd.at_int (Kd.R_reads' HO_5.out).2.2 (ji17) p264 q264
           cases e264
           replace p264 := eq_true p264
           replace q264 := eq_true q264
           have q23 : ((ji17) : Int) ≤ ((x5_2.length : Int) : Int) := zD (by first | (with_reducible assumption) | assumption)
           obtain ⟨i023, hi023, _, hsz23, _⟩ := info_parts info76
           have hcut23 := cut_to (P := Try.prog) 22 76 .i64 Try.underlying22 hi023 (some ad264) x5_2.length co22 (ji17) (zD (by first | (with_reducible assumption) | assumption)) q23 (Kd.R_reads' HO_5.out).2.1
           have hr23 := Kd.R_take (m := ((ji17) : Int).toNat) HO_5.out (by omega)
           have hy23 : y265.length = ((ji17) : Int).toNat := (by rw [Ny265.out, zL]; omega)
           rw [← Ny265.out] at hr23
           rw [← hy23] at hr23 hcut23
           clear hy23 hi023 hsz23 HO_5
           have HO267 := zM hr23
           clear hr23
           replace q23 := eq_true q23
           go_wp2
           go_roundg k2
           case measure => have := HK1.out; have := HK2.out; omega
           case rel => exact ⟨(y265), H', ⟨by have := HK1.out; have := HK2.out; omega⟩, ⟨by (with_reducible repeat (first | apply Kd.R_alloc | apply Kd.R_drewN | apply Kd.R_drew)); exact HO267.out⟩, ⟨by (with_reducible repeat (first | apply pzN | apply pzd | apply pza)); exact BK254.out⟩, ⟨by repeat (first | (with_reducible first | exact HI0.out | apply IsS81.alloc | apply IsS81.drewN | apply IsS81.drew | apply IsS81.set_0 | apply IsS81.set_1 | refine IsS81.far ?_ NB0_254.out _) | exact HI0.out)⟩, ⟨by repeat (first | (with_reducible first | exact HK.out | apply KeepBut.set_ | apply keep_drewN | apply keep_drew | apply keep_alloc | refine keep_far ?_ GW254.out _) | exact HK.out)⟩, ⟨by repeat (first | (with_reducible first | exact HB.out | apply below_alloc | apply pw_below_drewN | apply below_drew1 | refine below_set ?_ (IsS81.ge HI0.out) | refine below_setA ?_ (by assumption)) | exact HB.out)⟩⟩
          ·rw [if_neg c21] at H
           exact absurd H (by simp)
         ·rw [if_neg c20] at H
          have c20b0 : ((rd x5_2 (ji17)) == 0) = false := beq_eq_false_iff_ne.mpr c20
          have c20b1 : ((rd x5_2 (ji17)) != 0) = true := bne_iff_ne.mpr c20
          simp only [Option.some.injEq, Prod.mk.injEq] at H
          obtain ⟨rfl, rfl, rfl, rfl⟩ := H
          obtain ⟨Ao24, co24, eo24⟩ := Kd.R_slice HO_5.out
          subst eo24
          have p264 : 0 ≤ ((ji17) : Int) := zD (by first | (with_reducible assumption) | assumption)
          have q264 : (ji17) < (x5_2.length : Int) := zD (by first | (with_reducible assumption) | assumption)
          obtain ⟨ad264, e264, hx264_0⟩ := Kd.at_int (Kd.R_reads' HO_5.out).2.2 (ji17) p264 q264
          cases e264
          replace p264 := eq_true p264
          replace q264 := eq_true q264
          have hcz26_0 := pzc (v := .bool false) BK254 0 rfl
          have hcz26_1 := pzc (v := .slice none 0 0) BK254 1 rfl
          have hfz26_0 := zF BK254.out 0
          have hfz26_1 := zF BK254.out 1
          go_wp2
          refine bodyPost_ret (results_cell_row rfl _ _ gb254 24 #[.bool false, .slice (some ad264) x5_2.length co24] (0, 0) _ rfl (by (with_reducible repeat (first | apply pzN | apply pzd | apply pza)); refine blk_put (cs := #[.bool false, .slice none 0 0]) ?_ 1 _ rfl; (with_reducible repeat (first | apply pzN | apply pzd | apply pza)); refine blk_put (cs := #[.bool false, .slice none 0 0]) ?_ 0 _ rfl; (with_reducible repeat (first | apply pzN | apply pzd | apply pza)); exact BK254.out) Try.underlying24 rfl (by kernel_rfl)) rfl ?_
          exact ⟨_, by first | rfl | (simp [errW_none, errW_some] <;> rfl) | (simp only [← hji17]; first | rfl | (simp [errW_none, errW_some] <;> rfl)) | (simp [*, errW_none, errW_some] <;> rfl), by (with_reducible repeat (first | apply Kd.R_alloc | apply Kd.R_drewN | apply Kd.R_drew)); exact Kd.R_mono (Kd.R_far (p := ⟨gb254, 1, none⟩) (Kd.R_far (p := ⟨gb254, 0, none⟩) (Kd.R_types HO_5.out BK254.out (by decide)) (fun _ hk => hk.2) (.bool false)) (fun _ hk => hk.2) (.slice (some ad264) x5_2.length co24)) (fun _ hk => trivial), by repeat (first | (with_reducible first | exact HI0.out | apply IsS81.alloc | apply IsS81.drewN | apply IsS81.drew | apply IsS81.set_0 | apply IsS81.set_1 | refine IsS81.far ?_ NB0_254.out _) | exact HI0.out), by repeat (first | (with_reducible first | exact HB.out | apply below_alloc | apply pw_below_drewN | apply below_drew1 | refine below_set ?_ (IsS81.ge HI0.out) | refine below_setA ?_ (by assumption)) | exact HB.out), by repeat (first | (with_reducible first | exact HK.out | apply KeepBut.set_ | apply keep_drewN | apply keep_drew | apply keep_alloc | refine keep_far ?_ GW254.out _) | exact HK.out)⟩
        ·rw [if_neg c19] at H
         exact absurd H (by simp)
       ·rw [if_neg c18] at H
        exact absurd H (by simp)
      ·rw [if_neg c16] at H
       have c16b0 : decide (0 < (x5_2.length : Int)) = false := decide_eq_false c16
       have c16b1 : decide (0 < x5_2.length) = false := decide_eq_false (by omega)
       clear c16
       simp only [Option.some.injEq, Prod.mk.injEq] at H
       obtain ⟨rfl, rfl, rfl, rfl⟩ := H
       obtain ⟨Ao27, co27, eo27⟩ := Kd.R_slice HO_5.out
       subst eo27
       have hcz29_0 := pzc (v := .bool false) BK254 0 rfl
       have hcz29_1 := pzc (v := .slice none 0 0) BK254 1 rfl
       have hfz29_0 := zF BK254.out 0
       have hfz29_1 := zF BK254.out 1
       go_wp2
       refine bodyPost_ret (results_cell_row rfl _ _ gb254 24 #[.bool false, .slice Ao27 x5_2.length co27] (0, 0) _ rfl (by (with_reducible repeat (first | apply pzN | apply pzd | apply pza)); refine blk_put (cs := #[.bool false, .slice none 0 0]) ?_ 1 _ rfl; (with_reducible repeat (first | apply pzN | apply pzd | apply pza)); refine blk_put (cs := #[.bool false, .slice none 0 0]) ?_ 0 _ rfl; (with_reducible repeat (first | apply pzN | apply pzd | apply pza)); exact BK254.out) Try.underlying24 rfl (by kernel_rfl)) rfl ?_
       exact ⟨_, by first | rfl | (simp [errW_none, errW_some] <;> rfl) | (simp [*, errW_none, errW_some] <;> rfl), by (with_reducible repeat (first | apply Kd.R_alloc | apply Kd.R_drewN | apply Kd.R_drew)); exact Kd.R_mono (Kd.R_far (p := ⟨gb254, 1, none⟩) (Kd.R_far (p := ⟨gb254, 0, none⟩) (Kd.R_types HO_5.out BK254.out (by decide)) (fun _ hk => hk.2) (.bool false)) (fun _ hk => hk.2) (.slice Ao27 x5_2.length co27)) (fun _ hk => trivial), by repeat (first | (with_reducible first | exact HI0.out | apply IsS81.alloc | apply IsS81.drewN | apply IsS81.drew | apply IsS81.set_0 | apply IsS81.set_1 | refine IsS81.far ?_ NB0_254.out _) | exact HI0.out), by repeat (first | (with_reducible first | exact HB.out | apply below_alloc | apply pw_below_drewN | apply below_drew1 | refine below_set ?_ (IsS81.ge HI0.out) | refine below_setA ?_ (by assumption)) | exact HB.out), by repeat (first | (with_reducible first | exact HK.out | apply KeepBut.set_ | apply keep_drewN | apply keep_drew | apply keep_alloc | refine keep_far ?_ GW254.out _) | exact HK.out)⟩

end Go.Proofs.Ytkhiohlfdkkhdaa.P
