-- Written by the session's own program wip/tools/mp.py (over the kit's print) out of the translation. Not trusted: Lean checks it.
import Derived.Test.YtkhiohlfdkkhdaaRDP0
import Derived.Test.YtkhiohlfdkkhdaaRDP3
import Derived.Test.YtkhiohlfdkkhdaaRDP4
namespace Go.Proofs.Ytkhiohlfdkkhdaa.P
open Go.RowKit Go.Proofs.YtkhiohlfdkkhdaaW.PrintWords Go.Proofs.YtkhiohlfdkkhdaaW.PrintLast Go.Proofs.YtkhiohlfdkkhdaaW.PrintMore
attribute [local go_sem] max2_int min2_int max_two min_two max_three min_three max_four min_four   -- for this text's walks alone
set_option linter.unusedVariables false
set_option linter.unusedSimpArgs false

/-! ### natural_Sub: function 74 -/
def natural_Sub.f (k : Nat) (l0 : List Int) (l1 : List Int) : Option (List Int × Int × Int) := (natural_check.f l0 l1).bind fun bt239 => (if bt239.1 = 0 then ((natural_compare.f k l0 l1).bind fun t242 => (if t242 < 0 then ((natural_at.f 4 (-2)).bind fun bt243 => (some (([] : List Int), bt243.1, bt243.2))) else ((natural_sub.f k l0 l1).bind fun t245 => (some (t245, 0, 0))))) else (some (([] : List Int), bt239.1, bt239.2)))
theorem natural_Sub.mono : ∀ a0 a1 k, LeO (natural_Sub.f k a0 a1) (natural_Sub.f (k + 1) a0 a1) := by
 intro a0 a1 k
 unfold natural_Sub.f
 repeat' first
   | (with_reducible exact natural_compare.mono _ _ _)
   | (with_reducible exact natural_sub.mono _ _ _)
   | (with_reducible exact LeO.refl _)
   | (with_reducible exact LeO.none _)
   | (with_reducible refine LeO.ite ?_ ?_)
   | (with_reducible refine LeO.bind ?_ (fun _ => ?_))
   | exact natural_compare.mono _ _ _
   | exact natural_sub.mono _ _ _
   | exact LeO.none _
   | refine LeO.ite ?_ ?_
   | refine LeO.bind ?_ (fun _ => ?_)
set_option maxHeartbeats 60000000 in
set_option maxRecDepth 100000 in
theorem natural_Sub.calls (k : Nat) (A0 : Option Addr) (c0 : Nat) (l0 : List Int) (A1 : Option Addr) (c1 : Nat) (l1 : List Int) (r1 : List Int) (r2 : Int) (r3 : Int) (w : World) (hr0 : Kd.C (Kd.int .u32) w A0 l0.length l0) (hc0 : l0.length ≤ c0) (hr1 : Kd.C (Kd.int .u32) w A1 l1.length l1) (hc1 : l1.length ≤ c1) (h : natural_Sub.f k l0 l1 = some (r1, r2, r3)) :
  Calls Try.prog 74 #[.slice A0 l0.length c0, .slice A1 l1.length c1] w fun e w' => ∃ v0_ : Value, e = .returned (.tuple #[v0_, .agg #[.int .i64 r2, .int .i64 r3]]) ∧ Kd.V (Kd.int .u32) 76 w' w.heap.size (fun k_ => (w.heap.size ≤ k_)) v0_ r1 ∧ Below w.heap.size w w' := by
 have hu29 := Try.underlying29
 have HR0 := zM hr0
 have HC0 := zM hc0
 clear hr0 hc0
 have HR1 := zM hr1
 have HC1 := zM hc1
 clear hr1 hc1
 have HB := zM (Below.refl w.heap.size w)
 have H : ((natural_check.f l0 l1).bind fun bt239 => (if bt239.1 = 0 then ((natural_compare.f k l0 l1).bind fun t242 => (if t242 < 0 then ((natural_at.f 4 (-2)).bind fun bt243 => (some (([] : List Int), bt243.1, bt243.2))) else ((natural_sub.f k l0 l1).bind fun t245 => (some (t245, 0, 0))))) else (some (([] : List Int), bt239.1, bt239.2)))) = some (r1, r2, r3) := h
 clear h
 replace H := zB H
 obtain ⟨⟨t239, t240⟩, A30, H⟩ := H
 replace H : (if t239 = 0 then ((natural_compare.f k l0 l1).bind fun t242 => (if t242 < 0 then ((natural_at.f 4 (-2)).bind fun bt243 => (some (([] : List Int), bt243.1, bt243.2))) else ((natural_sub.f k l0 l1).bind fun t245 => (some (t245, 0, 0))))) else (some (([] : List Int), t239, t240))) = some (r1, r2, r3) := H
 have A3 := zM A30
 clear A30
 by_cases c4 : t239 = 0
 ·rw [if_pos c4] at H
  have c4b0 : (t239 == 0) = true := beq_iff_eq.mpr c4
  have c4b1 : (t239 != 0) = false := bne_eq_false_iff_eq.mpr c4
  clear c4
  replace H := zB H
  obtain ⟨t242, A50, H⟩ := H
  replace H : (if t242 < 0 then ((natural_at.f 4 (-2)).bind fun bt243 => (some (([] : List Int), bt243.1, bt243.2))) else ((natural_sub.f k l0 l1).bind fun t245 => (some (t245, 0, 0)))) = some (r1, r2, r3) := H
  have A5 := zM A50
  clear A50
  by_cases c6 : t242 < 0
  ·rw [if_pos c6] at H
   have c6b0 : decide (t242 < 0) = true := zE c6
   clear c6
   replace H := zB H
   obtain ⟨⟨t243, t244⟩, A70, H⟩ := H
   replace H : (some (([] : List Int), t243, t244)) = some (r1, r2, r3) := H
   have A7 := zM A70
   clear A70
   simp only [Option.some.injEq, Prod.mk.injEq] at H
   obtain ⟨rfl, rfl, rfl⟩ := H
   go_enter Try.func74, Try.ntmps74
   go_wp2_with (first | ((with_reducible refine gate_dst (N := 5) rfl ?_); refine box_event ?hg (N := 5) ?hd (cs := #[.int .i64 0, .int .i64 0]) (t := 29) ?hr ?_; (case hd => rfl); (case hg => rfl); (case hr => first | (go_simp; done) | (go_simp; rfl)); intro gb238 hg w8 hbox hb; have BK238 := zM (hbox); have GW238 := zM ((by rw [hg]; exact (below_size (HB.out)) : w.heap.size ≤ gb238)); have GE238 := GW238; replace HB := zM (below_step (HB.out) hb); clear hb hbox hg) | ((with_reducible refine gate_callee (f := 70) rfl ?_); refine goesL_ (some 9) rfl rfl Try.func70 (by kernel_rfl) rfl #[.slice A0 l0.length c0, .slice A1 l1.length c1] rfl (by (try simp only [zT, zC, zN]); first | done | rfl | (simp only [zR, zL]; rfl)) ?_; (with_reducible refine (natural_check.calls _ _ l0 _ _ l1 t239 t240 _ ?side1 ?side2 ?side3 ?side4 A3.out).mono ?_); (case side1 => repeat (first | exact (Kd.C_below HR0.out HB.out) | (with_reducible refine Kd.C_alloc ?_ _) | (with_reducible refine Kd.C_drewN ?_ _) | (with_reducible refine Kd.C_drew ?_))); (case side2 => exact HC0.out); (case side3 => repeat (first | exact (Kd.C_below HR1.out HB.out) | (with_reducible refine Kd.C_alloc ?_ _) | (with_reducible refine Kd.C_drewN ?_ _) | (with_reducible refine Kd.C_drew ?_))); (case side4 => exact HC1.out); rintro e w9 ⟨rfl, hb⟩; refine ⟨_, rfl, ?_⟩; replace BK238 := pzb BK238 hb; replace HB := zM (below_step (by repeat (first | (with_reducible first | exact HB.out | apply pzA | apply pzD | apply pz1 | apply pzs | assumption) | exact HB.out)) hb); (try clear hb); (try clear hb2); (try clear hk); (try clear hi)) | ((with_reducible refine gate_dst (N := 6) rfl ?_); refine box_event ?hg (N := 6) ?hd (cs := #[.int .i64 0, .int .i64 0]) (t := 29) ?hr ?_; (case hd => rfl); (case hg => rfl); (case hr => first | (go_simp; done) | (go_simp; rfl)); intro gb241 hg w10 hbox hb; have BK241 := zM (hbox); have GW241 := zM ((by rw [hg]; exact (below_size (by repeat (first | (with_reducible first | exact HB.out | apply pzA | apply pzD | apply pz1 | apply pzs | assumption) | exact HB.out))) : w.heap.size ≤ gb241)); have GE241 := GW241; have NB238_241 := pzf BK238 hg; have NB241_238 := pzg BK238 hg; replace BK238 := pzb BK238 hb; replace HB := zM (below_step (by repeat (first | (with_reducible first | exact HB.out | apply pzA | apply pzD | apply pz1 | apply pzs | assumption) | exact HB.out)) hb); clear hb hbox hg; have hnb11 := NB241_238.out; have hnc11 := NB238_241.out; have hcz12_0 := pzc (v := .int .i64 0) BK241 0 rfl; have hcz12_1 := pzc (v := .int .i64 0) BK241 1 rfl; have hfz12_0 := zF BK241.out 0; have hfz12_1 := zF BK241.out 1) | ((with_reducible refine gate_callee (f := 71) rfl ?_); refine goesL_ (some 16) rfl rfl Try.func71 (by kernel_rfl) rfl #[.slice A0 l0.length c0, .slice A1 l1.length c1] rfl (by (try simp only [zT, zC, zN]); first | done | rfl | (simp only [zR, zL]; rfl)) ?_; (with_reducible refine (natural_compare.calls k _ _ l0 _ _ l1 t242 _ ?side1 ?side2 ?side3 ?side4 A5.out).mono ?_); (case side1 => exact Kd.C_below HR0.out (by repeat (first | (with_reducible first | exact HB.out | apply pzA | apply pzD | apply pz1 | apply pzs | assumption) | exact HB.out))); (case side2 => exact HC0.out); (case side3 => exact Kd.C_below HR1.out (by repeat (first | (with_reducible first | exact HB.out | apply pzA | apply pzD | apply pz1 | apply pzs | assumption) | exact HB.out))); (case side4 => exact HC1.out); rintro e w' ⟨rfl, ⟨nd, rfl⟩⟩; refine ⟨_, rfl, ?_⟩) | ((with_reducible refine gate_callee (f := 76) rfl ?_); refine goesL_ (some 18) rfl rfl Try.func76 (by kernel_rfl) rfl #[.int .i64 4, .int .i64 (-2)] rfl (by (try simp only [zT, zC, zN]); first | done | rfl | (simp only [zR, zL]; rfl)) ?_; (with_reducible refine (natural_at.calls 4 (-2) t243 t244 _ A7.out).mono ?_); rintro e w13 ⟨rfl, hb⟩; refine ⟨_, rfl, ?_⟩; replace BK238 := zM (blk_below (g := gb238) (o := .cells #[.int .i64 0, .int .i64 0] 29 (0, 0)) (by (with_reducible repeat (first | apply pzN | apply pzd | apply pza)); refine blk_far ?_ NB238_241.out _; (with_reducible repeat (first | apply pzN | apply pzd | apply pza)); refine blk_far ?_ NB238_241.out _; (with_reducible repeat (first | apply pzN | apply pzd | apply pza)); exact BK238.out) hb); replace HB := zM (below_step (by repeat (first | (with_reducible first | exact HB.out | apply pzA | apply pzD | apply pz1 | apply pzs | assumption) | exact HB.out)) hb); (try clear hb); (try clear hb2); (try clear hk); (try clear hi); have hcz14_0 := pzc (v := .int .i64 0) BK238 0 rfl; have hcz14_1 := pzc (v := .int .i64 0) BK238 1 rfl; have hfz14_0 := zF BK238.out 0; have hfz14_1 := zF BK238.out 1))
   refine bodyPost_ret (results_tc rfl _ _ gb238 29 #[.int .i64 t243, .int .i64 t244] (0, 0) _ rfl (by (with_reducible repeat (first | apply pzN | apply pzd | apply pza)); refine blk_put (cs := #[.int .i64 t243, .int .i64 0]) ?_ 1 _ rfl; (with_reducible repeat (first | apply pzN | apply pzd | apply pza)); refine blk_put (cs := #[.int .i64 0, .int .i64 0]) ?_ 0 _ rfl; (with_reducible repeat (first | apply pzN | apply pzd | apply pza)); exact BK238.out) Try.underlying29 rfl (by kernel_rfl)) rfl ?_
   exact ⟨_, by first | rfl | (simp [errW_none, errW_some] <;> rfl) | (simp [*, errW_none, errW_some] <;> rfl), Kd.V_nil _ _ _ _ _, by repeat (first | (with_reducible first | exact HB.out | apply pzA | apply pzD | apply pz1 | apply pzs | assumption) | exact HB.out)⟩
  ·rw [if_neg c6] at H
   have c6b0 : decide (t242 < 0) = false := decide_eq_false c6
   clear c6
   replace H := zB H
   obtain ⟨t245, A150, H⟩ := H
   replace H : (some (t245, 0, 0)) = some (r1, r2, r3) := H
   have A15 := zM A150
   clear A150
   simp only [Option.some.injEq, Prod.mk.injEq] at H
   obtain ⟨rfl, rfl, rfl⟩ := H
   go_enter Try.func74, Try.ntmps74
   go_wp2_with (first | ((with_reducible refine gate_dst (N := 5) rfl ?_); refine box_event ?hg (N := 5) ?hd (cs := #[.int .i64 0, .int .i64 0]) (t := 29) ?hr ?_; (case hd => rfl); (case hg => rfl); (case hr => first | (go_simp; done) | (go_simp; rfl)); intro gb238 hg w16 hbox hb; have BK238 := zM (hbox); have GW238 := zM ((by rw [hg]; exact (below_size (HB.out)) : w.heap.size ≤ gb238)); have GE238 := GW238; replace HB := zM (below_step (HB.out) hb); clear hb hbox hg) | ((with_reducible refine gate_callee (f := 70) rfl ?_); refine goesL_ (some 9) rfl rfl Try.func70 (by kernel_rfl) rfl #[.slice A0 l0.length c0, .slice A1 l1.length c1] rfl (by (try simp only [zT, zC, zN]); first | done | rfl | (simp only [zR, zL]; rfl)) ?_; (with_reducible refine (natural_check.calls _ _ l0 _ _ l1 t239 t240 _ ?side1 ?side2 ?side3 ?side4 A3.out).mono ?_); (case side1 => repeat (first | exact (Kd.C_below HR0.out HB.out) | (with_reducible refine Kd.C_alloc ?_ _) | (with_reducible refine Kd.C_drewN ?_ _) | (with_reducible refine Kd.C_drew ?_))); (case side2 => exact HC0.out); (case side3 => repeat (first | exact (Kd.C_below HR1.out HB.out) | (with_reducible refine Kd.C_alloc ?_ _) | (with_reducible refine Kd.C_drewN ?_ _) | (with_reducible refine Kd.C_drew ?_))); (case side4 => exact HC1.out); rintro e w17 ⟨rfl, hb⟩; refine ⟨_, rfl, ?_⟩; replace BK238 := pzb BK238 hb; replace HB := zM (below_step (by repeat (first | (with_reducible first | exact HB.out | apply pzA | apply pzD | apply pz1 | apply pzs | assumption) | exact HB.out)) hb); (try clear hb); (try clear hb2); (try clear hk); (try clear hi)) | ((with_reducible refine gate_dst (N := 6) rfl ?_); refine box_event ?hg (N := 6) ?hd (cs := #[.int .i64 0, .int .i64 0]) (t := 29) ?hr ?_; (case hd => rfl); (case hg => rfl); (case hr => first | (go_simp; done) | (go_simp; rfl)); intro gb241 hg w18 hbox hb; have BK241 := zM (hbox); have GW241 := zM ((by rw [hg]; exact (below_size (by repeat (first | (with_reducible first | exact HB.out | apply pzA | apply pzD | apply pz1 | apply pzs | assumption) | exact HB.out))) : w.heap.size ≤ gb241)); have GE241 := GW241; have NB238_241 := pzf BK238 hg; have NB241_238 := pzg BK238 hg; replace BK238 := pzb BK238 hb; replace HB := zM (below_step (by repeat (first | (with_reducible first | exact HB.out | apply pzA | apply pzD | apply pz1 | apply pzs | assumption) | exact HB.out)) hb); clear hb hbox hg; have hnb19 := NB241_238.out; have hnc19 := NB238_241.out; have hcz20_0 := pzc (v := .int .i64 0) BK241 0 rfl; have hcz20_1 := pzc (v := .int .i64 0) BK241 1 rfl; have hfz20_0 := zF BK241.out 0; have hfz20_1 := zF BK241.out 1) | ((with_reducible refine gate_callee (f := 71) rfl ?_); refine goesL_ (some 16) rfl rfl Try.func71 (by kernel_rfl) rfl #[.slice A0 l0.length c0, .slice A1 l1.length c1] rfl (by (try simp only [zT, zC, zN]); first | done | rfl | (simp only [zR, zL]; rfl)) ?_; (with_reducible refine (natural_compare.calls k _ _ l0 _ _ l1 t242 _ ?side1 ?side2 ?side3 ?side4 A5.out).mono ?_); (case side1 => exact Kd.C_below HR0.out (by repeat (first | (with_reducible first | exact HB.out | apply pzA | apply pzD | apply pz1 | apply pzs | assumption) | exact HB.out))); (case side2 => exact HC0.out); (case side3 => exact Kd.C_below HR1.out (by repeat (first | (with_reducible first | exact HB.out | apply pzA | apply pzD | apply pz1 | apply pzs | assumption) | exact HB.out))); (case side4 => exact HC1.out); rintro e w' ⟨rfl, ⟨nd, rfl⟩⟩; refine ⟨_, rfl, ?_⟩) | ((with_reducible refine gate_callee (f := 80) rfl ?_); refine goesL_ (some 21) rfl rfl Try.func80 (by kernel_rfl) rfl #[.slice A0 l0.length c0, .slice A1 l1.length c1] rfl (by (try simp only [zT, zC, zN]); first | done | rfl | (simp only [zR, zL]; rfl)) ?_; (with_reducible refine (natural_sub.calls k _ _ l0 _ _ l1 t245 _ ?side1 ?side2 ?side3 ?side4 A15.out).mono ?_); (case side1 => exact Kd.C_below HR0.out (by repeat (first | (with_reducible first | exact HB.out | apply pzA | apply pzD | apply pz1 | apply pzs | assumption) | exact HB.out))); (case side2 => exact HC0.out); (case side3 => exact Kd.C_below HR1.out (by repeat (first | (with_reducible first | exact HB.out | apply pzA | apply pzD | apply pz1 | apply pzs | assumption) | exact HB.out))); (case side4 => exact HC1.out); rintro e w21 ⟨v246, rfl, ho0, hb⟩; refine ⟨_, rfl, ?_⟩; have HO247 := zM (Kd.V_lower (Kd.V_mono (ok' := fun k_ => (w.heap.size ≤ k_) ∧ k_ ≠ gb238 ∧ k_ ≠ gb241) ho0 (fun k_ hk_ => ⟨(Nat.le_trans (below_size (by repeat (first | (with_reducible first | exact HB.out | apply pzA | apply pzD | apply pz1 | apply pzs | assumption) | exact HB.out))) hk_), (Kd.freshB (g := gb238) (o := .cells #[.int .i64 0, .int .i64 0] 29 (0, 0)) (by (with_reducible repeat (first | apply pzN | apply pzd | apply pza)); refine blk_far ?_ NB238_241.out _; (with_reducible repeat (first | apply pzN | apply pzd | apply pza)); refine blk_far ?_ NB238_241.out _; (with_reducible repeat (first | apply pzN | apply pzd | apply pza)); exact BK238.out) k_ hk_), (Kd.freshB (g := gb241) (o := .cells #[.int .i64 t239, .int .i64 t240] 29 (0, 0)) (by (with_reducible repeat (first | apply pzN | apply pzd | apply pza)); refine blk_put (cs := #[.int .i64 t239, .int .i64 0]) ?_ 1 _ rfl; (with_reducible repeat (first | apply pzN | apply pzd | apply pza)); refine blk_put (cs := #[.int .i64 0, .int .i64 0]) ?_ 0 _ rfl; (with_reducible repeat (first | apply pzN | apply pzd | apply pza)); exact BK241.out) k_ hk_)⟩)) (below_size (by repeat (first | (with_reducible first | exact HB.out | apply pzA | apply pzD | apply pz1 | apply pzs | assumption) | exact HB.out)))); replace BK238 := zM (blk_below (g := gb238) (o := .cells #[.int .i64 0, .int .i64 0] 29 (0, 0)) (by (with_reducible repeat (first | apply pzN | apply pzd | apply pza)); refine blk_far ?_ NB238_241.out _; (with_reducible repeat (first | apply pzN | apply pzd | apply pza)); refine blk_far ?_ NB238_241.out _; (with_reducible repeat (first | apply pzN | apply pzd | apply pza)); exact BK238.out) hb); replace HB := zM (below_step (by repeat (first | (with_reducible first | exact HB.out | apply pzA | apply pzD | apply pz1 | apply pzs | assumption) | exact HB.out)) hb); (try clear hb); (try clear hb2); (try clear hk); (try clear hi); (try clear ho0); have hcz22_0 := pzc (v := .int .i64 0) BK238 0 rfl; have hcz22_1 := pzc (v := .int .i64 0) BK238 1 rfl; have hfz22_0 := zF BK238.out 0; have hfz22_1 := zF BK238.out 1))
   refine bodyPost_ret (results_tc rfl _ _ gb238 29 #[.int .i64 0, .int .i64 0] (0, 0) _ rfl (by (with_reducible repeat (first | apply pzN | apply pzd | apply pza)); refine blk_put (cs := #[.int .i64 0, .int .i64 0]) ?_ 1 _ rfl; (with_reducible repeat (first | apply pzN | apply pzd | apply pza)); refine blk_put (cs := #[.int .i64 0, .int .i64 0]) ?_ 0 _ rfl; (with_reducible repeat (first | apply pzN | apply pzd | apply pza)); exact BK238.out) Try.underlying29 rfl (by kernel_rfl)) rfl ?_
   exact ⟨_, by first | rfl | (simp [errW_none, errW_some] <;> rfl) | (simp [*, errW_none, errW_some] <;> rfl), by (with_reducible repeat (first | apply Kd.V_alloc | apply Kd.V_drewN | apply Kd.V_drew)); exact Kd.V_mono (Kd.V_far (p := ⟨gb238, 1, none⟩) (Kd.V_far (p := ⟨gb238, 0, none⟩) (Kd.V_mono HO247.out (fun k_ hk => (⟨hk, hk.2.1⟩ : _ ∧ k_ ≠ gb238))) (fun _ hk => hk.2) (.int .i64 0)) (fun _ hk => hk.2) (.int .i64 0)) (fun _ hk => hk.1.1), by repeat (first | (with_reducible first | exact HB.out | apply pzA | apply pzD | apply pz1 | apply pzs | assumption) | exact HB.out)⟩
 ·rw [if_neg c4] at H
  have c4b0 : (t239 == 0) = false := beq_eq_false_iff_ne.mpr c4
  have c4b1 : (t239 != 0) = true := bne_iff_ne.mpr c4
  simp only [Option.some.injEq, Prod.mk.injEq] at H
  obtain ⟨rfl, rfl, rfl⟩ := H
  go_enter Try.func74, Try.ntmps74
  try go_wp2_with (first | ((with_reducible refine gate_dst (N := 5) rfl ?_); refine box_event ?hg (N := 5) ?hd (cs := #[.int .i64 0, .int .i64 0]) (t := 29) ?hr ?_; (case hd => rfl); (case hg => rfl); (case hr => first | (go_simp; done) | (go_simp; rfl)); intro gb238 hg w23 hbox hb; have BK238 := zM (hbox); have GW238 := zM ((by rw [hg]; exact (below_size (HB.out)) : w.heap.size ≤ gb238)); have GE238 := GW238; replace HB := zM (below_step (HB.out) hb); clear hb hbox hg) | ((with_reducible refine gate_callee (f := 70) rfl ?_); refine goesL_ (some 9) rfl rfl Try.func70 (by kernel_rfl) rfl #[.slice A0 l0.length c0, .slice A1 l1.length c1] rfl (by (try simp only [zT, zC, zN]); first | done | rfl | (simp only [zR, zL]; rfl)) ?_; (with_reducible refine (natural_check.calls _ _ l0 _ _ l1 t239 t240 _ ?side1 ?side2 ?side3 ?side4 A3.out).mono ?_); (case side1 => repeat (first | exact (Kd.C_below HR0.out HB.out) | (with_reducible refine Kd.C_alloc ?_ _) | (with_reducible refine Kd.C_drewN ?_ _) | (with_reducible refine Kd.C_drew ?_))); (case side2 => exact HC0.out); (case side3 => repeat (first | exact (Kd.C_below HR1.out HB.out) | (with_reducible refine Kd.C_alloc ?_ _) | (with_reducible refine Kd.C_drewN ?_ _) | (with_reducible refine Kd.C_drew ?_))); (case side4 => exact HC1.out); rintro e w24 ⟨rfl, hb⟩; refine ⟨_, rfl, ?_⟩; replace BK238 := pzb BK238 hb; replace HB := zM (below_step (by repeat (first | (with_reducible first | exact HB.out | apply pzA | apply pzD | apply pz1 | apply pzs | assumption) | exact HB.out)) hb); (try clear hb); (try clear hb2); (try clear hk); (try clear hi)) | ((with_reducible refine gate_dst (N := 6) rfl ?_); refine box_event ?hg (N := 6) ?hd (cs := #[.int .i64 0, .int .i64 0]) (t := 29) ?hr ?_; (case hd => rfl); (case hg => rfl); (case hr => first | (go_simp; done) | (go_simp; rfl)); intro gb241 hg w25 hbox hb; have BK241 := zM (hbox); have GW241 := zM ((by rw [hg]; exact (below_size (by repeat (first | (with_reducible first | exact HB.out | apply pzA | apply pzD | apply pz1 | apply pzs | assumption) | exact HB.out))) : w.heap.size ≤ gb241)); have GE241 := GW241; have NB238_241 := pzf BK238 hg; have NB241_238 := pzg BK238 hg; replace BK238 := pzb BK238 hb; replace HB := zM (below_step (by repeat (first | (with_reducible first | exact HB.out | apply pzA | apply pzD | apply pz1 | apply pzs | assumption) | exact HB.out)) hb); clear hb hbox hg; have hnb26 := NB241_238.out; have hnc26 := NB238_241.out; have hcz27_0 := pzc (v := .int .i64 0) BK241 0 rfl; have hcz27_1 := pzc (v := .int .i64 0) BK241 1 rfl; have hfz27_0 := zF BK241.out 0; have hfz27_1 := zF BK241.out 1))
  have n0_ : Aside0 (((w25.setCell ⟨gb241, 0, none⟩ (.int .i64 t239)).setCell ⟨gb241, 1, none⟩ (.int .i64 t240)).heap[gb238]? = some (.cells #[.int .i64 0, .int .i64 0] 29 (0, 0))) := ⟨by (with_reducible repeat (first | apply pzN | apply pzd | apply pza)); refine blk_far ?_ NB238_241.out _; (with_reducible repeat (first | apply pzN | apply pzd | apply pza)); refine blk_far ?_ NB238_241.out _; (with_reducible repeat (first | apply pzN | apply pzd | apply pza)); exact BK238.out⟩
  have n1_ : Aside0 (((w25.setCell ⟨gb241, 0, none⟩ (.int .i64 t239)).setCell ⟨gb241, 1, none⟩ (.int .i64 t240)).heap[gb241]? = some (.cells #[.int .i64 t239, .int .i64 t240] 29 (0, 0))) := ⟨by (with_reducible repeat (first | apply pzN | apply pzd | apply pza)); refine blk_put (cs := #[.int .i64 t239, .int .i64 0]) ?_ 1 _ rfl; (with_reducible repeat (first | apply pzN | apply pzd | apply pza)); refine blk_put (cs := #[.int .i64 0, .int .i64 0]) ?_ 0 _ rfl; (with_reducible repeat (first | apply pzN | apply pzd | apply pza)); exact BK241.out⟩
  have n2_ : Aside0 (Below w.heap.size w ((w25.setCell ⟨gb241, 0, none⟩ (.int .i64 t239)).setCell ⟨gb241, 1, none⟩ (.int .i64 t240))) := ⟨by repeat (first | (with_reducible first | exact HB.out | apply pzA | apply pzD | apply pz1 | apply pzs | assumption) | exact HB.out)⟩
  (try clear BK238)
  (try clear BK241)
  (try clear HB)
  generalize ((w25.setCell ⟨gb241, 0, none⟩ (.int .i64 t239)).setCell ⟨gb241, 1, none⟩ (.int .i64 t240)) = w28 at n0_ n1_ n2_ ⊢
  have BK238 := n0_
  have BK241 := n1_
  have HB := n2_
  clear n0_ n1_ n2_
  replace BK238 := zM (blk_drew BK238.out)
  replace BK241 := zM (blk_drew BK241.out)
  replace HB := zM (below_drew1 HB.out)
  refine start_ (n := 3) (S := fun w' => w'.cell? ⟨gb241, 0, none⟩ = some (.int .i64 t239) ∧ w'.cell? ⟨gb241, 1, none⟩ = some (.int .i64 t240)) (ds := []) #[false, false, false] (by kernel_rfl) rfl rfl ⟨(blk_cell BK241.out 0).trans rfl, (blk_cell BK241.out 1).trans rfl⟩ (fun hHeld => ?_)
  generalize w28.drew = w29 at BK238 HB hHeld ⊢
  refine pure_ (i := 1) (N := some 4) (v := ?_) (a' := ?_) #[false, true, false] rfl rfl (by kernel_rfl) (fun _ _ _ h => h) (Or.inl ⟨by rfl, ?_⟩) ?_ ?_
  rotate_left
  ·intro w'
   go_simp
   with_reducible rfl
  rotate_left
  ·simp only [Act.put, zS, z0, z1, i64_w, i32_w]
   rfl
  refine take_ (i := 0) (N := some 13) (v := ?_) (a' := ?_) #[true, true, false] rfl rfl (by kernel_rfl) (fun _ _ _ h => h) (Or.inl ⟨by rfl, ?_⟩) hHeld ?_ ?_
  rotate_left
  ·rintro w' ⟨s0, s1⟩
   go_simp
   with_reducible rfl
  rotate_left
  ·simp only [Act.put, zS, z0, z1, i64_w, i32_w]
   rfl
  refine one_ (i := 2) (N := none) #[true, true, true] rfl rfl (by kernel_rfl) (by decide) (fun K hK => ?_)
  have hs30 : w29.cell? ⟨gb238, 0, none⟩ = some (.int .i64 0) := (blk_cell BK238.out 0).trans rfl
  have hfs30 := zF BK238.out 0
  have hns30_1 := NB241_238.out
  have hms30_1 := NB238_241.out
  have hs31 : w29.cell? ⟨gb238, 1, none⟩ = some (.int .i64 0) := (blk_cell BK238.out 1).trans rfl
  have hfs31 := zF BK238.out 1
  have hns31_1 := NB241_238.out
  have hms31_1 := NB238_241.out
  refine skip_ (w1 := ?_) (by rfl) rfl ?_ ?_
  rotate_left
  ·go_simp
   rfl
  refine hK.out _ _ ⟨((cell_far (p := ⟨gb238, _, none⟩) NB241_238.out _).trans (((cell_far (p := ⟨gb238, _, none⟩) NB241_238.out _).trans (hHeld.1)))), ((cell_far (p := ⟨gb238, _, none⟩) NB241_238.out _).trans (((cell_far (p := ⟨gb238, _, none⟩) NB241_238.out _).trans (hHeld.2))))⟩ (fun hHeld => ?_)
  clear hK K
  refine done_ (by kernel_rfl) ?_
  try go_wp2
  refine bodyPost_ret (results_tc rfl _ _ gb238 29 #[.int .i64 t239, .int .i64 t240] (0, 0) _ rfl (by (with_reducible repeat (first | apply pzN | apply pzd | apply pza)); refine blk_put (cs := #[.int .i64 t239, .int .i64 0]) ?_ 1 _ rfl; (with_reducible repeat (first | apply pzN | apply pzd | apply pza)); refine blk_put (cs := #[.int .i64 0, .int .i64 0]) ?_ 0 _ rfl; (with_reducible repeat (first | apply pzN | apply pzd | apply pza)); exact BK238.out) Try.underlying29 rfl (by kernel_rfl)) rfl ?_
  exact ⟨_, by first | rfl | (simp [errW_none, errW_some] <;> rfl) | (simp [*, errW_none, errW_some] <;> rfl), Kd.V_nil _ _ _ _ _, by repeat (first | (with_reducible first | exact HB.out | apply pzA | apply pzD | apply pz1 | apply pzs | assumption) | exact HB.out)⟩

/-! ### integer_plus: function 64 -/

def integer_plus.f (k : Nat) (a0_0 : Bool) (l0_1 : List Int) (a1_0 : Bool) (l1_1 : List Int) : Option (Bool × List Int × Int × Int) :=
  if a0_0 = a1_0 then (natural_Add.f k l0_1 l1_1).bind fun s => integer_signed.f a0_0 s.1 else (natural_Cmp.f k l0_1 l1_1).bind fun c => if c.1 < 0 then (natural_Sub.f k l1_1 l0_1).bind fun s => integer_signed.f a1_0 s.1 else (natural_Sub.f k l0_1 l1_1).bind fun s => integer_signed.f a0_0 s.1
theorem integer_plus.mono : ∀ a0 a1 a2 a3 k, LeO (integer_plus.f k a0 a1 a2 a3) (integer_plus.f (k + 1) a0 a1 a2 a3) := by
  intro a0 a1 a2 a3 k
  unfold integer_plus.f
  exact LeO.ite (LeO.bind (natural_Add.mono _ _ _) (fun _ => LeO.refl _)) (LeO.bind (natural_Cmp.mono _ _ _) (fun _ => LeO.ite (LeO.bind (natural_Sub.mono _ _ _) (fun _ => LeO.refl _)) (LeO.bind (natural_Sub.mono _ _ _) (fun _ => LeO.refl _))))
set_option maxHeartbeats 1000000 in
set_option maxRecDepth 100000 in
theorem integer_plus.calls (k : Nat) (a0_0 : Bool) (A0_1 : Option Addr) (c0_1 : Nat) (l0_1 : List Int) (a1_0 : Bool) (A1_1 : Option Addr) (c1_1 : Nat) (l1_1 : List Int) (r1 : Bool) (r2 : List Int) (r3 : Int) (r4 : Int) (w : World) (hr0_1 : Kd.C (Kd.int .u32) w A0_1 l0_1.length l0_1) (hc0_1 : l0_1.length ≤ c0_1) (hr1_1 : Kd.C (Kd.int .u32) w A1_1 l1_1.length l1_1) (hc1_1 : l1_1.length ≤ c1_1) (h : integer_plus.f k a0_0 l0_1 a1_0 l1_1 = some (r1, r2, r3, r4)) :
    Calls Try.prog 64 #[.agg #[.bool a0_0, .slice A0_1 l0_1.length c0_1], .agg #[.bool a1_0, .slice A1_1 l1_1.length c1_1]] w fun e w' => ∃ v1_ : Value, e = .returned (.tuple #[.agg #[.bool r1, v1_], .agg #[.int .i64 r3, .int .i64 r4]]) ∧ Kd.V (Kd.int .u32) 76 w' w.heap.size (fun k_ => (w.heap.size ≤ k_)) v1_ r2 ∧ Below w.heap.size w w' := by
  unfold integer_plus.f at h
  have R0 := Aside0.mk hr0_1
  have R1 := Aside0.mk hr1_1
  have C0 := Aside0.mk hc0_1
  have C1 := Aside0.mk hc1_1
  clear hr0_1 hr1_1 hc0_1 hc1_1
  have hu24 := Try.underlying24
  have hu29 := Try.underlying29
  by_cases hs : a0_0 = a1_0
  · rw [if_pos hs] at h
    subst hs
    obtain ⟨⟨s, y1, y2⟩, h2, h⟩ := Option.bind_eq_some_iff.mp h
    have H2 := Aside0.mk h2
    have H3 := Aside0.mk h
    clear h2 h
    go_enter Try.func64, Try.ntmps64
    go_wp2_with fail
    go_at_call 72
    refine (natural_Add.calls k _ _ _ _ _ _ s y1 y2 _ (Kd.C_below R0.out (below_alloc (below_alloc (below_alloc (below_alloc (Below.refl _ _) _) _) _) _)) C0.out (Kd.C_below R1.out (below_alloc (below_alloc (below_alloc (below_alloc (Below.refl _ _) _) _) _) _)) C1.out H2.out).mono ?_
    rintro e w1 ⟨v0, rfl, ho, hb⟩
    have hz := hb.size
    simp only [World.size_alloc] at hz
    have B0 : w1.heap[w.heap.size]? = some (.cells #[.bool a0_0, .slice A0_1 l0_1.length c0_1] 24 (0, 0)) := blk_below (blk_alloc (blk_alloc (blk_alloc (heap_at (by simp only [World.size_alloc]) _) _) _) _) hb
    have kc0_0 : w1.cell? ⟨w.heap.size, 0, none⟩ = some (.bool a0_0) := (blk_cell B0 0).trans rfl
    have kf0_0 := blk_frozen B0 0
    have kc0_1 : w1.cell? ⟨w.heap.size, 1, none⟩ = some (.slice A0_1 l0_1.length c0_1) := (blk_cell B0 1).trans rfl
    have kf0_1 := blk_frozen B0 1
    have l0 : w.heap.size < w1.heap.size := by omega
    have n0 : w.heap.size ≠ w1.heap.size := by omega
    have B2 : w1.heap[w.heap.size + 1 + 1]? = some (.cells #[.bool false, .slice none 0 0] 24 (0, 0)) := blk_below (blk_alloc (heap_at (by simp only [World.size_alloc]) _) _) hb
    have kc2_0 : w1.cell? ⟨w.heap.size + 1 + 1, 0, none⟩ = some (.bool false) := (blk_cell B2 0).trans rfl
    have kf2_0 := blk_frozen B2 0
    have kc2_1 : w1.cell? ⟨w.heap.size + 1 + 1, 1, none⟩ = some (.slice none 0 0) := (blk_cell B2 1).trans rfl
    have kf2_1 := blk_frozen B2 1
    have l2 : w.heap.size + 1 + 1 < w1.heap.size := by omega
    have n2 : w.heap.size + 1 + 1 ≠ w1.heap.size := by omega
    have B3 : w1.heap[w.heap.size + 1 + 1 + 1]? = some (.cells #[.int .i64 0, .int .i64 0] 29 (0, 0)) := blk_below (heap_at (by simp only [World.size_alloc]) _) hb
    have kc3_0 : w1.cell? ⟨w.heap.size + 1 + 1 + 1, 0, none⟩ = some (.int .i64 0) := (blk_cell B3 0).trans rfl
    have kf3_0 := blk_frozen B3 0
    have kc3_1 : w1.cell? ⟨w.heap.size + 1 + 1 + 1, 1, none⟩ = some (.int .i64 0) := (blk_cell B3 1).trans rfl
    have kf3_1 := blk_frozen B3 1
    have l3 : w.heap.size + 1 + 1 + 1 < w1.heap.size := by omega
    have n3 : w.heap.size + 1 + 1 + 1 ≠ w1.heap.size := by omega
    have HB := Aside0.mk (below_step (below_alloc (below_alloc (below_alloc (below_alloc (Below.refl _ _) _) _) _) _) hb)
    obtain ⟨Av, cv, rfl, hl, hF⟩ := ho
    have HV := Aside0.mk (show Kd.V (Kd.int .u32) 76 w1 w.heap.size (fun k_ => w.heap.size + 1 + 1 + 1 + 1 ≤ k_) (.slice Av s.length cv) s from Kd.V_mono (Kd.V_mk hl hF) (fun k_ hk => by simp only [World.size_alloc, World.size_setCell] at hk; omega))
    clear hb hl hF
    go_wp2_with fail
    go_at_call 73
    refine (integer_signed.calls a0_0 (fun k_ => w.heap.size + 1 + 1 + 1 + 1 ≤ k_) Av cv s r1 r2 r3 r4 _ (Kd.V_alloc HV.out _) H3.out).mono ?_
    rintro e w9 ⟨v, rfl, ho, hb⟩
    obtain ⟨Aw, cw, rfl, hl, hF⟩ := ho
    have hzs := hb.size
    simp only [World.size_alloc, World.size_setCell, World.size_drew] at hzs
    have B2s : w9.heap[w.heap.size + 1 + 1]? = some (.cells #[.bool false, .slice none 0 0] 24 (0, 0)) := blk_below (blk_alloc (B2) _) hb
    have kc2_0s : w9.cell? ⟨w.heap.size + 1 + 1, 0, none⟩ = some (.bool false) := (blk_cell B2s 0).trans rfl
    have kf2_0s := blk_frozen B2s 0
    have kc2_1s : w9.cell? ⟨w.heap.size + 1 + 1, 1, none⟩ = some (.slice none 0 0) := (blk_cell B2s 1).trans rfl
    have kf2_1s := blk_frozen B2s 1
    have l2s : w.heap.size + 1 + 1 < w9.heap.size := by omega
    have n2s : w.heap.size + 1 + 1 ≠ w9.heap.size := by omega
    have B3s : w9.heap[w.heap.size + 1 + 1 + 1]? = some (.cells #[.int .i64 0, .int .i64 0] 29 (0, 0)) := blk_below (blk_alloc (B3) _) hb
    have kc3_0s : w9.cell? ⟨w.heap.size + 1 + 1 + 1, 0, none⟩ = some (.int .i64 0) := (blk_cell B3s 0).trans rfl
    have kf3_0s := blk_frozen B3s 0
    have kc3_1s : w9.cell? ⟨w.heap.size + 1 + 1 + 1, 1, none⟩ = some (.int .i64 0) := (blk_cell B3s 1).trans rfl
    have kf3_1s := blk_frozen B3s 1
    have l3s : w.heap.size + 1 + 1 + 1 < w9.heap.size := by omega
    have n3s : w.heap.size + 1 + 1 + 1 ≠ w9.heap.size := by omega
    have HB9 := Aside0.mk (below_step (below_alloc HB.out _) hb)
    have HV9 := Aside0.mk (show Kd.V (Kd.int .u32) 76 w9 w.heap.size (fun k_ => w.heap.size + 1 + 1 + 1 + 1 ≤ k_) (.slice Aw r2.length cw) r2 from Kd.V_mono (Kd.V_mk hl hF) (fun k_ hk => Or.elim hk id (fun hk => by simp only [World.size_alloc] at hk; omega)))
    clear hb hl hF
    go_wp2_with fail
    refine bodyPost_ret (v := .tuple #[.agg #[.bool r1, .slice Aw r2.length cw], .agg #[.int .i64 r3, .int .i64 r4]]) (by simp [results, Try.results64, go_sem, World.cell?_alloc_lt, *]) rfl ⟨_, rfl, ?_, ?_⟩
    · refine Kd.V_mono (ok := fun k_ => w.heap.size + 1 + 1 + 1 + 1 ≤ k_) ?_ (fun _ _ => by omega)
      repeat (first | exact HV9.out | refine Kd.V_far ?_ (fun k_ hk => ?_) _)
      all_goals (try (dsimp only; omega))
    · repeat (first | exact HB9.out | apply below_drew1 | refine below_set ?_ (by omega) | apply below_alloc)

  · rw [if_neg hs] at h
    have hs1 : (a0_0 == a1_0) = false := beq_eq_false_iff_ne.mpr hs
    clear hs
    obtain ⟨⟨c, z1, z2⟩, h1, h⟩ := Option.bind_eq_some_iff.mp h
    have H1 := Aside0.mk h1
    clear h1
    dsimp only at h
    go_enter Try.func64, Try.ntmps64
    go_wp2_with fail
    go_at_call 63
    refine (natural_Cmp.calls k _ _ _ _ _ _ c z1 z2 _ (Kd.C_below R0.out (below_alloc (below_alloc (below_alloc (below_alloc (Below.refl _ _) _) _) _) _)) C0.out (Kd.C_below R1.out (below_alloc (below_alloc (below_alloc (below_alloc (Below.refl _ _) _) _) _) _)) C1.out H1.out).mono ?_
    rintro e w1 ⟨rfl, hb⟩
    have hz := hb.size
    simp only [World.size_alloc] at hz
    have B0 : w1.heap[w.heap.size]? = some (.cells #[.bool a0_0, .slice A0_1 l0_1.length c0_1] 24 (0, 0)) := blk_below (blk_alloc (blk_alloc (blk_alloc (heap_at (by simp only [World.size_alloc]) _) _) _) _) hb
    have kc0_0 : w1.cell? ⟨w.heap.size, 0, none⟩ = some (.bool a0_0) := (blk_cell B0 0).trans rfl
    have kf0_0 := blk_frozen B0 0
    have kc0_1 : w1.cell? ⟨w.heap.size, 1, none⟩ = some (.slice A0_1 l0_1.length c0_1) := (blk_cell B0 1).trans rfl
    have kf0_1 := blk_frozen B0 1
    have l0 : w.heap.size < w1.heap.size := by omega
    have n0 : w.heap.size ≠ w1.heap.size := by omega
    have B1 : w1.heap[w.heap.size + 1]? = some (.cells #[.bool a1_0, .slice A1_1 l1_1.length c1_1] 24 (0, 0)) := blk_below (blk_alloc (blk_alloc (heap_at (by simp only [World.size_alloc]) _) _) _) hb
    have kc1_0 : w1.cell? ⟨w.heap.size + 1, 0, none⟩ = some (.bool a1_0) := (blk_cell B1 0).trans rfl
    have kf1_0 := blk_frozen B1 0
    have kc1_1 : w1.cell? ⟨w.heap.size + 1, 1, none⟩ = some (.slice A1_1 l1_1.length c1_1) := (blk_cell B1 1).trans rfl
    have kf1_1 := blk_frozen B1 1
    have l1 : w.heap.size + 1 < w1.heap.size := by omega
    have n1 : w.heap.size + 1 ≠ w1.heap.size := by omega
    have B2 : w1.heap[w.heap.size + 1 + 1]? = some (.cells #[.bool false, .slice none 0 0] 24 (0, 0)) := blk_below (blk_alloc (heap_at (by simp only [World.size_alloc]) _) _) hb
    have kc2_0 : w1.cell? ⟨w.heap.size + 1 + 1, 0, none⟩ = some (.bool false) := (blk_cell B2 0).trans rfl
    have kf2_0 := blk_frozen B2 0
    have kc2_1 : w1.cell? ⟨w.heap.size + 1 + 1, 1, none⟩ = some (.slice none 0 0) := (blk_cell B2 1).trans rfl
    have kf2_1 := blk_frozen B2 1
    have l2 : w.heap.size + 1 + 1 < w1.heap.size := by omega
    have n2 : w.heap.size + 1 + 1 ≠ w1.heap.size := by omega
    have B3 : w1.heap[w.heap.size + 1 + 1 + 1]? = some (.cells #[.int .i64 0, .int .i64 0] 29 (0, 0)) := blk_below (heap_at (by simp only [World.size_alloc]) _) hb
    have kc3_0 : w1.cell? ⟨w.heap.size + 1 + 1 + 1, 0, none⟩ = some (.int .i64 0) := (blk_cell B3 0).trans rfl
    have kf3_0 := blk_frozen B3 0
    have kc3_1 : w1.cell? ⟨w.heap.size + 1 + 1 + 1, 1, none⟩ = some (.int .i64 0) := (blk_cell B3 1).trans rfl
    have kf3_1 := blk_frozen B3 1
    have l3 : w.heap.size + 1 + 1 + 1 < w1.heap.size := by omega
    have n3 : w.heap.size + 1 + 1 + 1 ≠ w1.heap.size := by omega
    have HBc := Aside0.mk (below_step (below_alloc (below_alloc (below_alloc (below_alloc (Below.refl _ _) _) _) _) _) hb)
    clear hb
    by_cases hc : c < 0
    · rw [if_pos hc] at h
      have hc1 : decide (c < 0) = true := decide_eq_true hc
      clear hc
      obtain ⟨⟨s, y1, y2⟩, h2, h⟩ := Option.bind_eq_some_iff.mp h
      have H2 := Aside0.mk h2
      have H3 := Aside0.mk h
      clear h2 h
      go_wp2_with fail
      go_at_call 74
      refine (natural_Sub.calls k _ _ _ _ _ _ s y1 y2 _ (Kd.C_below R1.out ?b1) C1.out (Kd.C_below R0.out ?b2) C0.out H2.out).mono ?_
      case b1 => with_reducible repeat (first | exact HBc.out | refine below_set ?_ (by omega) | apply below_alloc)
      case b2 => with_reducible repeat (first | exact HBc.out | refine below_set ?_ (by omega) | apply below_alloc)
      rintro e w2 ⟨v0, rfl, ho, hb⟩
      have hzt := hb.size
      simp only [World.size_alloc, World.size_setCell, World.size_drew] at hzt
      have B0t : w2.heap[w.heap.size]? = some (.cells #[.bool a1_0, .slice A1_1 l1_1.length c1_1] 24 (0, 0)) := blk_below (by refine blk_alloc ?_ _; refine blk_far ?_ (by first | omega | (dsimp only; omega)) _; refine blk_far ?_ (by first | omega | (dsimp only; omega)) _; refine blk_put (cs := #[.bool a1_0, .slice A0_1 l0_1.length c0_1]) ?_ 1 _ rfl; refine blk_put (cs := #[.bool a0_0, .slice A0_1 l0_1.length c0_1]) ?_ 0 _ rfl; exact B0) hb
      have kc0_0t : w2.cell? ⟨w.heap.size, 0, none⟩ = some (.bool a1_0) := (blk_cell B0t 0).trans rfl
      have kf0_0t := blk_frozen B0t 0
      have kc0_1t : w2.cell? ⟨w.heap.size, 1, none⟩ = some (.slice A1_1 l1_1.length c1_1) := (blk_cell B0t 1).trans rfl
      have kf0_1t := blk_frozen B0t 1
      have l0t : w.heap.size < w2.heap.size := by omega
      have n0t : w.heap.size ≠ w2.heap.size := by omega
      have B2t : w2.heap[w.heap.size + 1 + 1]? = some (.cells #[.bool false, .slice none 0 0] 24 (0, 0)) := blk_below (by with_reducible refine blk_alloc ?_ _; refine blk_far ?_ ?_ _; refine blk_far ?_ ?_ _; refine blk_far ?_ ?_ _; refine blk_far ?_ ?_ _; exact B2; all_goals (first | omega | (dsimp only; omega))) hb
      have kc2_0t : w2.cell? ⟨w.heap.size + 1 + 1, 0, none⟩ = some (.bool false) := (blk_cell B2t 0).trans rfl
      have kf2_0t := blk_frozen B2t 0
      have kc2_1t : w2.cell? ⟨w.heap.size + 1 + 1, 1, none⟩ = some (.slice none 0 0) := (blk_cell B2t 1).trans rfl
      have kf2_1t := blk_frozen B2t 1
      have l2t : w.heap.size + 1 + 1 < w2.heap.size := by omega
      have n2t : w.heap.size + 1 + 1 ≠ w2.heap.size := by omega
      have B3t : w2.heap[w.heap.size + 1 + 1 + 1]? = some (.cells #[.int .i64 0, .int .i64 0] 29 (0, 0)) := blk_below (by with_reducible refine blk_alloc ?_ _; refine blk_far ?_ ?_ _; refine blk_far ?_ ?_ _; refine blk_far ?_ ?_ _; refine blk_far ?_ ?_ _; exact B3; all_goals (first | omega | (dsimp only; omega))) hb
      have kc3_0t : w2.cell? ⟨w.heap.size + 1 + 1 + 1, 0, none⟩ = some (.int .i64 0) := (blk_cell B3t 0).trans rfl
      have kf3_0t := blk_frozen B3t 0
      have kc3_1t : w2.cell? ⟨w.heap.size + 1 + 1 + 1, 1, none⟩ = some (.int .i64 0) := (blk_cell B3t 1).trans rfl
      have kf3_1t := blk_frozen B3t 1
      have l3t : w.heap.size + 1 + 1 + 1 < w2.heap.size := by omega
      have n3t : w.heap.size + 1 + 1 + 1 ≠ w2.heap.size := by omega
      have HB : Aside0 (Below w.heap.size w w2) := ⟨below_step (by with_reducible repeat (first | exact HBc.out | refine below_set ?_ (by omega) | apply below_alloc)) hb⟩
      obtain ⟨Av, cv, rfl, hl, hF⟩ := ho
      have HV := Aside0.mk (show Kd.V (Kd.int .u32) 76 w2 w.heap.size (fun k_ => w.heap.size + 1 + 1 + 1 + 1 ≤ k_) (.slice Av s.length cv) s from Kd.V_mono (Kd.V_mk hl hF) (fun k_ hk => by simp only [World.size_alloc, World.size_setCell] at hk; omega))
      clear hb hl hF
      go_wp2_with fail
      go_at_call 73
      refine (integer_signed.calls a1_0 (fun k_ => w.heap.size + 1 + 1 + 1 + 1 ≤ k_) Av cv s r1 r2 r3 r4 _ (Kd.V_alloc HV.out _) H3.out).mono ?_
      rintro e w9 ⟨v, rfl, ho, hb⟩
      obtain ⟨Aw, cw, rfl, hl, hF⟩ := ho
      have hzs := hb.size
      simp only [World.size_alloc, World.size_setCell, World.size_drew] at hzs
      have B2s : w9.heap[w.heap.size + 1 + 1]? = some (.cells #[.bool false, .slice none 0 0] 24 (0, 0)) := blk_below (blk_alloc (B2t) _) hb
      have kc2_0s : w9.cell? ⟨w.heap.size + 1 + 1, 0, none⟩ = some (.bool false) := (blk_cell B2s 0).trans rfl
      have kf2_0s := blk_frozen B2s 0
      have kc2_1s : w9.cell? ⟨w.heap.size + 1 + 1, 1, none⟩ = some (.slice none 0 0) := (blk_cell B2s 1).trans rfl
      have kf2_1s := blk_frozen B2s 1
      have l2s : w.heap.size + 1 + 1 < w9.heap.size := by omega
      have n2s : w.heap.size + 1 + 1 ≠ w9.heap.size := by omega
      have B3s : w9.heap[w.heap.size + 1 + 1 + 1]? = some (.cells #[.int .i64 0, .int .i64 0] 29 (0, 0)) := blk_below (blk_alloc (B3t) _) hb
      have kc3_0s : w9.cell? ⟨w.heap.size + 1 + 1 + 1, 0, none⟩ = some (.int .i64 0) := (blk_cell B3s 0).trans rfl
      have kf3_0s := blk_frozen B3s 0
      have kc3_1s : w9.cell? ⟨w.heap.size + 1 + 1 + 1, 1, none⟩ = some (.int .i64 0) := (blk_cell B3s 1).trans rfl
      have kf3_1s := blk_frozen B3s 1
      have l3s : w.heap.size + 1 + 1 + 1 < w9.heap.size := by omega
      have n3s : w.heap.size + 1 + 1 + 1 ≠ w9.heap.size := by omega
      have HB9 := Aside0.mk (below_step (below_alloc HB.out _) hb)
      have HV9 := Aside0.mk (show Kd.V (Kd.int .u32) 76 w9 w.heap.size (fun k_ => w.heap.size + 1 + 1 + 1 + 1 ≤ k_) (.slice Aw r2.length cw) r2 from Kd.V_mono (Kd.V_mk hl hF) (fun k_ hk => Or.elim hk id (fun hk => by simp only [World.size_alloc] at hk; omega)))
      clear hb hl hF
      go_wp2_with fail
      refine bodyPost_ret (v := .tuple #[.agg #[.bool r1, .slice Aw r2.length cw], .agg #[.int .i64 r3, .int .i64 r4]]) (by simp [results, Try.results64, go_sem, World.cell?_alloc_lt, *]) rfl ⟨_, rfl, ?_, ?_⟩
      · refine Kd.V_mono (ok := fun k_ => w.heap.size + 1 + 1 + 1 + 1 ≤ k_) ?_ (fun _ _ => by omega)
        repeat (first | exact HV9.out | refine Kd.V_far ?_ (fun k_ hk => ?_) _)
        all_goals (try (dsimp only; omega))
      · repeat (first | exact HB9.out | apply below_drew1 | refine below_set ?_ (by omega) | apply below_alloc)

    · rw [if_neg hc] at h
      have hc1 : decide (c < 0) = false := decide_eq_false hc
      clear hc
      obtain ⟨⟨s, y1, y2⟩, h2, h⟩ := Option.bind_eq_some_iff.mp h
      have H2 := Aside0.mk h2
      have H3 := Aside0.mk h
      clear h2 h
      go_wp2_with fail
      go_at_call 74
      refine (natural_Sub.calls k _ _ _ _ _ _ s y1 y2 _ (Kd.C_below R0.out (below_alloc HBc.out _)) C0.out (Kd.C_below R1.out (below_alloc HBc.out _)) C1.out H2.out).mono ?_
      rintro e w2 ⟨v0, rfl, ho, hb⟩
      have hzt := hb.size
      simp only [World.size_alloc, World.size_setCell, World.size_drew] at hzt
      have B0t : w2.heap[w.heap.size]? = some (.cells #[.bool a0_0, .slice A0_1 l0_1.length c0_1] 24 (0, 0)) := blk_below (blk_alloc (B0) _) hb
      have kc0_0t : w2.cell? ⟨w.heap.size, 0, none⟩ = some (.bool a0_0) := (blk_cell B0t 0).trans rfl
      have kf0_0t := blk_frozen B0t 0
      have kc0_1t : w2.cell? ⟨w.heap.size, 1, none⟩ = some (.slice A0_1 l0_1.length c0_1) := (blk_cell B0t 1).trans rfl
      have kf0_1t := blk_frozen B0t 1
      have l0t : w.heap.size < w2.heap.size := by omega
      have n0t : w.heap.size ≠ w2.heap.size := by omega
      have B2t : w2.heap[w.heap.size + 1 + 1]? = some (.cells #[.bool false, .slice none 0 0] 24 (0, 0)) := blk_below (blk_alloc (B2) _) hb
      have kc2_0t : w2.cell? ⟨w.heap.size + 1 + 1, 0, none⟩ = some (.bool false) := (blk_cell B2t 0).trans rfl
      have kf2_0t := blk_frozen B2t 0
      have kc2_1t : w2.cell? ⟨w.heap.size + 1 + 1, 1, none⟩ = some (.slice none 0 0) := (blk_cell B2t 1).trans rfl
      have kf2_1t := blk_frozen B2t 1
      have l2t : w.heap.size + 1 + 1 < w2.heap.size := by omega
      have n2t : w.heap.size + 1 + 1 ≠ w2.heap.size := by omega
      have B3t : w2.heap[w.heap.size + 1 + 1 + 1]? = some (.cells #[.int .i64 0, .int .i64 0] 29 (0, 0)) := blk_below (blk_alloc (B3) _) hb
      have kc3_0t : w2.cell? ⟨w.heap.size + 1 + 1 + 1, 0, none⟩ = some (.int .i64 0) := (blk_cell B3t 0).trans rfl
      have kf3_0t := blk_frozen B3t 0
      have kc3_1t : w2.cell? ⟨w.heap.size + 1 + 1 + 1, 1, none⟩ = some (.int .i64 0) := (blk_cell B3t 1).trans rfl
      have kf3_1t := blk_frozen B3t 1
      have l3t : w.heap.size + 1 + 1 + 1 < w2.heap.size := by omega
      have n3t : w.heap.size + 1 + 1 + 1 ≠ w2.heap.size := by omega
      have HB := Aside0.mk (below_step (below_alloc HBc.out _) hb)
      obtain ⟨Av, cv, rfl, hl, hF⟩ := ho
      have HV := Aside0.mk (show Kd.V (Kd.int .u32) 76 w2 w.heap.size (fun k_ => w.heap.size + 1 + 1 + 1 + 1 ≤ k_) (.slice Av s.length cv) s from Kd.V_mono (Kd.V_mk hl hF) (fun k_ hk => by simp only [World.size_alloc, World.size_setCell] at hk; omega))
      clear hb hl hF
      go_wp2_with fail
      go_at_call 73
      refine (integer_signed.calls a0_0 (fun k_ => w.heap.size + 1 + 1 + 1 + 1 ≤ k_) Av cv s r1 r2 r3 r4 _ (Kd.V_alloc HV.out _) H3.out).mono ?_
      rintro e w9 ⟨v, rfl, ho, hb⟩
      obtain ⟨Aw, cw, rfl, hl, hF⟩ := ho
      have hzs := hb.size
      simp only [World.size_alloc, World.size_setCell, World.size_drew] at hzs
      have B2s : w9.heap[w.heap.size + 1 + 1]? = some (.cells #[.bool false, .slice none 0 0] 24 (0, 0)) := blk_below (blk_alloc (B2t) _) hb
      have kc2_0s : w9.cell? ⟨w.heap.size + 1 + 1, 0, none⟩ = some (.bool false) := (blk_cell B2s 0).trans rfl
      have kf2_0s := blk_frozen B2s 0
      have kc2_1s : w9.cell? ⟨w.heap.size + 1 + 1, 1, none⟩ = some (.slice none 0 0) := (blk_cell B2s 1).trans rfl
      have kf2_1s := blk_frozen B2s 1
      have l2s : w.heap.size + 1 + 1 < w9.heap.size := by omega
      have n2s : w.heap.size + 1 + 1 ≠ w9.heap.size := by omega
      have B3s : w9.heap[w.heap.size + 1 + 1 + 1]? = some (.cells #[.int .i64 0, .int .i64 0] 29 (0, 0)) := blk_below (blk_alloc (B3t) _) hb
      have kc3_0s : w9.cell? ⟨w.heap.size + 1 + 1 + 1, 0, none⟩ = some (.int .i64 0) := (blk_cell B3s 0).trans rfl
      have kf3_0s := blk_frozen B3s 0
      have kc3_1s : w9.cell? ⟨w.heap.size + 1 + 1 + 1, 1, none⟩ = some (.int .i64 0) := (blk_cell B3s 1).trans rfl
      have kf3_1s := blk_frozen B3s 1
      have l3s : w.heap.size + 1 + 1 + 1 < w9.heap.size := by omega
      have n3s : w.heap.size + 1 + 1 + 1 ≠ w9.heap.size := by omega
      have HB9 := Aside0.mk (below_step (below_alloc HB.out _) hb)
      have HV9 := Aside0.mk (show Kd.V (Kd.int .u32) 76 w9 w.heap.size (fun k_ => w.heap.size + 1 + 1 + 1 + 1 ≤ k_) (.slice Aw r2.length cw) r2 from Kd.V_mono (Kd.V_mk hl hF) (fun k_ hk => Or.elim hk id (fun hk => by simp only [World.size_alloc] at hk; omega)))
      clear hb hl hF
      go_wp2_with fail
      refine bodyPost_ret (v := .tuple #[.agg #[.bool r1, .slice Aw r2.length cw], .agg #[.int .i64 r3, .int .i64 r4]]) (by simp [results, Try.results64, go_sem, World.cell?_alloc_lt, *]) rfl ⟨_, rfl, ?_, ?_⟩
      · refine Kd.V_mono (ok := fun k_ => w.heap.size + 1 + 1 + 1 + 1 ≤ k_) ?_ (fun _ _ => by omega)
        repeat (first | exact HV9.out | refine Kd.V_far ?_ (fun k_ hk => ?_) _)
        all_goals (try (dsimp only; omega))
      · repeat (first | exact HB9.out | apply below_drew1 | refine below_set ?_ (by omega) | apply below_alloc)


/-! ### integer_Sub: function 45 -/

def integer_Sub.f (k : Nat) (a0_0 : Bool) (l0_1 : List Int) (a1_0 : Bool) (l1_1 : List Int) : Option (Bool × List Int × Int × Int) :=
  (integer_check.f k [(⟨a0_0, l0_1⟩ : S24), (⟨a1_0, l1_1⟩ : S24)]).bind fun f => if f.1 = 0 then integer_plus.f k a0_0 l0_1 (!a1_0) l1_1 else some (false, [], f.1, f.2)
theorem integer_Sub.mono : ∀ a0 a1 a2 a3 k, LeO (integer_Sub.f k a0 a1 a2 a3) (integer_Sub.f (k + 1) a0 a1 a2 a3) := by
  intro a0 a1 a2 a3 k
  unfold integer_Sub.f
  exact LeO.bind (integer_check.mono _ _) (fun _ => LeO.ite (integer_plus.mono _ _ _ _ _) (LeO.refl _))
set_option maxHeartbeats 1000000 in
set_option maxRecDepth 100000 in
theorem integer_Sub.calls (k : Nat) (a0_0 : Bool) (A0_1 : Option Addr) (c0_1 : Nat) (l0_1 : List Int) (a1_0 : Bool) (A1_1 : Option Addr) (c1_1 : Nat) (l1_1 : List Int) (r1 : Bool) (r2 : List Int) (r3 : Int) (r4 : Int) (w : World) (hr0_1 : Kd.C (Kd.int .u32) w A0_1 l0_1.length l0_1) (hc0_1 : l0_1.length ≤ c0_1) (hr1_1 : Kd.C (Kd.int .u32) w A1_1 l1_1.length l1_1) (hc1_1 : l1_1.length ≤ c1_1) (h : integer_Sub.f k a0_0 l0_1 a1_0 l1_1 = some (r1, r2, r3, r4)) :
    Calls Try.prog 45 #[.agg #[.bool a0_0, .slice A0_1 l0_1.length c0_1], .agg #[.bool a1_0, .slice A1_1 l1_1.length c1_1]] w fun e w' => ∃ v1_ : Value, e = .returned (.tuple #[.agg #[.bool r1, v1_], .agg #[.int .i64 r3, .int .i64 r4]]) ∧ Kd.V (Kd.int .u32) 76 w' w.heap.size (fun k_ => (w.heap.size ≤ k_)) v1_ r2 ∧ Below w.heap.size w w' := by
  unfold integer_Sub.f at h
  obtain ⟨⟨f1, f2⟩, h1, h⟩ := Option.bind_eq_some_iff.mp h
  have H1 := Aside0.mk h1
  have R0 := Aside0.mk hr0_1
  have R1 := Aside0.mk hr1_1
  have C0 := Aside0.mk hc0_1
  have C1 := Aside0.mk hc1_1
  clear h1 hr0_1 hr1_1 hc0_1 hc1_1
  have hu24 := Try.underlying24
  have hu29 := Try.underlying29
  dsimp only at h
  go_enter Try.func45, Try.ntmps45
  go_wp2_with fail
  go_at_call 62
  refine (integer_check.calls k _ _ _ f1 f2 _ (Kd.C_new (cs := #[.bool a0_0, .slice A0_1 l0_1.length c0_1, .bool a1_0, .slice A1_1 l1_1.length c1_1]) (t := 24) ?hb (Reps.c2 (k24_mk _ ⟨a0_0, l0_1⟩ C0.out ?g0) (Reps.c2 (k24_mk _ ⟨a1_0, l1_1⟩ C1.out ?g1) (Reps.none _ _))) ?e1) ?e2 H1.out).mono ?_
  case e1 => simp
  case e2 => simp
  case hb => simp
  case g0 => exact Kd.C_below R0.out (below_alloc (below_alloc (below_alloc (below_alloc (below_alloc (Below.refl _ _) _) _) _) _) _)
  case g1 => exact Kd.C_below R1.out (below_alloc (below_alloc (below_alloc (below_alloc (below_alloc (Below.refl _ _) _) _) _) _) _)
  rintro e w1 ⟨rfl, hb⟩
  have hz := hb.size
  simp only [World.size_alloc] at hz
  have B0 : w1.heap[w.heap.size]? = some (.cells #[.bool a0_0, .slice A0_1 l0_1.length c0_1] 24 (0, 0)) := blk_below (blk_alloc (blk_alloc (blk_alloc (blk_alloc (heap_at (by simp only [World.size_alloc]) _) _) _) _) _) hb
  have kc0_0 : w1.cell? ⟨w.heap.size, 0, none⟩ = some (.bool a0_0) := (blk_cell B0 0).trans rfl
  have kf0_0 := blk_frozen B0 0
  have kc0_1 : w1.cell? ⟨w.heap.size, 1, none⟩ = some (.slice A0_1 l0_1.length c0_1) := (blk_cell B0 1).trans rfl
  have kf0_1 := blk_frozen B0 1
  have l0 : w.heap.size < w1.heap.size := by omega
  have n0 : w.heap.size ≠ w1.heap.size := by omega
  have B1 : w1.heap[w.heap.size + 1]? = some (.cells #[.bool a1_0, .slice A1_1 l1_1.length c1_1] 24 (0, 0)) := blk_below (blk_alloc (blk_alloc (blk_alloc (heap_at (by simp only [World.size_alloc]) _) _) _) _) hb
  have kc1_0 : w1.cell? ⟨w.heap.size + 1, 0, none⟩ = some (.bool a1_0) := (blk_cell B1 0).trans rfl
  have kf1_0 := blk_frozen B1 0
  have kc1_1 : w1.cell? ⟨w.heap.size + 1, 1, none⟩ = some (.slice A1_1 l1_1.length c1_1) := (blk_cell B1 1).trans rfl
  have kf1_1 := blk_frozen B1 1
  have l1 : w.heap.size + 1 < w1.heap.size := by omega
  have n1 : w.heap.size + 1 ≠ w1.heap.size := by omega
  have B2 : w1.heap[w.heap.size + 1 + 1]? = some (.cells #[.bool false, .slice none 0 0] 24 (0, 0)) := blk_below (blk_alloc (blk_alloc (heap_at (by simp only [World.size_alloc]) _) _) _) hb
  have kc2_0 : w1.cell? ⟨w.heap.size + 1 + 1, 0, none⟩ = some (.bool false) := (blk_cell B2 0).trans rfl
  have kf2_0 := blk_frozen B2 0
  have kc2_1 : w1.cell? ⟨w.heap.size + 1 + 1, 1, none⟩ = some (.slice none 0 0) := (blk_cell B2 1).trans rfl
  have kf2_1 := blk_frozen B2 1
  have l2 : w.heap.size + 1 + 1 < w1.heap.size := by omega
  have n2 : w.heap.size + 1 + 1 ≠ w1.heap.size := by omega
  have B3 : w1.heap[w.heap.size + 1 + 1 + 1]? = some (.cells #[.int .i64 0, .int .i64 0] 29 (0, 0)) := blk_below (blk_alloc (heap_at (by simp only [World.size_alloc]) _) _) hb
  have kc3_0 : w1.cell? ⟨w.heap.size + 1 + 1 + 1, 0, none⟩ = some (.int .i64 0) := (blk_cell B3 0).trans rfl
  have kf3_0 := blk_frozen B3 0
  have kc3_1 : w1.cell? ⟨w.heap.size + 1 + 1 + 1, 1, none⟩ = some (.int .i64 0) := (blk_cell B3 1).trans rfl
  have kf3_1 := blk_frozen B3 1
  have l3 : w.heap.size + 1 + 1 + 1 < w1.heap.size := by omega
  have n3 : w.heap.size + 1 + 1 + 1 ≠ w1.heap.size := by omega
  have HB := Aside0.mk (below_step (below_alloc (below_alloc (below_alloc (below_alloc (below_alloc (Below.refl _ _) _) _) _) _) _) hb)
  clear hb
  by_cases hf : f1 = 0
  · rw [if_pos hf] at h
    subst hf
    have H2 := Aside0.mk h
    clear h
    go_wp2_with fail
    go_at_call 64
    refine (integer_plus.calls k a0_0 _ _ _ (!a1_0) _ _ _ r1 r2 r3 r4 _ (Kd.C_below R0.out (below_alloc HB.out _)) C0.out (Kd.C_below R1.out (below_alloc HB.out _)) C1.out H2.out).mono ?_
    rintro e w2 ⟨v, rfl, ho, hb⟩
    have hzs := hb.size
    simp only [World.size_alloc, World.size_setCell, World.size_drew] at hzs
    have B2s : w2.heap[w.heap.size + 1 + 1]? = some (.cells #[.bool false, .slice none 0 0] 24 (0, 0)) := blk_below (blk_alloc (B2) _) hb
    have kc2_0s : w2.cell? ⟨w.heap.size + 1 + 1, 0, none⟩ = some (.bool false) := (blk_cell B2s 0).trans rfl
    have kf2_0s := blk_frozen B2s 0
    have kc2_1s : w2.cell? ⟨w.heap.size + 1 + 1, 1, none⟩ = some (.slice none 0 0) := (blk_cell B2s 1).trans rfl
    have kf2_1s := blk_frozen B2s 1
    have l2s : w.heap.size + 1 + 1 < w2.heap.size := by omega
    have n2s : w.heap.size + 1 + 1 ≠ w2.heap.size := by omega
    have B3s : w2.heap[w.heap.size + 1 + 1 + 1]? = some (.cells #[.int .i64 0, .int .i64 0] 29 (0, 0)) := blk_below (blk_alloc (B3) _) hb
    have kc3_0s : w2.cell? ⟨w.heap.size + 1 + 1 + 1, 0, none⟩ = some (.int .i64 0) := (blk_cell B3s 0).trans rfl
    have kf3_0s := blk_frozen B3s 0
    have kc3_1s : w2.cell? ⟨w.heap.size + 1 + 1 + 1, 1, none⟩ = some (.int .i64 0) := (blk_cell B3s 1).trans rfl
    have kf3_1s := blk_frozen B3s 1
    have l3s : w.heap.size + 1 + 1 + 1 < w2.heap.size := by omega
    have n3s : w.heap.size + 1 + 1 + 1 ≠ w2.heap.size := by omega
    obtain ⟨Av, cv, rfl, hl, hF⟩ := ho
    have HB2 := Aside0.mk (below_step (below_alloc HB.out _) hb)
    have HV := Aside0.mk (show Kd.V (Kd.int .u32) 76 w2 w.heap.size (fun k_ => w.heap.size + 1 + 1 + 1 + 1 ≤ k_) (.slice Av r2.length cv) r2 from Kd.V_mono (Kd.V_mk hl hF) (fun k_ hk => by simp only [World.size_alloc] at hk; omega))
    clear hb hl hF
    go_wp2_with fail
    refine bodyPost_ret (v := .tuple #[.agg #[.bool r1, .slice Av r2.length cv], .agg #[.int .i64 r3, .int .i64 r4]]) (by simp [results, Try.results45, go_sem, World.cell?_alloc_lt, *]) rfl ⟨_, rfl, ?_, ?_⟩
    · refine Kd.V_mono (ok := fun k_ => w.heap.size + 1 + 1 + 1 + 1 ≤ k_) ?_ (fun _ _ => by omega)
      repeat (first | exact HV.out | refine Kd.V_far ?_ (fun k_ hk => ?_) _)
      all_goals (try (dsimp only; omega))
    · repeat (first | exact HB2.out | apply below_drew1 | refine below_set ?_ (by omega) | apply below_alloc)
  · rw [if_neg hf] at h
    simp only [Option.some.injEq, Prod.mk.injEq] at h
    obtain ⟨rfl, rfl, rfl, rfl⟩ := h
    have hf1 : (f1 != 0) = true := bne_iff_ne.mpr hf
    clear hf
    go_wp2_with fail
    go_region
    go_wp2_with fail
    refine bodyPost_ret (v := .tuple #[.agg #[.bool false, .slice none 0 0], .agg #[.int .i64 f1, .int .i64 f2]]) (by simp [results, Try.results45, go_sem, World.cell?_alloc_lt, *]) rfl ⟨_, rfl, Kd.V_nil _ _ _ _ _, ?_⟩
    repeat (first | exact HB.out | apply below_drew1 | refine below_set ?_ (by omega) | apply below_alloc)

/-! ### integer_Of: function 47 -/
mutual
def integer_Of.j0 : Nat → Int → Int → Option (Bool × List Int)
 | 0, _, _ => none
 | k + 1, x0, x3 => integer_Of.l0 k x0 (([(x3) % 4294967296, (x3 / 4294967296) % 4294967296] : List Int))
def integer_Of.l0 : Nat → Int → List Int → Option (Bool × List Int)
 | 0, _, _ => none
 | k + 1, x0, x4 => if (x4.length : Int) > 0 then (if 0 ≤ (wrap64 ((x4.length : Int) - 1)) then (if (wrap64 ((x4.length : Int) - 1)) < (x4.length : Int) then (if (rd x4 (wrap64 ((x4.length : Int) - 1))) = 0 then (if (wrap64 ((x4.length : Int) - 1)) ≤ (x4.length : Int) then (integer_Of.l0 k x0 (x4.take ((wrap64 ((x4.length : Int) - 1)) : Int).toNat)) else (none)) else (some (decide (x0 < 0), x4))) else (none)) else (none)) else (some (decide (x0 < 0), x4))
end
def integer_Of.f (k : Nat) (a0 : Int) : Option (Bool × List Int) := if a0 < 0 then (integer_Of.j0 k a0 (IntKind.u64.wrap (-(IntKind.u64.wrap (a0))))) else (integer_Of.j0 k a0 (IntKind.u64.wrap (a0)))
theorem integer_Of.mono_l : ∀ k, (∀ y0 y1, LeO (integer_Of.j0 k y0 y1) (integer_Of.j0 (k + 1) y0 y1)) ∧ (∀ y0 y1, LeO (integer_Of.l0 k y0 y1) (integer_Of.l0 (k + 1) y0 y1))
 | 0 => ⟨fun _ _ r h => by simp [integer_Of.j0] at h, fun _ _ r h => by simp [integer_Of.l0] at h⟩
 | k + 1 => by
  obtain ⟨ih0, ih1⟩ := integer_Of.mono_l k
  refine ⟨?_, ?_⟩
  ·intro y0 y1
   unfold integer_Of.j0
   repeat' first
   | (with_reducible exact ih0 _ _)
   | (with_reducible exact ih1 _ _)
   | (with_reducible exact LeO.refl _)
   | (with_reducible exact LeO.none _)
   | (with_reducible refine LeO.ite ?_ ?_)
   | (with_reducible refine LeO.bind ?_ (fun _ => ?_))
   | exact ih0 _ _
   | exact ih1 _ _
   | exact LeO.none _
   | refine LeO.ite ?_ ?_
   | refine LeO.bind ?_ (fun _ => ?_)
  ·intro y0 y1
   unfold integer_Of.l0
   repeat' first
   | (with_reducible exact ih0 _ _)
   | (with_reducible exact ih1 _ _)
   | (with_reducible exact LeO.refl _)
   | (with_reducible exact LeO.none _)
   | (with_reducible refine LeO.ite ?_ ?_)
   | (with_reducible refine LeO.bind ?_ (fun _ => ?_))
   | exact ih0 _ _
   | exact ih1 _ _
   | exact LeO.none _
   | refine LeO.ite ?_ ?_
   | refine LeO.bind ?_ (fun _ => ?_)
theorem integer_Of.mono : ∀ a0 k, LeO (integer_Of.f k a0) (integer_Of.f (k + 1) a0) := by
 intro a0 k
 obtain ⟨ih0, ih1⟩ := integer_Of.mono_l k
 unfold integer_Of.f
 repeat' first
   | (with_reducible exact ih0 _ _)
   | (with_reducible exact ih1 _ _)
   | (with_reducible exact LeO.refl _)
   | (with_reducible exact LeO.none _)
   | (with_reducible refine LeO.ite ?_ ?_)
   | (with_reducible refine LeO.bind ?_ (fun _ => ?_))
   | exact ih0 _ _
   | exact ih1 _ _
   | exact LeO.none _
   | refine LeO.ite ?_ ?_
   | refine LeO.bind ?_ (fun _ => ?_)
set_option maxHeartbeats 60000000 in
set_option maxRecDepth 100000 in
theorem integer_Of.calls (k : Nat) (a0 : Int) (r1 : Bool) (r2 : List Int) (w : World) (h : integer_Of.f k a0 = some (r1, r2)) :
  Calls Try.prog 47 #[.int .i64 a0] w fun e w' => ∃ v1_ : Value, e = .returned (.agg #[.bool r1, v1_]) ∧ Kd.R (Kd.int .u32) 76 w' w.heap.size (fun _ => True) v1_ r2 ∧ Below w.heap.size w w' := by
 have hu24 := Try.underlying24
 have HB := zM (Below.refl w.heap.size w)
 have H : (if a0 < 0 then (integer_Of.j0 k a0 (IntKind.u64.wrap (-(IntKind.u64.wrap (a0))))) else (integer_Of.j0 k a0 (IntKind.u64.wrap (a0)))) = some (r1, r2) := h
 clear h
 have HC2 := zM H
 clear H
 go_enter Try.func47, Try.ntmps47
 go_upto_if 8 with (first | ((with_reducible refine gate_dst (N := 2) rfl ?_); (try (refine gate_guard (by rfl) ?_; dsimp only)); refine box_event ?hg (N := 2) ?hd (cs := #[.bool false, .slice none 0 0]) (t := 24) ?hr ?_; (case hd => rfl); (case hg => rfl); (case hr => first | (go_simp; done) | (go_simp; rfl)); intro gb248 hg w3 hbox hb; have BK248 := zM (hbox); have GW248 := zM ((by rw [hg]; exact (below_size (HB.out)) : w.heap.size ≤ gb248)); have GE248 := GW248; replace HB := zM (below_step (HB.out) hb); clear hb hbox hg))
 (try simp only [Act.put, zS, z0, z1])
 go_cut [3] (fun v3 wc => ∃ (kq : Nat) (x3_1 : Int), v3 = .int .u64 x3_1 ∧ Aside0 (integer_Of.j0 kq a0 x3_1 = some (r1, r2)) ∧ Aside0 (kq ≤ k) ∧ Aside0 (wc.heap[gb248]? = some (.cells #[.bool false, (.slice none 0 0)] 24 (0, 0))) ∧ Aside0 (Below w.heap.size w wc))
 case first =>
  have H := HC2.out
  clear HC2
  by_cases c4 : a0 < 0
  ·rw [if_pos c4] at H
   have c4b0 : decide (a0 < 0) = true := zE c4
   clear c4
   (first | rw [c4b0] | (simp only [i64_w, i32_w]; rw [c4b0]) | skip)
   have H' := zM H
   clear H
   go_wp2
   go_meet
   case rel => exact ⟨_, (IntKind.u64.wrap (-(IntKind.u64.wrap (a0)))), (by first | rfl | (simp; done) | (simp [*]; done)), H', ⟨by first | omega | exact Nat.le_refl _⟩, ⟨by (with_reducible repeat (first | apply pzN | apply pzd | apply pza)); exact BK248.out⟩, ⟨by repeat (first | (with_reducible first | exact HB.out | apply pzA | apply pzD | apply pz1 | apply pzs | assumption) | exact HB.out)⟩⟩
  ·rw [if_neg c4] at H
   have c4b0 : decide (a0 < 0) = false := decide_eq_false c4
   clear c4
   (first | rw [c4b0] | (simp only [i64_w, i32_w]; rw [c4b0]) | skip)
   have H' := zM H
   clear H
   go_wp2
   go_meet
   case rel => exact ⟨_, (IntKind.u64.wrap (a0)), (by first | rfl | (simp; done) | (simp [*]; done)), H', ⟨by first | omega | exact Nat.le_refl _⟩, ⟨by (with_reducible repeat (first | apply pzN | apply pzd | apply pza)); exact BK248.out⟩, ⟨by repeat (first | (with_reducible first | exact HB.out | apply pzA | apply pzD | apply pz1 | apply pzs | assumption) | exact HB.out)⟩⟩
 case rest =>
  clear HC2
  try clear p2
  try clear c4
  try clear c4b0
  obtain ⟨kq, x3_1, rfl, HA, HJ1, BK248, HB⟩ := hcut
  cases kq with
  | zero => exact absurd HA.out (by simp [integer_Of.j0])
  | succ kj1 =>
   have H := HA.out
   clear HA
   simp only [integer_Of.j0] at H
   obtain ⟨y249, hy249⟩ : ∃ y_ : List Int, y_ = (([(x3_1) % 4294967296, (x3_1 / 4294967296) % 4294967296] : List Int)) := ⟨_, rfl⟩
   replace H : (integer_Of.l0 kj1 a0 y249) = some (r1, r2) := by first | (rw [hy249]; with_reducible exact H) | (have H2_ := (Option.bind_some _ _).symm.trans H; rw [hy249]; with_reducible exact H2_) | (have H2_ := (Option.bind_some _ _).symm.trans H; with_reducible exact H2_) | with_reducible exact H | (rw [hy249]; exact H) | exact H
   have Ny249 := zM hy249
   clear hy249
   have H' := zM H
   clear H
   go_wp2_with (first | ((with_reducible refine gate_dst (N := 16) rfl ?_); (try (refine gate_guard (by rfl) ?_; dsimp only)); refine Kd.R_lit (Kd.int .u32) _ 76 ?hg (N := 16) ?hd (xs := ([(x3_1) % 4294967296, (x3_1 / 4294967296) % 4294967296] : List Int)) (inner := [.int .u32 ((x3_1) % 4294967296), .int .u32 ((x3_1 / 4294967296) % 4294967296)]) (ok := fun _ => True) (okp := fun _ => True) ?hr ?hp (fun _ hk => hk) trivial (Below.refl _ _) (Nat.le_refl _) (by simp) ?_; (case hd => rfl); (case hg => rfl); (case hr => first | (go_simp; done) | (go_simp; rfl) | (go_simp; simp only [mp_u32, mp_u8, mp_w32, mp_w8]; first | done | rfl)); (case hp => exact (Reps.one (show Kd.M (Kd.int .u32) _ _ _ ((x3_1) % 4294967296) [.int .u32 ((x3_1) % 4294967296)] from rfl) (Reps.one (show Kd.M (Kd.int .u32) _ _ _ ((x3_1 / 4294967296) % 4294967296) [.int .u32 ((x3_1 / 4294967296) % 4294967296)] from rfl) (Reps.none _ _)))); intro v250 w5 ho6 hb hg_ hnew_; clear hg_ hnew_; (first | rw [← Ny249.out] at ho6 | (simp only [Int.reduceToNat] at ho6; rw [← Ny249.out] at ho6)); have HO251 := zM (Kd.R_lower ho6 (below_size (by repeat (first | (with_reducible first | exact HB.out | apply pzA | apply pzD | apply pz1 | apply pzs | assumption) | exact HB.out)))); replace BK248 := pzb BK248 hb; replace HB := zM (below_step (by repeat (first | (with_reducible first | exact HB.out | apply pzA | apply pzD | apply pz1 | apply pzs | assumption) | exact HB.out)) hb); clear hb ho6))
   go_loopg [4] kj1 (fun kq v4 w' => ∃ (x4_2 : List Int), Aside0 (integer_Of.l0 kq a0 x4_2 = some (r1, r2)) ∧ Aside0 (kq ≤ kj1) ∧ Aside0 (Kd.R (Kd.int .u32) 76 w' w.heap.size (fun _ => True) v4 x4_2) ∧ Aside0 (w'.heap[gb248]? = some (.cells #[.bool false, (.slice none 0 0)] 24 (0, 0))) ∧ Aside0 (Below w.heap.size w w'))
   case atStart => exact ⟨(y249), H', ⟨Nat.le_refl _⟩, ⟨by (with_reducible repeat (first | apply Kd.R_alloc | apply Kd.R_drewN | apply Kd.R_drew)); exact HO251.out⟩, ⟨by (with_reducible repeat (first | apply pzN | apply pzd | apply pza)); exact BK248.out⟩, ⟨by repeat (first | (with_reducible first | exact HB.out | apply pzA | apply pzD | apply pz1 | apply pzs | assumption) | exact HB.out)⟩⟩
   case round =>
    clear H'
    try clear p2
    try clear c4
    try clear c4b0
    try clear p2
    obtain ⟨x4_2, HA, HK2, HO_4, BK248, HB⟩ := hrel
    cases gk with
    | zero => exact absurd HA.out (by simp [integer_Of.l0])
    | succ k2 =>
     have H := HA.out
     clear HA
     simp only [integer_Of.l0] at H
     by_cases c7 : (x4_2.length : Int) > 0
     ·rw [if_pos c7] at H
      have c7b0 : decide (0 < (x4_2.length : Int)) = true := zE c7
      have c7b1 : decide (0 < x4_2.length) = true := zE (by omega)
      clear c7
      obtain ⟨ji8, hji8⟩ : ∃ j_ : Int, (wrap64 ((x4_2.length : Int) - 1)) = j_ := ⟨_, rfl⟩
      replace H : (if 0 ≤ (ji8) then (if (ji8) < (x4_2.length : Int) then (if (rd x4_2 (ji8)) = 0 then (if (ji8) ≤ (x4_2.length : Int) then (integer_Of.l0 k2 a0 (x4_2.take ((ji8) : Int).toNat)) else (none)) else (some (decide (a0 < 0), x4_2))) else (none)) else (none)) = some (r1, r2) := by first | (rw [hji8] at H; exact H) | (simp only [hji8] at H ⊢; exact H)
      have hji8w : (IntKind.i64.wrap ((x4_2.length : Int) - 1)) = ji8 := (i64_w _).trans hji8
      by_cases c9 : 0 ≤ (ji8)
      ·rw [if_pos c9] at H
       have c9b0 : decide (0 ≤ (ji8)) = true := zE c9
       clear c9
       by_cases c10 : (ji8) < (x4_2.length : Int)
       ·rw [if_pos c10] at H
        have c10b0 : decide ((ji8) < (x4_2.length : Int)) = true := zE c10
        clear c10
        by_cases c11 : (rd x4_2 (ji8)) = 0
        ·rw [if_pos c11] at H
         have c11b0 : ((rd x4_2 (ji8)) == 0) = true := beq_iff_eq.mpr c11
         have c11b1 : ((rd x4_2 (ji8)) != 0) = false := bne_eq_false_iff_eq.mpr c11
         clear c11
         by_cases c12 : (ji8) ≤ (x4_2.length : Int)
         ·rw [if_pos c12] at H
          have c12b0 := eq_true c12
          have c12b1 : decide ((ji8) ≤ (x4_2.length : Int)) = true := zE c12
          clear c12
          obtain ⟨y253, hy253⟩ : ∃ y_ : List Int, y_ = (x4_2.take ((ji8) : Int).toNat) := ⟨_, rfl⟩
          replace H : (integer_Of.l0 k2 a0 y253) = some (r1, r2) := by first | (rw [hy253]; with_reducible exact H) | (have H2_ := (Option.bind_some _ _).symm.trans H; rw [hy253]; with_reducible exact H2_) | (have H2_ := (Option.bind_some _ _).symm.trans H; with_reducible exact H2_) | with_reducible exact H | (rw [hy253]; exact H) | exact H
          have Ny253 := zM hy253
          clear hy253
          have H' := zM H
          clear H
          obtain ⟨Ao13, co13, eo13⟩ := Kd.R_slice HO_4.out
          subst eo13
          have p252 : 0 ≤ ((ji8) : Int) := zD (by first | (with_reducible assumption) | assumption)
          have q252 : (ji8) < (x4_2.length : Int) := zD (by first | (with_reducible assumption) | assumption)
          obtain ⟨ad252, e252, hx252_0⟩ := Kd.at_int (Kd.R_reads' HO_4.out).2.2 (ji8) p252 q252
          cases e252
          replace p252 := eq_true p252
          replace q252 := eq_true q252
          have q14 : ((ji8) : Int) ≤ ((x4_2.length : Int) : Int) := zD (by first | (with_reducible assumption) | assumption)
          obtain ⟨i014, hi014, _, hsz14, _⟩ := info_parts info76
          have hcut14 := cut_to (P := Try.prog) 22 76 .i64 Try.underlying22 hi014 (some ad252) x4_2.length co13 (ji8) (zD (by first | (with_reducible assumption) | assumption)) q14 (Kd.R_reads' HO_4.out).2.1
          have hr14 := Kd.R_take (m := ((ji8) : Int).toNat) HO_4.out (by omega)
          have hy14 : y253.length = ((ji8) : Int).toNat := (by rw [Ny253.out, zL]; omega)
          rw [← Ny253.out] at hr14
          rw [← hy14] at hr14 hcut14
          clear hy14 hi014 hsz14 HO_4
          have HO255 := zM hr14
          clear hr14
          replace q14 := eq_true q14
          go_wp2
          go_roundg k2
          case measure => have := HJ1.out; have := HK2.out; omega
          case rel => exact ⟨(y253), H', ⟨by have := HJ1.out; have := HK2.out; omega⟩, ⟨by (with_reducible repeat (first | apply Kd.R_alloc | apply Kd.R_drewN | apply Kd.R_drew)); exact HO255.out⟩, ⟨by (with_reducible repeat (first | apply pzN | apply pzd | apply pza)); exact BK248.out⟩, ⟨by repeat (first | (with_reducible first | exact HB.out | apply pzA | apply pzD | apply pz1 | apply pzs | assumption) | exact HB.out)⟩⟩
         ·rw [if_neg c12] at H
          exact absurd H (by simp)
        ·rw [if_neg c11] at H
         have c11b0 : ((rd x4_2 (ji8)) == 0) = false := beq_eq_false_iff_ne.mpr c11
         have c11b1 : ((rd x4_2 (ji8)) != 0) = true := bne_iff_ne.mpr c11
         simp only [Option.some.injEq, Prod.mk.injEq] at H
         obtain ⟨rfl, rfl⟩ := H
         obtain ⟨Ao15, co15, eo15⟩ := Kd.R_slice HO_4.out
         subst eo15
         have p252 : 0 ≤ ((ji8) : Int) := zD (by first | (with_reducible assumption) | assumption)
         have q252 : (ji8) < (x4_2.length : Int) := zD (by first | (with_reducible assumption) | assumption)
         obtain ⟨ad252, e252, hx252_0⟩ := Kd.at_int (Kd.R_reads' HO_4.out).2.2 (ji8) p252 q252
         cases e252
         replace p252 := eq_true p252
         replace q252 := eq_true q252
         have hcz16_0 := pzc (v := .bool false) BK248 0 rfl
         have hcz16_1 := pzc (v := .slice none 0 0) BK248 1 rfl
         have hfz16_0 := zF BK248.out 0
         have hfz16_1 := zF BK248.out 1
         go_wp2
         refine bodyPost_ret (results_cell_row rfl _ _ gb248 24 #[.bool (decide (a0 < 0)), .slice (some ad252) x4_2.length co15] (0, 0) _ rfl (by (with_reducible repeat (first | apply pzN | apply pzd | apply pza)); refine blk_put (cs := #[.bool (decide (a0 < 0)), .slice none 0 0]) ?_ 1 _ rfl; (with_reducible repeat (first | apply pzN | apply pzd | apply pza)); refine blk_put (cs := #[.bool false, .slice none 0 0]) ?_ 0 _ rfl; (with_reducible repeat (first | apply pzN | apply pzd | apply pza)); exact BK248.out) Try.underlying24 rfl (by kernel_rfl)) rfl ?_
         exact ⟨_, by first | rfl | (simp [errW_none, errW_some] <;> rfl) | (simp only [← hji8]; first | rfl | (simp [errW_none, errW_some] <;> rfl)) | (simp [*, errW_none, errW_some] <;> rfl), by (with_reducible repeat (first | apply Kd.R_alloc | apply Kd.R_drewN | apply Kd.R_drew)); exact Kd.R_mono (Kd.R_far (p := ⟨gb248, 1, none⟩) (Kd.R_far (p := ⟨gb248, 0, none⟩) (Kd.R_types HO_4.out BK248.out (by decide)) (fun _ hk => hk.2) (.bool (decide (a0 < 0)))) (fun _ hk => hk.2) (.slice (some ad252) x4_2.length co15)) (fun _ hk => trivial), by repeat (first | (with_reducible first | exact HB.out | apply pzA | apply pzD | apply pz1 | apply pzs | assumption) | exact HB.out)⟩
       ·rw [if_neg c10] at H
        exact absurd H (by simp)
      ·rw [if_neg c9] at H
       exact absurd H (by simp)
     ·rw [if_neg c7] at H
      have c7b0 : decide (0 < (x4_2.length : Int)) = false := decide_eq_false c7
      have c7b1 : decide (0 < x4_2.length) = false := decide_eq_false (by omega)
      clear c7
      simp only [Option.some.injEq, Prod.mk.injEq] at H
      obtain ⟨rfl, rfl⟩ := H
      obtain ⟨Ao17, co17, eo17⟩ := Kd.R_slice HO_4.out
      subst eo17
      have hcz18_0 := pzc (v := .bool false) BK248 0 rfl
      have hcz18_1 := pzc (v := .slice none 0 0) BK248 1 rfl
      have hfz18_0 := zF BK248.out 0
      have hfz18_1 := zF BK248.out 1
      go_wp2
      refine bodyPost_ret (results_cell_row rfl _ _ gb248 24 #[.bool (decide (a0 < 0)), .slice Ao17 x4_2.length co17] (0, 0) _ rfl (by (with_reducible repeat (first | apply pzN | apply pzd | apply pza)); refine blk_put (cs := #[.bool (decide (a0 < 0)), .slice none 0 0]) ?_ 1 _ rfl; (with_reducible repeat (first | apply pzN | apply pzd | apply pza)); refine blk_put (cs := #[.bool false, .slice none 0 0]) ?_ 0 _ rfl; (with_reducible repeat (first | apply pzN | apply pzd | apply pza)); exact BK248.out) Try.underlying24 rfl (by kernel_rfl)) rfl ?_
      exact ⟨_, by first | rfl | (simp [errW_none, errW_some] <;> rfl) | (simp [*, errW_none, errW_some] <;> rfl), by (with_reducible repeat (first | apply Kd.R_alloc | apply Kd.R_drewN | apply Kd.R_drew)); exact Kd.R_mono (Kd.R_far (p := ⟨gb248, 1, none⟩) (Kd.R_far (p := ⟨gb248, 0, none⟩) (Kd.R_types HO_4.out BK248.out (by decide)) (fun _ hk => hk.2) (.bool (decide (a0 < 0)))) (fun _ hk => hk.2) (.slice Ao17 x4_2.length co17)) (fun _ hk => trivial), by repeat (first | (with_reducible first | exact HB.out | apply pzA | apply pzD | apply pz1 | apply pzs | assumption) | exact HB.out)⟩

/-! ### bits_Len32: function 77 -/
def bits_Len32.f (a0 : Int) : Option Int := if 0 ≤ a0 ∧ a0 ≤ 4294967295 then some (Lib.bitLen a0.toNat : Int) else none
theorem bits_Len32.calls (a0 : Int) (r : Int) (w : World) (h : bits_Len32.f a0 = some r) :
    Calls Try.prog 77 #[.int .u32 a0] w fun e w' => e = .returned (.int .i64 r) ∧ Drawn0 w w' := by
  unfold bits_Len32.f at h
  by_cases hb : 0 ≤ a0 ∧ a0 ≤ 4294967295
  · rw [if_pos hb] at h
    obtain rfl := Option.some.inj h
    refine (Try.bits_Len32 a0 w hb.1 hb.2).mono ?_
    rintro e w' ⟨rfl, rfl⟩
    exact ⟨rfl, Drawn0.refl _⟩
  · rw [if_neg hb] at h
    cases h

/-! ### natural_Bits: function 68 -/
def natural_Bits.f (l0 : List Int) : Option (Int × Int × Int) := (natural_Valid.f l0).bind fun t257 => (if t257 = true then (if (l0.length : Int) = 0 then (some (0, 0, 0)) else (if 0 ≤ (wrap64 ((l0.length : Int) - 1)) then (if (wrap64 ((l0.length : Int) - 1)) < (l0.length : Int) then ((bits_Len32.f (rd l0 (wrap64 ((l0.length : Int) - 1)))).bind fun t259 => (some (wrap64 ((wrap64 (32 * (wrap64 ((l0.length : Int) - 1)))) + t259), 0, 0))) else (none)) else (none))) else ((natural_at.f 6 (-1)).bind fun bt260 => (some (0, bt260.1, bt260.2))))
set_option maxHeartbeats 60000000 in
set_option maxRecDepth 100000 in
theorem natural_Bits.calls (A0 : Option Addr) (c0 : Nat) (l0 : List Int) (r1 : Int) (r2 : Int) (r3 : Int) (w : World) (hr0 : Kd.C (Kd.int .u32) w A0 l0.length l0) (hc0 : l0.length ≤ c0) (h : natural_Bits.f l0 = some (r1, r2, r3)) :
  Calls Try.prog 68 #[.slice A0 l0.length c0] w fun e w' => e = .returned (.tuple #[.int .i64 r1, .agg #[.int .i64 r2, .int .i64 r3]]) ∧ Below w.heap.size w w' := by
 have hu29 := Try.underlying29
 have HR0 := zM hr0
 have HC0 := zM hc0
 clear hr0 hc0
 have HB := zM (Below.refl w.heap.size w)
 have H : ((natural_Valid.f l0).bind fun t257 => (if t257 = true then (if (l0.length : Int) = 0 then (some (0, 0, 0)) else (if 0 ≤ (wrap64 ((l0.length : Int) - 1)) then (if (wrap64 ((l0.length : Int) - 1)) < (l0.length : Int) then ((bits_Len32.f (rd l0 (wrap64 ((l0.length : Int) - 1)))).bind fun t259 => (some (wrap64 ((wrap64 (32 * (wrap64 ((l0.length : Int) - 1)))) + t259), 0, 0))) else (none)) else (none))) else ((natural_at.f 6 (-1)).bind fun bt260 => (some (0, bt260.1, bt260.2))))) = some (r1, r2, r3) := h
 clear h
 replace H := zB H
 obtain ⟨t257, A20, H⟩ := H
 replace H : (if t257 = true then (if (l0.length : Int) = 0 then (some (0, 0, 0)) else (if 0 ≤ (wrap64 ((l0.length : Int) - 1)) then (if (wrap64 ((l0.length : Int) - 1)) < (l0.length : Int) then ((bits_Len32.f (rd l0 (wrap64 ((l0.length : Int) - 1)))).bind fun t259 => (some (wrap64 ((wrap64 (32 * (wrap64 ((l0.length : Int) - 1)))) + t259), 0, 0))) else (none)) else (none))) else ((natural_at.f 6 (-1)).bind fun bt260 => (some (0, bt260.1, bt260.2)))) = some (r1, r2, r3) := H
 have A2 := zM A20
 clear A20
 by_cases c3 : t257 = true
 ·subst c3
  have H1 : (if (l0.length : Int) = 0 then (some (0, 0, 0)) else (if 0 ≤ (wrap64 ((l0.length : Int) - 1)) then (if (wrap64 ((l0.length : Int) - 1)) < (l0.length : Int) then ((bits_Len32.f (rd l0 (wrap64 ((l0.length : Int) - 1)))).bind fun t259 => (some (wrap64 ((wrap64 (32 * (wrap64 ((l0.length : Int) - 1)))) + t259), 0, 0))) else (none)) else (none))) = some (r1, r2, r3) := by rw [if_pos rfl] at H; exact H
  clear H
  have H := H1
  clear H1
  by_cases c4 : (l0.length : Int) = 0
  ·rw [if_pos c4] at H
   have c4b0 : ((l0.length : Int) == 0) = true := beq_iff_eq.mpr c4
   have c4b1 : ((l0.length : Int) != 0) = false := bne_eq_false_iff_eq.mpr c4
   clear c4
   simp only [Option.some.injEq, Prod.mk.injEq] at H
   obtain ⟨rfl, rfl, rfl⟩ := H
   go_enter Try.func68, Try.ntmps68
   go_wp2_with (first | ((with_reducible refine gate_dst (N := 3) rfl ?_); refine box_event ?hg (N := 3) ?hd (cs := #[.int .i64 0, .int .i64 0]) (t := 29) ?hr ?_; (case hd => rfl); (case hg => rfl); (case hr => first | (go_simp; done) | (go_simp; rfl)); intro gb256 hg w5 hbox hb; have BK256 := zM (hbox); have GW256 := zM ((by rw [hg]; exact (below_size (HB.out)) : w.heap.size ≤ gb256)); have GE256 := GW256; replace HB := zM (below_step (HB.out) hb); clear hb hbox hg) | ((with_reducible refine gate_callee (f := 75) rfl ?_); refine goesL_ (some 5) rfl rfl Try.func75 (by kernel_rfl) rfl #[.slice A0 l0.length c0] rfl (by (try simp only [zT, zC, zN]); first | done | rfl | (simp only [zR, zL]; rfl)) ?_; (with_reducible refine (natural_Valid.calls _ _ l0 true _ ?side1 ?side2 A2.out).mono ?_); (case side1 => repeat (first | exact (Kd.C_below HR0.out HB.out) | (with_reducible refine Kd.C_alloc ?_ _) | (with_reducible refine Kd.C_drewN ?_ _) | (with_reducible refine Kd.C_drew ?_))); (case side2 => exact HC0.out); rintro e w' ⟨rfl, ⟨nd, rfl⟩⟩; refine ⟨_, rfl, ?_⟩; (try (rw [drewN_self w5]; generalize hq_ : World.drewN w5 _ = w5; have n0_ : Aside0 (w5.heap[gb256]? = some (.cells #[.int .i64 0, .int .i64 0] 29 (0, 0))) := ⟨by rw [← hq_]; exact BK256.out⟩; have n1_ : Aside0 (Below w.heap.size w w5) := ⟨by rw [← hq_]; exact (by repeat (first | (with_reducible first | exact HB.out | apply pzA | apply pzD | apply pz1 | apply pzs | assumption) | exact HB.out))⟩; clear BK256 HB hq_; have BK256 := n0_; have HB := n1_; clear n0_ n1_)); have hcz6_0 := pzc (v := .int .i64 0) BK256 0 rfl; have hcz6_1 := pzc (v := .int .i64 0) BK256 1 rfl; have hfz6_0 := zF BK256.out 0; have hfz6_1 := zF BK256.out 1))
   refine bodyPost_ret (results_tc rfl _ _ gb256 29 #[.int .i64 0, .int .i64 0] (0, 0) _ rfl (by (with_reducible repeat (first | apply pzN | apply pzd | apply pza)); refine blk_put (cs := #[.int .i64 0, .int .i64 0]) ?_ 1 _ rfl; (with_reducible repeat (first | apply pzN | apply pzd | apply pza)); refine blk_put (cs := #[.int .i64 0, .int .i64 0]) ?_ 0 _ rfl; (with_reducible repeat (first | apply pzN | apply pzd | apply pza)); exact BK256.out) Try.underlying29 rfl (by kernel_rfl)) rfl ?_
   exact ⟨by first | rfl | (simp [errW_none, errW_some] <;> rfl) | (simp [*, errW_none, errW_some] <;> rfl), by repeat (first | (with_reducible first | exact HB.out | apply pzA | apply pzD | apply pz1 | apply pzs | assumption) | exact HB.out)⟩
  ·rw [if_neg c4] at H
   have c4b0 : ((l0.length : Int) == 0) = false := beq_eq_false_iff_ne.mpr c4
   have c4b1 : ((l0.length : Int) != 0) = true := bne_iff_ne.mpr c4
   have c4b2 : ¬ (l0 = []) := fun h_ => c4 (by rw [h_]; rfl)
   obtain ⟨ji7, hji7⟩ : ∃ j_ : Int, (wrap64 ((l0.length : Int) - 1)) = j_ := ⟨_, rfl⟩
   replace H : (if 0 ≤ (ji7) then (if (ji7) < (l0.length : Int) then ((bits_Len32.f (rd l0 (ji7))).bind fun t259 => (some (wrap64 ((wrap64 (32 * (ji7))) + t259), 0, 0))) else (none)) else (none)) = some (r1, r2, r3) := by first | (rw [hji7] at H; exact H) | (simp only [hji7] at H ⊢; exact H)
   (try rw [hji7] at A2)
   have hji7w : (IntKind.i64.wrap ((l0.length : Int) - 1)) = ji7 := (i64_w _).trans hji7
   by_cases c8 : 0 ≤ (ji7)
   ·rw [if_pos c8] at H
    have c8b0 : decide (0 ≤ (ji7)) = true := zE c8
    clear c8
    by_cases c9 : (ji7) < (l0.length : Int)
    ·rw [if_pos c9] at H
     have c9b0 : decide ((ji7) < (l0.length : Int)) = true := zE c9
     clear c9
     replace H := zB H
     obtain ⟨t259, A100, H⟩ := H
     replace H : (some (wrap64 ((wrap64 (32 * (ji7))) + t259), 0, 0)) = some (r1, r2, r3) := H
     have A10 := zM A100
     clear A100
     simp only [Option.some.injEq, Prod.mk.injEq] at H
     obtain ⟨rfl, rfl, rfl⟩ := H
     go_enter Try.func68, Try.ntmps68
     go_wp2_with (first | ((with_reducible refine gate_dst (N := 3) rfl ?_); refine box_event ?hg (N := 3) ?hd (cs := #[.int .i64 0, .int .i64 0]) (t := 29) ?hr ?_; (case hd => rfl); (case hg => rfl); (case hr => first | (go_simp; done) | (go_simp; rfl)); intro gb256 hg w11 hbox hb; have BK256 := zM (hbox); have GW256 := zM ((by rw [hg]; exact (below_size (HB.out)) : w.heap.size ≤ gb256)); have GE256 := GW256; replace HB := zM (below_step (HB.out) hb); clear hb hbox hg) | ((with_reducible refine gate_callee (f := 75) rfl ?_); refine goesL_ (some 5) rfl rfl Try.func75 (by kernel_rfl) rfl #[.slice A0 l0.length c0] rfl (by (try simp only [zT, zC, zN]); first | done | rfl | (simp only [zR, zL]; rfl)) ?_; (with_reducible refine (natural_Valid.calls _ _ l0 true _ ?side1 ?side2 A2.out).mono ?_); (case side1 => repeat (first | exact (Kd.C_below HR0.out HB.out) | (with_reducible refine Kd.C_alloc ?_ _) | (with_reducible refine Kd.C_drewN ?_ _) | (with_reducible refine Kd.C_drew ?_))); (case side2 => exact HC0.out); rintro e w' ⟨rfl, ⟨nd, rfl⟩⟩; refine ⟨_, rfl, ?_⟩; (try (rw [drewN_self w11]; generalize hq_ : World.drewN w11 _ = w11; have n0_ : Aside0 (w11.heap[gb256]? = some (.cells #[.int .i64 0, .int .i64 0] 29 (0, 0))) := ⟨by rw [← hq_]; exact BK256.out⟩; have n1_ : Aside0 (Below w.heap.size w w11) := ⟨by rw [← hq_]; exact (by repeat (first | (with_reducible first | exact HB.out | apply pzA | apply pzD | apply pz1 | apply pzs | assumption) | exact HB.out))⟩; clear BK256 HB hq_; have BK256 := n0_; have HB := n1_; clear n0_ n1_)); have p258 : 0 ≤ ((ji7) : Int) := zD (by first | (with_reducible assumption) | assumption); have q258 : (ji7) < (l0.length : Int) := zD (by first | (with_reducible assumption) | assumption); obtain ⟨ad258, e258, hx258_0⟩ := Kd.at_int HR0.out (ji7) p258 q258; cases e258; replace hx258_0 := (HB.out.cell (World.block_lt_of_cell? w _ hx258_0)).trans hx258_0; replace p258 := eq_true p258; replace q258 := eq_true q258) | ((with_reducible refine gate_callee (f := 77) rfl ?_); refine goesL_ (some 22) rfl rfl Try.func77 (by kernel_rfl) rfl #[.int .u32 (rd l0 (ji7))] rfl (by (try simp only [zT, zC, zN]); first | done | (simp only [hji7]; rfl) | rfl | (simp only [zR, zL]; rfl)) ?_; (with_reducible refine (bits_Len32.calls (rd l0 (ji7)) t259 _ A10.out).mono ?_); rintro e w' ⟨rfl, ⟨nd, rfl⟩⟩; refine ⟨_, rfl, ?_⟩; (try (rw [drewN_self w11]; generalize hq_ : World.drewN w11 _ = w11; have n0_ : Aside0 (w11.heap[gb256]? = some (.cells #[.int .i64 0, .int .i64 0] 29 (0, 0))) := ⟨by rw [← hq_]; exact BK256.out⟩; have n1_ : Aside0 (Below w.heap.size w w11) := ⟨by rw [← hq_]; exact (by repeat (first | (with_reducible first | exact HB.out | apply pzA | apply pzD | apply pz1 | apply pzs | assumption) | exact HB.out))⟩; clear BK256 HB hq_; have BK256 := n0_; have HB := n1_; clear n0_ n1_)); have hcz12_0 := pzc (v := .int .i64 0) BK256 0 rfl; have hcz12_1 := pzc (v := .int .i64 0) BK256 1 rfl; have hfz12_0 := zF BK256.out 0; have hfz12_1 := zF BK256.out 1))
     refine bodyPost_ret (results_tc rfl _ _ gb256 29 #[.int .i64 0, .int .i64 0] (0, 0) _ rfl (by (with_reducible repeat (first | apply pzN | apply pzd | apply pza)); refine blk_put (cs := #[.int .i64 0, .int .i64 0]) ?_ 1 _ rfl; (with_reducible repeat (first | apply pzN | apply pzd | apply pza)); refine blk_put (cs := #[.int .i64 0, .int .i64 0]) ?_ 0 _ rfl; (with_reducible repeat (first | apply pzN | apply pzd | apply pza)); exact BK256.out) Try.underlying29 rfl (by kernel_rfl)) rfl ?_
     exact ⟨by first | rfl | (simp [errW_none, errW_some] <;> rfl) | (simp only [← hji7]; first | rfl | (simp [errW_none, errW_some] <;> rfl)) | (simp [*, errW_none, errW_some] <;> rfl), by repeat (first | (with_reducible first | exact HB.out | apply pzA | apply pzD | apply pz1 | apply pzs | assumption) | exact HB.out)⟩
    ·rw [if_neg c9] at H
     exact absurd H (by simp)
   ·rw [if_neg c8] at H
    exact absurd H (by simp)
 ·replace c3 := Bool.eq_false_iff.mpr c3
  subst c3
  have H1 : ((natural_at.f 6 (-1)).bind fun bt260 => (some (0, bt260.1, bt260.2))) = some (r1, r2, r3) := by rw [if_neg (show ¬ (false = true) by decide)] at H; exact H
  clear H
  have H := H1
  clear H1
  replace H := zB H
  obtain ⟨⟨t260, t261⟩, A130, H⟩ := H
  replace H : (some (0, t260, t261)) = some (r1, r2, r3) := H
  have A13 := zM A130
  clear A130
  simp only [Option.some.injEq, Prod.mk.injEq] at H
  obtain ⟨rfl, rfl, rfl⟩ := H
  go_enter Try.func68, Try.ntmps68
  go_wp2_with (first | ((with_reducible refine gate_dst (N := 3) rfl ?_); refine box_event ?hg (N := 3) ?hd (cs := #[.int .i64 0, .int .i64 0]) (t := 29) ?hr ?_; (case hd => rfl); (case hg => rfl); (case hr => first | (go_simp; done) | (go_simp; rfl)); intro gb256 hg w14 hbox hb; have BK256 := zM (hbox); have GW256 := zM ((by rw [hg]; exact (below_size (HB.out)) : w.heap.size ≤ gb256)); have GE256 := GW256; replace HB := zM (below_step (HB.out) hb); clear hb hbox hg) | ((with_reducible refine gate_callee (f := 75) rfl ?_); refine goesL_ (some 5) rfl rfl Try.func75 (by kernel_rfl) rfl #[.slice A0 l0.length c0] rfl (by (try simp only [zT, zC, zN]); first | done | rfl | (simp only [zR, zL]; rfl)) ?_; (with_reducible refine (natural_Valid.calls _ _ l0 false _ ?side1 ?side2 A2.out).mono ?_); (case side1 => repeat (first | exact (Kd.C_below HR0.out HB.out) | (with_reducible refine Kd.C_alloc ?_ _) | (with_reducible refine Kd.C_drewN ?_ _) | (with_reducible refine Kd.C_drew ?_))); (case side2 => exact HC0.out); rintro e w' ⟨rfl, ⟨nd, rfl⟩⟩; refine ⟨_, rfl, ?_⟩; (try (rw [drewN_self w14]; generalize hq_ : World.drewN w14 _ = w14; have n0_ : Aside0 (w14.heap[gb256]? = some (.cells #[.int .i64 0, .int .i64 0] 29 (0, 0))) := ⟨by rw [← hq_]; exact BK256.out⟩; have n1_ : Aside0 (Below w.heap.size w w14) := ⟨by rw [← hq_]; exact (by repeat (first | (with_reducible first | exact HB.out | apply pzA | apply pzD | apply pz1 | apply pzs | assumption) | exact HB.out))⟩; clear BK256 HB hq_; have BK256 := n0_; have HB := n1_; clear n0_ n1_))) | ((with_reducible refine gate_callee (f := 76) rfl ?_); refine goesL_ (some 7) rfl rfl Try.func76 (by kernel_rfl) rfl #[.int .i64 6, .int .i64 (-1)] rfl (by (try simp only [zT, zC, zN]); first | done | rfl | (simp only [zR, zL]; rfl)) ?_; (with_reducible refine (natural_at.calls 6 (-1) t260 t261 _ A13.out).mono ?_); rintro e w15 ⟨rfl, hb⟩; refine ⟨_, rfl, ?_⟩; replace BK256 := pzb BK256 hb; replace HB := zM (below_step (by repeat (first | (with_reducible first | exact HB.out | apply pzA | apply pzD | apply pz1 | apply pzs | assumption) | exact HB.out)) hb); (try clear hb); (try clear hb2); (try clear hk); (try clear hi); have hcz16_0 := pzc (v := .int .i64 0) BK256 0 rfl; have hcz16_1 := pzc (v := .int .i64 0) BK256 1 rfl; have hfz16_0 := zF BK256.out 0; have hfz16_1 := zF BK256.out 1))
  refine bodyPost_ret (results_tc rfl _ _ gb256 29 #[.int .i64 t260, .int .i64 t261] (0, 0) _ rfl (by (with_reducible repeat (first | apply pzN | apply pzd | apply pza)); refine blk_put (cs := #[.int .i64 t260, .int .i64 0]) ?_ 1 _ rfl; (with_reducible repeat (first | apply pzN | apply pzd | apply pza)); refine blk_put (cs := #[.int .i64 0, .int .i64 0]) ?_ 0 _ rfl; (with_reducible repeat (first | apply pzN | apply pzd | apply pza)); exact BK256.out) Try.underlying29 rfl (by kernel_rfl)) rfl ?_
  exact ⟨by first | rfl | (simp [errW_none, errW_some] <;> rfl) | (simp [*, errW_none, errW_some] <;> rfl), by repeat (first | (with_reducible first | exact HB.out | apply pzA | apply pzD | apply pz1 | apply pzs | assumption) | exact HB.out)⟩

/-! ### integer_Bits: function 60 -/

def integer_Bits.f (k : Nat) (a0_0 : Bool) (l0_1 : List Int) : Option (Int × Int × Int) :=
  (integer_check.f k [(⟨a0_0, l0_1⟩ : S24)]).bind fun f => if f.1 = 0 then natural_Bits.f l0_1 else some (0, f.1, f.2)
theorem integer_Bits.mono : ∀ a0 a1 k, LeO (integer_Bits.f k a0 a1) (integer_Bits.f (k + 1) a0 a1) := by
  intro a0 a1 k
  unfold integer_Bits.f
  exact LeO.bind (integer_check.mono _ _) (fun _ => LeO.refl _)
set_option maxHeartbeats 1000000 in
set_option maxRecDepth 100000 in
theorem integer_Bits.calls (k : Nat) (a0_0 : Bool) (A0_1 : Option Addr) (c0_1 : Nat) (l0_1 : List Int) (r1 : Int) (r2 : Int) (r3 : Int) (w : World) (hr0_1 : Kd.C (Kd.int .u32) w A0_1 l0_1.length l0_1) (hc0_1 : l0_1.length ≤ c0_1) (h : integer_Bits.f k a0_0 l0_1 = some (r1, r2, r3)) :
    Calls Try.prog 60 #[.agg #[.bool a0_0, .slice A0_1 l0_1.length c0_1]] w fun e w' => e = .returned (.tuple #[.int .i64 r1, .agg #[.int .i64 r2, .int .i64 r3]]) ∧ Below w.heap.size w w' := by
  unfold integer_Bits.f at h
  obtain ⟨⟨f1, f2⟩, h1, h⟩ := Option.bind_eq_some_iff.mp h
  have H1 := Aside0.mk h1
  have R0 := Aside0.mk hr0_1
  have C0 := Aside0.mk hc0_1
  clear h1 hr0_1 hc0_1
  have hu24 := Try.underlying24
  have hu29 := Try.underlying29
  dsimp only at h
  go_enter Try.func60, Try.ntmps60
  go_wp2_with fail
  go_at_call 62
  refine (integer_check.calls k _ _ _ f1 f2 _ (Kd.C_new (cs := #[.bool a0_0, .slice A0_1 l0_1.length c0_1]) (t := 24) ?hb (Reps.c2 (k24_mk _ ⟨a0_0, l0_1⟩ C0.out ?g0) (Reps.none _ _)) ?e1) ?e2 H1.out).mono ?_
  case e1 => simp
  case e2 => simp
  case hb => simp
  case g0 => exact Kd.C_below R0.out (below_alloc (below_alloc (below_alloc (Below.refl _ _) _) _) _)
  rintro e w1 ⟨rfl, hb⟩
  have hz := hb.size
  simp only [World.size_alloc] at hz
  have B0 : w1.heap[w.heap.size]? = some (.cells #[.bool a0_0, .slice A0_1 l0_1.length c0_1] 24 (0, 0)) := blk_below (blk_alloc (blk_alloc (heap_at (by simp only [World.size_alloc]) _) _) _) hb
  have kc0_0 : w1.cell? ⟨w.heap.size, 0, none⟩ = some (.bool a0_0) := (blk_cell B0 0).trans rfl
  have kf0_0 := blk_frozen B0 0
  have kc0_1 : w1.cell? ⟨w.heap.size, 1, none⟩ = some (.slice A0_1 l0_1.length c0_1) := (blk_cell B0 1).trans rfl
  have kf0_1 := blk_frozen B0 1
  have l0 : w.heap.size < w1.heap.size := by omega
  have n0 : w.heap.size ≠ w1.heap.size := by omega
  have B1 : w1.heap[w.heap.size + 1]? = some (.cells #[.int .i64 0, .int .i64 0] 29 (0, 0)) := blk_below (blk_alloc (heap_at (by simp only [World.size_alloc]) _) _) hb
  have kc1_0 : w1.cell? ⟨w.heap.size + 1, 0, none⟩ = some (.int .i64 0) := (blk_cell B1 0).trans rfl
  have kf1_0 := blk_frozen B1 0
  have kc1_1 : w1.cell? ⟨w.heap.size + 1, 1, none⟩ = some (.int .i64 0) := (blk_cell B1 1).trans rfl
  have kf1_1 := blk_frozen B1 1
  have l1 : w.heap.size + 1 < w1.heap.size := by omega
  have n1 : w.heap.size + 1 ≠ w1.heap.size := by omega
  have HB := Aside0.mk (below_step (below_alloc (below_alloc (below_alloc (Below.refl _ _) _) _) _) hb)
  clear hb
  by_cases hf : f1 = 0
  · rw [if_pos hf] at h
    subst hf
    have H2 := Aside0.mk h
    clear h
    go_wp2_with fail
    go_at_call 68
    refine (natural_Bits.calls _ _ _ r1 r2 r3 _ (Kd.C_below R0.out (below_alloc HB.out _)) C0.out H2.out).mono ?_
    rintro e w2 ⟨rfl, hb⟩
    have hzs := hb.size
    simp only [World.size_alloc, World.size_setCell, World.size_drew] at hzs
    have B1s : w2.heap[w.heap.size + 1]? = some (.cells #[.int .i64 0, .int .i64 0] 29 (0, 0)) := blk_below (blk_alloc (B1) _) hb
    have kc1_0s : w2.cell? ⟨w.heap.size + 1, 0, none⟩ = some (.int .i64 0) := (blk_cell B1s 0).trans rfl
    have kf1_0s := blk_frozen B1s 0
    have kc1_1s : w2.cell? ⟨w.heap.size + 1, 1, none⟩ = some (.int .i64 0) := (blk_cell B1s 1).trans rfl
    have kf1_1s := blk_frozen B1s 1
    have l1s : w.heap.size + 1 < w2.heap.size := by omega
    have n1s : w.heap.size + 1 ≠ w2.heap.size := by omega
    have HB2 := Aside0.mk (below_step (below_alloc HB.out _) hb)
    clear hb
    go_wp2_with fail
    refine bodyPost_ret (v := .tuple #[.int .i64 r1, .agg #[.int .i64 r2, .int .i64 r3]]) (by simp [results, Try.results60, go_sem, World.cell?_alloc_lt, *]) rfl ⟨rfl, ?_⟩
    repeat (first | exact HB2.out | apply below_drew1 | refine below_set ?_ (by omega) | apply below_alloc)
  · rw [if_neg hf] at h
    simp only [Option.some.injEq, Prod.mk.injEq] at h
    obtain ⟨rfl, rfl, rfl⟩ := h
    have hf1 : (f1 != 0) = true := bne_iff_ne.mpr hf
    clear hf
    go_wp2_with fail
    go_region
    go_wp2_with fail
    refine bodyPost_ret (v := .tuple #[.int .i64 0, .agg #[.int .i64 f1, .int .i64 f2]]) (by simp [results, Try.results60, go_sem, World.cell?_alloc_lt, *]) rfl ⟨rfl, ?_⟩
    repeat (first | exact HB.out | apply below_drew1 | refine below_set ?_ (by omega) | apply below_alloc)

/-! ### random_source_bits: function 61 -/
mutual
def random_source_bits.l0 : Nat → Int → List Int → Int → Int → Option (Bool × List Int × Int × Int)
 | 0, _, _, _, _ => none
 | k + 1, x1, x5, x1000, x1001 => if x1 > 0 then ((random_source_next.f x1000 x1001).bind fun bt263 => (if x1 < 32 then (if 0 ≤ (wrap64 (32 - x1)) then (if x5.length < 35184372088832 then (random_source_bits.l0 k (wrap64 (x1 - 32)) (x5 ++ [shr .u32 ((bt263.1 / 4294967296) % 4294967296) (wrap64 (32 - x1))]) bt263.2.1 bt263.2.2) else (none)) else (none)) else (if x5.length < 35184372088832 then (random_source_bits.l0 k (wrap64 (x1 - 32)) (x5 ++ [(bt263.1 / 4294967296) % 4294967296]) bt263.2.1 bt263.2.2) else (none)))) else (random_source_bits.l1 k x5 x1000 x1001)
def random_source_bits.l1 : Nat → List Int → Int → Int → Option (Bool × List Int × Int × Int)
 | 0, _, _, _ => none
 | k + 1, x5, x1000, x1001 => if (x5.length : Int) > 0 then (if 0 ≤ (wrap64 ((x5.length : Int) - 1)) then (if (wrap64 ((x5.length : Int) - 1)) < (x5.length : Int) then (if (rd x5 (wrap64 ((x5.length : Int) - 1))) = 0 then (if (wrap64 ((x5.length : Int) - 1)) ≤ (x5.length : Int) then (random_source_bits.l1 k (x5.take ((wrap64 ((x5.length : Int) - 1)) : Int).toNat) x1000 x1001) else (none)) else (some (false, x5, x1000, x1001))) else (none)) else (none)) else (some (false, x5, x1000, x1001))
end
def random_source_bits.f (k : Nat) (s0_0 : Int) (s0_1 : Int) (a1 : Int) : Option (Bool × List Int × Int × Int) := random_source_bits.l0 k a1 ([] : List Int) s0_0 s0_1
theorem random_source_bits.mono_l : ∀ k, (∀ y0 y1 y2 y3, LeO (random_source_bits.l0 k y0 y1 y2 y3) (random_source_bits.l0 (k + 1) y0 y1 y2 y3)) ∧ (∀ y0 y1 y2, LeO (random_source_bits.l1 k y0 y1 y2) (random_source_bits.l1 (k + 1) y0 y1 y2))
 | 0 => ⟨fun _ _ _ _ r h => by simp [random_source_bits.l0] at h, fun _ _ _ r h => by simp [random_source_bits.l1] at h⟩
 | k + 1 => by
  obtain ⟨ih0, ih1⟩ := random_source_bits.mono_l k
  refine ⟨?_, ?_⟩
  ·intro y0 y1 y2 y3
   unfold random_source_bits.l0
   repeat' first
   | (with_reducible exact ih0 _ _ _ _)
   | (with_reducible exact ih1 _ _ _)
   | (with_reducible exact LeO.refl _)
   | (with_reducible exact LeO.none _)
   | (with_reducible refine LeO.ite ?_ ?_)
   | (with_reducible refine LeO.bind ?_ (fun _ => ?_))
   | exact ih0 _ _ _ _
   | exact ih1 _ _ _
   | exact LeO.none _
   | refine LeO.ite ?_ ?_
   | refine LeO.bind ?_ (fun _ => ?_)
  ·intro y0 y1 y2
   unfold random_source_bits.l1
   repeat' first
   | (with_reducible exact ih0 _ _ _ _)
   | (with_reducible exact ih1 _ _ _)
   | (with_reducible exact LeO.refl _)
   | (with_reducible exact LeO.none _)
   | (with_reducible refine LeO.ite ?_ ?_)
   | (with_reducible refine LeO.bind ?_ (fun _ => ?_))
   | exact ih0 _ _ _ _
   | exact ih1 _ _ _
   | exact LeO.none _
   | refine LeO.ite ?_ ?_
   | refine LeO.bind ?_ (fun _ => ?_)
theorem random_source_bits.mono : ∀ a0 a1 a2 k, LeO (random_source_bits.f k a0 a1 a2) (random_source_bits.f (k + 1) a0 a1 a2) := by
 intro a0 a1 a2 k
 obtain ⟨ih0, ih1⟩ := random_source_bits.mono_l k
 unfold random_source_bits.f
 repeat' first
   | (with_reducible exact ih0 _ _ _ _)
   | (with_reducible exact ih1 _ _ _)
   | (with_reducible exact LeO.refl _)
   | (with_reducible exact LeO.none _)
   | (with_reducible refine LeO.ite ?_ ?_)
   | (with_reducible refine LeO.bind ?_ (fun _ => ?_))
   | exact ih0 _ _ _ _
   | exact ih1 _ _ _
   | exact LeO.none _
   | refine LeO.ite ?_ ?_
   | refine LeO.bind ?_ (fun _ => ?_)
set_option maxHeartbeats 60000000 in
set_option maxRecDepth 100000 in
theorem random_source_bits.calls (k : Nat) (g : Nat) (s0_0 : Int) (s0_1 : Int) (a1 : Int) (r1 : Bool) (r2 : List Int) (r3 : Int) (r4 : Int) (w0 w : World) (hI : IsS81 w0 w g s0_0 s0_1) (hB : Below w0.heap.size w0 w) (h : random_source_bits.f k s0_0 s0_1 a1 = some (r1, r2, r3, r4)) :
  Calls Try.prog 61 #[.pointer (some ⟨g, 0, none⟩), .int .i64 a1] w fun e w' => ∃ v1_ : Value, e = .returned (.agg #[.bool r1, v1_]) ∧ Kd.R (Kd.int .u32) 76 w' w.heap.size (fun _ => True) v1_ r2 ∧ IsS81 w0 w' g r3 r4 ∧ Below w0.heap.size w0 w' ∧ KeepBut w w' g none := by
 have hu24 := Try.underlying24
 have HI0 := zM hI
 have HK := zM (KeepBut.refl w g none)
 have HL := zM hB.size
 clear hI
 have HW0 := zM hB.size
 have HB := zM hB
 clear hB
 have H : (random_source_bits.l0 k a1 ([] : List Int) s0_0 s0_1) = some (r1, r2, r3, r4) := h
 clear h
 have H' := zM H
 clear H
 go_enter Try.func61, Try.ntmps61
 go_wp2_with (first | ((with_reducible refine gate_dst (N := 4) rfl ?_); (try (refine gate_guard (by rfl) ?_; dsimp only)); refine box_event ?hg (N := 4) ?hd (cs := #[.bool false, .slice none 0 0]) (t := 24) ?hr ?_; (case hd => rfl); (case hg => rfl); (case hr => first | (go_simp; done) | (go_simp; rfl)); intro gb262 hg w3 hbox hb; have BK262 := zM (hbox); have GW262 := zM ((by rw [hg]; exact (keep_size (w := w) (g := g) (row := none) (HK.out)) : w.heap.size ≤ gb262)); have GE262 := zM ((Nat.le_trans HW0.out (by rw [hg]; exact (keep_size (w := w) (g := g) (row := none) (HK.out)) : w.heap.size ≤ gb262) : w0.heap.size ≤ gb262)); have NB0_262 := zM ((by rw [hg]; exact Nat.ne_of_lt (IsS81.lt (show IsS81 w0 _ g s0_0 s0_1 from HI0.out)) : g ≠ gb262)); have NB262_0 := zM ((by rw [hg]; exact Nat.ne_of_gt (IsS81.lt (show IsS81 w0 _ g s0_0 s0_1 from HI0.out)) : gb262 ≠ g)); replace HK := zM (KeepBut.trans (HK.out) (KeepBut.of_below hb g none) (.inl rfl)); replace HB := zM (below_step (by repeat (first | (with_reducible first | exact HB.out | apply below_alloc | apply pw_below_drewN | apply below_drew1 | refine below_set ?_ (IsS81.ge HI0.out)) | exact HB.out)) hb); replace HI0 := zM (IsS81.below (HI0.out) hb); clear hb hbox hg))
 go_loopg [1, 5] k (fun kq v1 v5 w' => ∃ (x1_1 : Int) (x5_1 : List Int) (x1000_1 : Int) (x1001_1 : Int), v1 = .int .i64 x1_1 ∧ Aside0 (random_source_bits.l0 kq x1_1 x5_1 x1000_1 x1001_1 = some (r1, r2, r3, r4)) ∧ Aside0 (kq ≤ k) ∧ Aside0 (Kd.R (Kd.int .u32) 76 w' w.heap.size (fun _ => True) v5 x5_1) ∧ Aside0 (w'.heap[gb262]? = some (.cells #[.bool false, (.slice none 0 0)] 24 (0, 0))) ∧ Aside0 (IsS81 w0 w' g x1000_1 x1001_1) ∧ Aside0 (KeepBut w w' g none) ∧ Aside0 (Below w0.heap.size w0 w'))
 case atStart => exact ⟨(a1), (([] : List Int)), (s0_0), (s0_1), (by first | rfl | (simp; done) | (simp [*]; done)), H', ⟨Nat.le_refl _⟩, ⟨by first | exact Kd.R_nil _ _ _ _ _ | exact Kd.N_nil _ _ _ _ _ | exact Kd.V_nil _ _ _ _ _ | exact Kd.Q_nil _ _ _ _ _ | exact Kd.S_nil _ _ _ _ _⟩, ⟨by (with_reducible repeat (first | apply pzN | apply pzd | apply pza)); exact BK262.out⟩, ⟨by repeat (first | (with_reducible first | exact HI0.out | apply IsS81.alloc | apply IsS81.drewN | apply IsS81.drew | apply IsS81.set_0 | apply IsS81.set_1 | refine IsS81.far ?_ NB0_262.out _) | exact HI0.out)⟩, ⟨by repeat (first | (with_reducible first | exact HK.out | apply KeepBut.set_ | apply keep_drewN | apply keep_drew | apply keep_alloc | refine keep_far ?_ GW262.out _) | exact HK.out)⟩, ⟨by repeat (first | (with_reducible first | exact HB.out | apply below_alloc | apply pw_below_drewN | apply below_drew1 | refine below_set ?_ (IsS81.ge HI0.out) | refine below_setA ?_ (by assumption)) | exact HB.out)⟩⟩
 case round =>
  clear H'
  try clear p2
  obtain ⟨x1_1, x5_1, x1000_1, x1001_1, rfl, HA, HK1, HO_5, BK262, HI0, HK, HB⟩ := hrel
  cases gk with
  | zero => exact absurd HA.out (by simp [random_source_bits.l0])
  | succ k1 =>
   have H := HA.out
   clear HA
   simp only [random_source_bits.l0] at H
   by_cases c4 : x1_1 > 0
   ·rw [if_pos c4] at H
    have c4b0 : decide (0 < x1_1) = true := zE c4
    clear c4
    replace H := zB H
    obtain ⟨⟨t263, t264, t265⟩, A50, H⟩ := H
    replace H : (if x1_1 < 32 then (if 0 ≤ (wrap64 (32 - x1_1)) then (if x5_1.length < 35184372088832 then (random_source_bits.l0 k1 (wrap64 (x1_1 - 32)) (x5_1 ++ [shr .u32 ((t263 / 4294967296) % 4294967296) (wrap64 (32 - x1_1))]) t264 t265) else (none)) else (none)) else (if x5_1.length < 35184372088832 then (random_source_bits.l0 k1 (wrap64 (x1_1 - 32)) (x5_1 ++ [(t263 / 4294967296) % 4294967296]) t264 t265) else (none))) = some (r1, r2, r3, r4) := H
    have A5 := zM A50
    clear A50
    by_cases c6 : x1_1 < 32
    ·rw [if_pos c6] at H
     have c6b0 : decide (x1_1 < 32) = true := zE c6
     clear c6
     obtain ⟨ji7, hji7⟩ : ∃ j_ : Int, (wrap64 (32 - x1_1)) = j_ := ⟨_, rfl⟩
     replace H : (if 0 ≤ (ji7) then (if x5_1.length < 35184372088832 then (random_source_bits.l0 k1 (wrap64 (x1_1 - 32)) (x5_1 ++ [shr .u32 ((t263 / 4294967296) % 4294967296) (ji7)]) t264 t265) else (none)) else (none)) = some (r1, r2, r3, r4) := by first | (rw [hji7] at H; exact H) | (simp only [hji7] at H ⊢; exact H)
     (try rw [hji7] at A5)
     have hji7w : (IntKind.i64.wrap (32 - x1_1)) = ji7 := (i64_w _).trans hji7
     by_cases c8 : 0 ≤ (ji7)
     ·rw [if_pos c8] at H
      have c8b0 := eq_true c8
      have c8b1 : decide (0 ≤ (ji7)) = true := zE c8
      clear c8
      obtain ⟨ji9, hji9⟩ : ∃ j_ : Int, (shr .u32 ((t263 / 4294967296) % 4294967296) (ji7)) = j_ := ⟨_, rfl⟩
      replace H : (if x5_1.length < 35184372088832 then (random_source_bits.l0 k1 (wrap64 (x1_1 - 32)) (x5_1 ++ [ji9]) t264 t265) else (none)) = some (r1, r2, r3, r4) := by first | (rw [hji9] at H; exact H) | (simp only [hji9] at H ⊢; exact H)
      (try rw [hji9] at A5)
      have hji9_ : (((t263 / 4294967296) % 4294967296) / 2 ^ min (ji7).toNat 32) = ji9 := hji9
      have hji9z : (ji7) ≤ 32 → (((t263 / 4294967296) % 4294967296) / 2 ^ (ji7).toNat) = ji9 := shr_small hji9
      by_cases c10 : x5_1.length < 35184372088832
      ·rw [if_pos c10] at H
       have LMc10 := zM c10
       clear c10
       obtain ⟨y266, hy266⟩ : ∃ y_ : List Int, y_ = (x5_1 ++ [ji9]) := ⟨_, rfl⟩
       replace H : (random_source_bits.l0 k1 (wrap64 (x1_1 - 32)) y266 t264 t265) = some (r1, r2, r3, r4) := by first | (rw [hy266]; with_reducible exact H) | (have H2_ := (Option.bind_some _ _).symm.trans H; rw [hy266]; with_reducible exact H2_) | (have H2_ := (Option.bind_some _ _).symm.trans H; with_reducible exact H2_) | with_reducible exact H | (rw [hy266]; exact H) | exact H
       have Ny266 := zM hy266
       clear hy266
       have H' := zM H
       clear H
       go_wp2_with (first | ((with_reducible refine gate_callee (f := 40) rfl ?_); refine goesL_ (some 12) rfl rfl Try.func40 (by kernel_rfl) rfl #[.pointer (some ⟨g, 0, none⟩)] rfl (by (try simp only [zT, zC, zN]); first | done | rfl | (simp only [zR, zL]; rfl)) ?_; (with_reducible refine (random_source_next.calls g x1000_1 x1001_1 t263 t264 t265 w0 _ ?side1 ?side2 A5.out).mono ?_); (case side1 => repeat (first | (with_reducible first | exact HI0.out | apply IsS81.alloc | apply IsS81.drewN | apply IsS81.drew | apply IsS81.set_0 | apply IsS81.set_1 | refine IsS81.far ?_ NB0_262.out _) | exact HI0.out)); (case side2 => repeat (first | (with_reducible first | exact HB.out | apply below_alloc | apply pw_below_drewN | apply below_drew1 | refine below_set ?_ (IsS81.ge HI0.out) | refine below_setA ?_ (by assumption)) | exact HB.out)); rintro e w11 ⟨rfl, hi, hb, hk⟩; refine ⟨_, rfl, ?_⟩; replace HO_5 := zM (Kd.R_mono (Kd.R_keep (IsS81.apart (show IsS81 w0 _ g x1000_1 x1001_1 from by repeat (first | (with_reducible first | exact HI0.out | apply IsS81.alloc | apply IsS81.drewN | apply IsS81.drew | apply IsS81.set_0 | apply IsS81.set_1 | refine IsS81.far ?_ NB0_262.out _) | exact HI0.out)) HO_5.out (by decide)) hk (fun _ h => h.2)) (fun _ h => h.1)); replace BK262 := zM (KeepBut.blk hk (g' := gb262) (o := .cells #[.bool false, .slice none 0 0] 24 (0, 0)) BK262.out NB262_0.out (by simp)); replace HK := zM (KeepBut.trans (by repeat (first | (with_reducible first | exact HK.out | apply KeepBut.set_ | apply keep_drewN | apply keep_drew | apply keep_alloc | refine keep_far ?_ GW262.out _) | exact HK.out)) hk (.inl rfl)); replace HB := zM (hb); replace HI0 := zM (hi); (try clear hb); (try clear hb2); (try clear hk); (try clear hi)) | ((with_reducible refine gate_builtin (b := .append) (xs := #[.tmp 21, .tmp 23]) rfl ?_); (try (refine gate_guard (by rfl) ?_; dsimp only)); at_builtin; refine Kd.R_append (Kd.int .u32) w.heap.size rfl (.tmp 21) (.tmp 23) 22 76 (.int .u32 0) 4 rfl Try.underlying22 info76 rfl (by decide) (by omega) u5 x5_1 ji9 [.int .u32 ji9] (fun _ => True) (fun _ => False) rfl rfl ?aP (fun _ hk => hk.elim) ?aF ?aO (Below.refl _ _) ?aS ?aL ?_; (case aP => exact rfl); (case aF => exact (fun _ _ => trivial)); (case aO => exact HO_5.out); (case aS => exact (keep_size (w := w) (g := g) (row := none) (by repeat (first | (with_reducible first | exact HK.out | apply KeepBut.set_ | apply keep_drewN | apply keep_drew | apply keep_alloc | refine keep_far ?_ GW262.out _) | exact HK.out)))); (case aL => have := LMc10.out; omega); intro v267 w12 ho hb hg hat; rw [← Ny266.out] at ho; have n0_ := zM (blk_grown (g := gb262) (o := .cells #[.bool false, .slice none 0 0] 24 (0, 0)) BK262.out hg (Kd.R_ne HO_5.out BK262.out (by decide))); have n1_ := zM (IsS81.grown (by repeat (first | (with_reducible first | exact HI0.out | apply IsS81.alloc | apply IsS81.drewN | apply IsS81.drew | apply IsS81.set_0 | apply IsS81.set_1 | refine IsS81.far ?_ NB0_262.out _) | exact HI0.out)) hg (IsS81.own_ne HI0.out HO_5.out (by decide))); have n2_ := zM (below_weaken (by repeat (first | (with_reducible first | exact HB.out | apply below_alloc | apply pw_below_drewN | apply below_drew1 | refine below_set ?_ (IsS81.ge HI0.out) | refine below_setA ?_ (by assumption)) | exact HB.out)) HL.out hb); have n3_ := zM (KeepBut.trans (by repeat (first | (with_reducible first | exact HK.out | apply KeepBut.set_ | apply keep_drewN | apply keep_drew | apply keep_alloc | refine keep_far ?_ GW262.out _) | exact HK.out)) (KeepBut.of_grown hg g) (Kd.R_base2 HO_5.out)); have n4_ := zM (ho); clear BK262; clear HI0; clear HB; clear HK; clear HO_5; have BK262 := n0_; have HI0 := n1_; have HB := n2_; have HK := n3_; have HO268 := n4_; clear n0_ n1_ n2_ n3_ n4_; clear ho hb hg hat))
       go_roundg k1
       case measure => have := HK1.out; omega
       case rel => exact ⟨(wrap64 (x1_1 - 32)), (y266), (t264), (t265), (by first | rfl | (simp; done) | (simp [*]; done)), H', ⟨by have := HK1.out; omega⟩, ⟨by (with_reducible repeat (first | apply Kd.R_alloc | apply Kd.R_drewN | apply Kd.R_drew)); exact HO268.out⟩, ⟨by (with_reducible repeat (first | apply pzN | apply pzd | apply pza)); exact BK262.out⟩, ⟨by repeat (first | (with_reducible first | exact HI0.out | apply IsS81.alloc | apply IsS81.drewN | apply IsS81.drew | apply IsS81.set_0 | apply IsS81.set_1 | refine IsS81.far ?_ NB0_262.out _) | exact HI0.out)⟩, ⟨by repeat (first | (with_reducible first | exact HK.out | apply KeepBut.set_ | apply keep_drewN | apply keep_drew | apply keep_alloc | refine keep_far ?_ GW262.out _) | exact HK.out)⟩, ⟨by repeat (first | (with_reducible first | exact HB.out | apply below_alloc | apply pw_below_drewN | apply below_drew1 | refine below_set ?_ (IsS81.ge HI0.out) | refine below_setA ?_ (by assumption)) | exact HB.out)⟩⟩
      ·rw [if_neg c10] at H
       exact absurd H (by simp)
     ·rw [if_neg c8] at H
      exact absurd H (by simp)
    ·rw [if_neg c6] at H
     have c6b0 : decide (x1_1 < 32) = false := decide_eq_false c6
     clear c6
     by_cases c13 : x5_1.length < 35184372088832
     ·rw [if_pos c13] at H
      have LMc13 := zM c13
      clear c13
      obtain ⟨y269, hy269⟩ : ∃ y_ : List Int, y_ = (x5_1 ++ [(t263 / 4294967296) % 4294967296]) := ⟨_, rfl⟩
      replace H : (random_source_bits.l0 k1 (wrap64 (x1_1 - 32)) y269 t264 t265) = some (r1, r2, r3, r4) := by first | (rw [hy269]; with_reducible exact H) | (have H2_ := (Option.bind_some _ _).symm.trans H; rw [hy269]; with_reducible exact H2_) | (have H2_ := (Option.bind_some _ _).symm.trans H; with_reducible exact H2_) | with_reducible exact H | (rw [hy269]; exact H) | exact H
      have Ny269 := zM hy269
      clear hy269
      have H' := zM H
      clear H
      go_wp2_with (first | ((with_reducible refine gate_callee (f := 40) rfl ?_); refine goesL_ (some 12) rfl rfl Try.func40 (by kernel_rfl) rfl #[.pointer (some ⟨g, 0, none⟩)] rfl (by (try simp only [zT, zC, zN]); first | done | rfl | (simp only [zR, zL]; rfl)) ?_; (with_reducible refine (random_source_next.calls g x1000_1 x1001_1 t263 t264 t265 w0 _ ?side1 ?side2 A5.out).mono ?_); (case side1 => repeat (first | (with_reducible first | exact HI0.out | apply IsS81.alloc | apply IsS81.drewN | apply IsS81.drew | apply IsS81.set_0 | apply IsS81.set_1 | refine IsS81.far ?_ NB0_262.out _) | exact HI0.out)); (case side2 => repeat (first | (with_reducible first | exact HB.out | apply below_alloc | apply pw_below_drewN | apply below_drew1 | refine below_set ?_ (IsS81.ge HI0.out) | refine below_setA ?_ (by assumption)) | exact HB.out)); rintro e w14 ⟨rfl, hi, hb, hk⟩; refine ⟨_, rfl, ?_⟩; replace HO_5 := zM (Kd.R_mono (Kd.R_keep (IsS81.apart (show IsS81 w0 _ g x1000_1 x1001_1 from by repeat (first | (with_reducible first | exact HI0.out | apply IsS81.alloc | apply IsS81.drewN | apply IsS81.drew | apply IsS81.set_0 | apply IsS81.set_1 | refine IsS81.far ?_ NB0_262.out _) | exact HI0.out)) HO_5.out (by decide)) hk (fun _ h => h.2)) (fun _ h => h.1)); replace BK262 := zM (KeepBut.blk hk (g' := gb262) (o := .cells #[.bool false, .slice none 0 0] 24 (0, 0)) BK262.out NB262_0.out (by simp)); replace HK := zM (KeepBut.trans (by repeat (first | (with_reducible first | exact HK.out | apply KeepBut.set_ | apply keep_drewN | apply keep_drew | apply keep_alloc | refine keep_far ?_ GW262.out _) | exact HK.out)) hk (.inl rfl)); replace HB := zM (hb); replace HI0 := zM (hi); (try clear hb); (try clear hb2); (try clear hk); (try clear hi)) | ((with_reducible refine gate_builtin (b := .append) (xs := #[.tmp 21, .tmp 23]) rfl ?_); (try (refine gate_guard (by rfl) ?_; dsimp only)); at_builtin; refine Kd.R_append (Kd.int .u32) w.heap.size rfl (.tmp 21) (.tmp 23) 22 76 (.int .u32 0) 4 rfl Try.underlying22 info76 rfl (by decide) (by omega) u5 x5_1 ((t263 / 4294967296) % 4294967296) [.int .u32 ((t263 / 4294967296) % 4294967296)] (fun _ => True) (fun _ => False) rfl rfl ?aP (fun _ hk => hk.elim) ?aF ?aO (Below.refl _ _) ?aS ?aL ?_; (case aP => exact rfl); (case aF => exact (fun _ _ => trivial)); (case aO => exact HO_5.out); (case aS => exact (keep_size (w := w) (g := g) (row := none) (by repeat (first | (with_reducible first | exact HK.out | apply KeepBut.set_ | apply keep_drewN | apply keep_drew | apply keep_alloc | refine keep_far ?_ GW262.out _) | exact HK.out)))); (case aL => have := LMc13.out; omega); intro v270 w15 ho hb hg hat; rw [← Ny269.out] at ho; have n0_ := zM (blk_grown (g := gb262) (o := .cells #[.bool false, .slice none 0 0] 24 (0, 0)) BK262.out hg (Kd.R_ne HO_5.out BK262.out (by decide))); have n1_ := zM (IsS81.grown (by repeat (first | (with_reducible first | exact HI0.out | apply IsS81.alloc | apply IsS81.drewN | apply IsS81.drew | apply IsS81.set_0 | apply IsS81.set_1 | refine IsS81.far ?_ NB0_262.out _) | exact HI0.out)) hg (IsS81.own_ne HI0.out HO_5.out (by decide))); have n2_ := zM (below_weaken (by repeat (first | (with_reducible first | exact HB.out | apply below_alloc | apply pw_below_drewN | apply below_drew1 | refine below_set ?_ (IsS81.ge HI0.out) | refine below_setA ?_ (by assumption)) | exact HB.out)) HL.out hb); have n3_ := zM (KeepBut.trans (by repeat (first | (with_reducible first | exact HK.out | apply KeepBut.set_ | apply keep_drewN | apply keep_drew | apply keep_alloc | refine keep_far ?_ GW262.out _) | exact HK.out)) (KeepBut.of_grown hg g) (Kd.R_base2 HO_5.out)); have n4_ := zM (ho); clear BK262; clear HI0; clear HB; clear HK; clear HO_5; have BK262 := n0_; have HI0 := n1_; have HB := n2_; have HK := n3_; have HO271 := n4_; clear n0_ n1_ n2_ n3_ n4_; clear ho hb hg hat))
      go_roundg k1
      case measure => have := HK1.out; omega
      case rel => exact ⟨(wrap64 (x1_1 - 32)), (y269), (t264), (t265), (by first | rfl | (simp; done) | (simp [*]; done)), H', ⟨by have := HK1.out; omega⟩, ⟨by (with_reducible repeat (first | apply Kd.R_alloc | apply Kd.R_drewN | apply Kd.R_drew)); exact HO271.out⟩, ⟨by (with_reducible repeat (first | apply pzN | apply pzd | apply pza)); exact BK262.out⟩, ⟨by repeat (first | (with_reducible first | exact HI0.out | apply IsS81.alloc | apply IsS81.drewN | apply IsS81.drew | apply IsS81.set_0 | apply IsS81.set_1 | refine IsS81.far ?_ NB0_262.out _) | exact HI0.out)⟩, ⟨by repeat (first | (with_reducible first | exact HK.out | apply KeepBut.set_ | apply keep_drewN | apply keep_drew | apply keep_alloc | refine keep_far ?_ GW262.out _) | exact HK.out)⟩, ⟨by repeat (first | (with_reducible first | exact HB.out | apply below_alloc | apply pw_below_drewN | apply below_drew1 | refine below_set ?_ (IsS81.ge HI0.out) | refine below_setA ?_ (by assumption)) | exact HB.out)⟩⟩
     ·rw [if_neg c13] at H
      exact absurd H (by simp)
   ·rw [if_neg c4] at H
    have c4b0 : decide (0 < x1_1) = false := decide_eq_false c4
    clear c4
    have H' := zM H
    clear H
    go_wp2
    go_loopg [5] k1 (fun kq v5 w' => ∃ (x5_2 : List Int), Aside0 (random_source_bits.l1 kq x5_2 x1000_1 x1001_1 = some (r1, r2, r3, r4)) ∧ Aside0 (kq ≤ k1) ∧ Aside0 (Kd.R (Kd.int .u32) 76 w' w.heap.size (fun _ => True) v5 x5_2) ∧ Aside0 (w'.heap[gb262]? = some (.cells #[.bool false, (.slice none 0 0)] 24 (0, 0))) ∧ Aside0 (IsS81 w0 w' g x1000_1 x1001_1) ∧ Aside0 (KeepBut w w' g none) ∧ Aside0 (Below w0.heap.size w0 w'))
    case atStart => exact ⟨(x5_1), H', ⟨Nat.le_refl _⟩, ⟨by (with_reducible repeat (first | apply Kd.R_alloc | apply Kd.R_drewN | apply Kd.R_drew)); exact HO_5.out⟩, ⟨by (with_reducible repeat (first | apply pzN | apply pzd | apply pza)); exact BK262.out⟩, ⟨by repeat (first | (with_reducible first | exact HI0.out | apply IsS81.alloc | apply IsS81.drewN | apply IsS81.drew | apply IsS81.set_0 | apply IsS81.set_1 | refine IsS81.far ?_ NB0_262.out _) | exact HI0.out)⟩, ⟨by repeat (first | (with_reducible first | exact HK.out | apply KeepBut.set_ | apply keep_drewN | apply keep_drew | apply keep_alloc | refine keep_far ?_ GW262.out _) | exact HK.out)⟩, ⟨by repeat (first | (with_reducible first | exact HB.out | apply below_alloc | apply pw_below_drewN | apply below_drew1 | refine below_set ?_ (IsS81.ge HI0.out) | refine below_setA ?_ (by assumption)) | exact HB.out)⟩⟩
    case round =>
     clear H'
     try clear c1
     try clear p2
     try clear c4
     try clear c4b0
     try clear c6
     try clear c6b0
     try clear p6
     try clear c8
     try clear c8b0
     try clear c8b1
     try clear c10
     try clear c13
     try clear p2
     obtain ⟨x5_2, HA, HK2, HO_5, BK262, HI0, HK, HB⟩ := hrel
     cases gk with
     | zero => exact absurd HA.out (by simp [random_source_bits.l1])
     | succ k2 =>
      have H := HA.out
      clear HA
      simp only [random_source_bits.l1] at H
      by_cases c16 : (x5_2.length : Int) > 0
      ·rw [if_pos c16] at H
       have c16b0 : decide (0 < (x5_2.length : Int)) = true := zE c16
       have c16b1 : decide (0 < x5_2.length) = true := zE (by omega)
       clear c16
       obtain ⟨ji17, hji17⟩ : ∃ j_ : Int, (wrap64 ((x5_2.length : Int) - 1)) = j_ := ⟨_, rfl⟩
       replace H : (if 0 ≤ (ji17) then (if (ji17) < (x5_2.length : Int) then (if (rd x5_2 (ji17)) = 0 then (if (ji17) ≤ (x5_2.length : Int) then (random_source_bits.l1 k2 (x5_2.take ((ji17) : Int).toNat) x1000_1 x1001_1) else (none)) else (some (false, x5_2, x1000_1, x1001_1))) else (none)) else (none)) = some (r1, r2, r3, r4) := by first | (rw [hji17] at H; exact H) | (simp only [hji17] at H ⊢; exact H)
       have hji17w : (IntKind.i64.wrap ((x5_2.length : Int) - 1)) = ji17 := (i64_w _).trans hji17
       by_cases c18 : 0 ≤ (ji17)
       ·rw [if_pos c18] at H
        have c18b0 : decide (0 ≤ (ji17)) = true := zE c18
        clear c18
        by_cases c19 : (ji17) < (x5_2.length : Int)
        ·rw [if_pos c19] at H
         have c19b0 : decide ((ji17) < (x5_2.length : Int)) = true := zE c19
         clear c19
         by_cases c20 : (rd x5_2 (ji17)) = 0
         ·rw [if_pos c20] at H
          have c20b0 : ((rd x5_2 (ji17)) == 0) = true := beq_iff_eq.mpr c20
          have c20b1 : ((rd x5_2 (ji17)) != 0) = false := bne_eq_false_iff_eq.mpr c20
          clear c20
          by_cases c21 : (ji17) ≤ (x5_2.length : Int)
          ·rw [if_pos c21] at H
           have c21b0 := eq_true c21
           have c21b1 : decide ((ji17) ≤ (x5_2.length : Int)) = true := zE c21
           clear c21
           obtain ⟨y273, hy273⟩ : ∃ y_ : List Int, y_ = (x5_2.take ((ji17) : Int).toNat) := ⟨_, rfl⟩
           replace H : (random_source_bits.l1 k2 y273 x1000_1 x1001_1) = some (r1, r2, r3, r4) := by first | (rw [hy273]; with_reducible exact H) | (have H2_ := (Option.bind_some _ _).symm.trans H; rw [hy273]; with_reducible exact H2_) | (have H2_ := (Option.bind_some _ _).symm.trans H; with_reducible exact H2_) | with_reducible exact H | (rw [hy273]; exact H) | exact H
           have Ny273 := zM hy273
           clear hy273
           have H' := zM H
           clear H
           obtain ⟨Ao22, co22, eo22⟩ := Kd.R_slice HO_5.out
           subst eo22
           have p272 : 0 ≤ ((ji17) : Int) := zD (by first | (with_reducible assumption) | assumption)
           have q272 : (ji17) < (x5_2.length : Int) := zD (by first | (with_reducible assumption) | assumption)
           obtain ⟨ad272, e272, hx272_0⟩ := Kd.at_int (Kd.R_reads' HO_5.out).2.2 (ji17) p272 q272
           cases e272
           replace p272 := eq_true p272
           replace q272 := eq_true q272
           have q23 : ((ji17) : Int) ≤ ((x5_2.length : Int) : Int) := zD (by first | (with_reducible assumption) | assumption)
           obtain ⟨i023, hi023, _, hsz23, _⟩ := info_parts info76
           have hcut23 := cut_to (P := Try.prog) 22 76 .i64 Try.underlying22 hi023 (some ad272) x5_2.length co22 (ji17) (zD (by first | (with_reducible assumption) | assumption)) q23 (Kd.R_reads' HO_5.out).2.1
           have hr23 := Kd.R_take (m := ((ji17) : Int).toNat) HO_5.out (by omega)
           have hy23 : y273.length = ((ji17) : Int).toNat := (by rw [Ny273.out, zL]; omega)
           rw [← Ny273.out] at hr23
           rw [← hy23] at hr23 hcut23
           clear hy23 hi023 hsz23 HO_5
           have HO275 := zM hr23
           clear hr23
           replace q23 := eq_true q23
           go_wp2
           go_roundg k2
           case measure => have := HK1.out; have := HK2.out; omega
           case rel => exact ⟨(y273), H', ⟨by have := HK1.out; have := HK2.out; omega⟩, ⟨by (with_reducible repeat (first | apply Kd.R_alloc | apply Kd.R_drewN | apply Kd.R_drew)); exact HO275.out⟩, ⟨by (with_reducible repeat (first | apply pzN | apply pzd | apply pza)); exact BK262.out⟩, ⟨by repeat (first | (with_reducible first | exact HI0.out | apply IsS81.alloc | apply IsS81.drewN | apply IsS81.drew | apply IsS81.set_0 | apply IsS81.set_1 | refine IsS81.far ?_ NB0_262.out _) | exact HI0.out)⟩, ⟨by repeat (first | (with_reducible first | exact HK.out | apply KeepBut.set_ | apply keep_drewN | apply keep_drew | apply keep_alloc | refine keep_far ?_ GW262.out _) | exact HK.out)⟩, ⟨by repeat (first | (with_reducible first | exact HB.out | apply below_alloc | apply pw_below_drewN | apply below_drew1 | refine below_set ?_ (IsS81.ge HI0.out) | refine below_setA ?_ (by assumption)) | exact HB.out)⟩⟩
          ·rw [if_neg c21] at H
           exact absurd H (by simp)
         ·rw [if_neg c20] at H
          have c20b0 : ((rd x5_2 (ji17)) == 0) = false := beq_eq_false_iff_ne.mpr c20
          have c20b1 : ((rd x5_2 (ji17)) != 0) = true := bne_iff_ne.mpr c20
          simp only [Option.some.injEq, Prod.mk.injEq] at H
          obtain ⟨rfl, rfl, rfl, rfl⟩ := H
          obtain ⟨Ao24, co24, eo24⟩ := Kd.R_slice HO_5.out
          subst eo24
          have p272 : 0 ≤ ((ji17) : Int) := zD (by first | (with_reducible assumption) | assumption)
          have q272 : (ji17) < (x5_2.length : Int) := zD (by first | (with_reducible assumption) | assumption)
          obtain ⟨ad272, e272, hx272_0⟩ := Kd.at_int (Kd.R_reads' HO_5.out).2.2 (ji17) p272 q272
          cases e272
          replace p272 := eq_true p272
          replace q272 := eq_true q272
          have hcz26_0 := pzc (v := .bool false) BK262 0 rfl
          have hcz26_1 := pzc (v := .slice none 0 0) BK262 1 rfl
          have hfz26_0 := zF BK262.out 0
          have hfz26_1 := zF BK262.out 1
          go_wp2
          refine bodyPost_ret (results_cell_row rfl _ _ gb262 24 #[.bool false, .slice (some ad272) x5_2.length co24] (0, 0) _ rfl (by (with_reducible repeat (first | apply pzN | apply pzd | apply pza)); refine blk_put (cs := #[.bool false, .slice none 0 0]) ?_ 1 _ rfl; (with_reducible repeat (first | apply pzN | apply pzd | apply pza)); refine blk_put (cs := #[.bool false, .slice none 0 0]) ?_ 0 _ rfl; (with_reducible repeat (first | apply pzN | apply pzd | apply pza)); exact BK262.out) Try.underlying24 rfl (by kernel_rfl)) rfl ?_
          exact ⟨_, by first | rfl | (simp [errW_none, errW_some] <;> rfl) | (simp only [← hji17]; first | rfl | (simp [errW_none, errW_some] <;> rfl)) | (simp [*, errW_none, errW_some] <;> rfl), by (with_reducible repeat (first | apply Kd.R_alloc | apply Kd.R_drewN | apply Kd.R_drew)); exact Kd.R_mono (Kd.R_far (p := ⟨gb262, 1, none⟩) (Kd.R_far (p := ⟨gb262, 0, none⟩) (Kd.R_types HO_5.out BK262.out (by decide)) (fun _ hk => hk.2) (.bool false)) (fun _ hk => hk.2) (.slice (some ad272) x5_2.length co24)) (fun _ hk => trivial), by repeat (first | (with_reducible first | exact HI0.out | apply IsS81.alloc | apply IsS81.drewN | apply IsS81.drew | apply IsS81.set_0 | apply IsS81.set_1 | refine IsS81.far ?_ NB0_262.out _) | exact HI0.out), by repeat (first | (with_reducible first | exact HB.out | apply below_alloc | apply pw_below_drewN | apply below_drew1 | refine below_set ?_ (IsS81.ge HI0.out) | refine below_setA ?_ (by assumption)) | exact HB.out), by repeat (first | (with_reducible first | exact HK.out | apply KeepBut.set_ | apply keep_drewN | apply keep_drew | apply keep_alloc | refine keep_far ?_ GW262.out _) | exact HK.out)⟩
        ·rw [if_neg c19] at H
         exact absurd H (by simp)
       ·rw [if_neg c18] at H
        exact absurd H (by simp)
      ·rw [if_neg c16] at H
       have c16b0 : decide (0 < (x5_2.length : Int)) = false := decide_eq_false c16
       have c16b1 : decide (0 < x5_2.length) = false := decide_eq_false (by omega)
       clear c16
       simp only [Option.some.injEq, Prod.mk.injEq] at H
       obtain ⟨rfl, rfl, rfl, rfl⟩ := H
       obtain ⟨Ao27, co27, eo27⟩ := Kd.R_slice HO_5.out
       subst eo27
       have hcz29_0 := pzc (v := .bool false) BK262 0 rfl
       have hcz29_1 := pzc (v := .slice none 0 0) BK262 1 rfl
       have hfz29_0 := zF BK262.out 0
       have hfz29_1 := zF BK262.out 1
       go_wp2
       refine bodyPost_ret (results_cell_row rfl _ _ gb262 24 #[.bool false, .slice Ao27 x5_2.length co27] (0, 0) _ rfl (by (with_reducible repeat (first | apply pzN | apply pzd | apply pza)); refine blk_put (cs := #[.bool false, .slice none 0 0]) ?_ 1 _ rfl; (with_reducible repeat (first | apply pzN | apply pzd | apply pza)); refine blk_put (cs := #[.bool false, .slice none 0 0]) ?_ 0 _ rfl; (with_reducible repeat (first | apply pzN | apply pzd | apply pza)); exact BK262.out) Try.underlying24 rfl (by kernel_rfl)) rfl ?_
       exact ⟨_, by first | rfl | (simp [errW_none, errW_some] <;> rfl) | (simp [*, errW_none, errW_some] <;> rfl), by (with_reducible repeat (first | apply Kd.R_alloc | apply Kd.R_drewN | apply Kd.R_drew)); exact Kd.R_mono (Kd.R_far (p := ⟨gb262, 1, none⟩) (Kd.R_far (p := ⟨gb262, 0, none⟩) (Kd.R_types HO_5.out BK262.out (by decide)) (fun _ hk => hk.2) (.bool false)) (fun _ hk => hk.2) (.slice Ao27 x5_2.length co27)) (fun _ hk => trivial), by repeat (first | (with_reducible first | exact HI0.out | apply IsS81.alloc | apply IsS81.drewN | apply IsS81.drew | apply IsS81.set_0 | apply IsS81.set_1 | refine IsS81.far ?_ NB0_262.out _) | exact HI0.out), by repeat (first | (with_reducible first | exact HB.out | apply below_alloc | apply pw_below_drewN | apply below_drew1 | refine below_set ?_ (IsS81.ge HI0.out) | refine below_setA ?_ (by assumption)) | exact HB.out), by repeat (first | (with_reducible first | exact HK.out | apply KeepBut.set_ | apply keep_drewN | apply keep_drew | apply keep_alloc | refine keep_far ?_ GW262.out _) | exact HK.out)⟩

end Go.Proofs.Ytkhiohlfdkkhdaa.P
