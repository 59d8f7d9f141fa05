/- RandomBounded: for every input the law returns true, and each argument reads afterwards as it read before. No condition. -/
import Derived.Test.YtkhiohlfdkkhdaaRows
import Derived.Test.YtkhiohlfdkkhdaaRBA3
import Derived.Test.YtkhiohlfdkkhdaaRBB2
import Derived.Test.YtkhiohlfdkkhdaaRBL2
import Derived.WalkKit
import Derived.ProofKit
import Derived.OpenShut
import Derived.ShutString
import Derived.ChangeOld
import Derived.Below
import Derived.SizedLaws
import Derived.Lib.SmallJoins
import Derived.Carry
/- RandomBounded: for every input the law returns true, and each argument reads afterwards as it read before. No condition. -/
namespace Go.Proofs.Ytkhiohlfdkkhdaa.RBounded
open Go.ChangeShapes Go.WideShapes Go.ChangeAt Go.RowKit Go.Joins Go.AM
open Go.ChangeMaps (open_string shut_string)
set_option linter.unusedVariables false
theorem own : ownKnob Try.prog.godebug = none := by kernel_rfl
theorem laidOut : laidOutB Try.prog = true := by kernel_rfl
theorem cells24 : Try.prog.cellsOf 24 = 2 := by kernel_rfl
theorem cells27 : Try.prog.cellsOf 27 = 2 := by kernel_rfl
theorem types24 : Try.prog.cellTypes Try.prog.depth 24 = some [4, 22] := by kernel_rfl
theorem u64_wf {x : Int} (h : (Lit.int .u64 x).wf = true) : 0 ≤ x ∧ x < 18446744073709551616 := by
  simp [Lit.wf, IntKind.min, IntKind.max, IntKind.bits, IntKind.signed] at h
  omega
theorem u32_wf {x : Int} (h : (Lit.int .u32 x).wf = true) : 0 ≤ x ∧ x < 4294967296 := by
  simp [Lit.wf, IntKind.min, IntKind.max, IntKind.bits, IntKind.signed] at h
  omega

set_option maxRecDepth 100000 in
theorem at24 {w : World} {base : Nat} {b : Bool} {a : Option Addr} {len cap : Nat} (h : Value.okWide Try.prog w .any base 24 (.agg #[.bool b, .slice a len cap])) : ∀ x, a = some x → x.spot = none ∧ x.block < w.heap.size := by
  rintro x rfl
  unfold Value.okWide at h
  rw [Try.underlying24] at h
  obtain ⟨cs, e, _, ts, hts, _, hc⟩ := h
  obtain rfl : [4, 22] = ts := Option.some.inj (types24.symm.trans hts)
  obtain rfl := Value.agg.inj e
  obtain ⟨u, hu, hv⟩ := hc 1 _ rfl
  obtain rfl : 22 = u := Option.some.inj hu
  unfold Cell.okWide at hv
  rw [Try.underlying22] at hv
  unfold Cell.ok at hv
  rw [Try.underlying22] at hv
  obtain ⟨_, _, _, hs, row, cells, hsh, _⟩ := hv
  refine ⟨hs, ?_⟩
  unfold World.shape? at hsh
  cases hb : w.heap[x.block]? with
  | none => rw [hb] at hsh; cases hsh
  | some o => exact (Array.getElem?_eq_some_iff.1 hb).1
/-- an integer of the program, as the arguments hold it -/
def Held (w : World) (c : Bool) (a : Option Addr) (len cap : Nat) (zs : List Int) : Prop :=
  ((a = none ∧ len = 0 ∧ cap = 0 ∧ zs = []) ∨ ∃ x, a = some x ∧ len ≤ cap ∧ cap ≤ maxLen ∧ zs.length = cap ∧ (∀ i, i < zs.length → w.cell? (x.add i) = some (.int .u32 (zs.getD i 0))) ∧ ∀ n ∈ zs, (Lit.int .u32 n).wf = true) ∧ ∀ x, a = some x → x.spot = none ∧ x.block < w.heap.size
theorem Held.rep {w : World} {c : Bool} {a : Option Addr} {len cap : Nat} {zs : List Int} (h : Held w c a len cap zs) :
    VRep w (fun _ => False) (.pair .bool (.list (.int .u32))) true (c, zs.take len) (.agg #[.bool c, .slice a len cap]) [] ∧ Big.Dig Big.B (zs.take len) := by
  obtain ⟨h1, h2, h3, h4⟩ := rep_ints h.1 h.2
  refine ⟨⟨[.bool c, .slice a len cap], rfl, [.bool c], [.slice a len cap], [], [], rfl, rfl, ⟨rfl, rfl⟩, h1, rfl⟩, fun n hn => ?_⟩
  have := u32_wf (h4 n hn)
  unfold Big.B
  omega
set_option maxRecDepth 100000 in
theorem at46 {w : World} {base : Nat} {v : Value} (h : Value.okWide Try.prog w .any base 46 v) : ∃ a len cap, v = .slice a len cap ∧ ∀ x, a = some x → x.spot = none ∧ x.block < w.heap.size := by
  unfold Value.okWide at h
  rw [Try.underlying46] at h
  unfold Cell.okWide at h
  rw [Try.underlying46] at h
  unfold Cell.ok at h
  rw [Try.underlying46] at h
  cases v <;> try exact h.elim
  rename_i a len cap
  refine ⟨a, len, cap, rfl, ?_⟩
  rintro x rfl
  obtain ⟨_, _, _, hs, row, cells, hsh, _⟩ := h
  refine ⟨hs, ?_⟩
  unfold World.shape? at hsh
  cases hb : w.heap[x.block]? with
  | none => rw [hb] at hsh; cases hsh
  | some o => exact (Array.getElem?_eq_some_iff.1 hb).1
def HeldI (w : World) (a : Option Addr) (len cap : Nat) (zs : List Int) : Prop :=
  ((a = none ∧ len = 0 ∧ cap = 0 ∧ zs = []) ∨ ∃ x, a = some x ∧ len ≤ cap ∧ cap ≤ maxLen ∧ zs.length = cap ∧ (∀ i, i < zs.length → w.cell? (x.add i) = some (.int .i64 (zs.getD i 0))) ∧ ∀ n ∈ zs, (Lit.int .i64 n).wf = true) ∧ ∀ x, a = some x → x.spot = none ∧ x.block < w.heap.size
theorem walk (s t x : Int) (c d : Bool) (A1 A2 A3 : Option Addr) (l1 c1 l2 c2 l3 c3 : Nat) (z1 z2 z3 : List Int) (w : World) (h1 : Held w c A1 l1 c1 z1) (h2 : Held w d A2 l2 c2 z2) (h3 : HeldI w A3 l3 c3 z3)
    (ws : (Lit.int .u64 s).wf = true) (wt : (Lit.int .u64 t).wf = true) :
    Calls Try.prog 7 #[.agg #[.int .u64 s, .int .u64 t], .int .i64 x, .agg #[.bool c, .slice A1 l1 c1], .agg #[.bool d, .slice A2 l2 c2], .slice A3 l3 c3] w fun e w' => e = .returned (.bool true) ∧ Below w.heap.size w w' := by
  have rs := u64_wf ws
  have rt := u64_wf wt
  obtain ⟨r1, d1⟩ := h1.rep
  obtain ⟨r2, d2⟩ := h2.rep
  obtain ⟨r3, _⟩ := rep_ints h3.1 h3.2
  obtain ⟨k, hk⟩ := Big.rb_true (nl := c) (nh := d) d1 d2 (z3.take l3) s t x rs.1 rs.2 rt.1
  have hF : callI Go.AM.RU.E Go.AM.RU.Fn Go.AM.RU.G 7 ((s, t), x, (c, z1.take l1), (d, z2.take l2), z3.take l3, ()) = some ((true, ()), ()) := Go.AM.RU.b7 hk
  refine (Go.AM.RU.calls_ok.row hF (w := w) (vs := [.agg #[.int .u64 s, .int .u64 t], .int .i64 x, .agg #[.bool c, .slice A1 l1 c1], .agg #[.bool d, .slice A2 l2 c2], .slice A3 l3 c3]) ?_).mono ?_
  · refine ⟨_, _, [], [], rfl, rfl, ⟨[.int .u64 s, .int .u64 t], rfl, [.int .u64 s], [.int .u64 t], [], [], rfl, rfl, ⟨rfl, rfl⟩, rfl, rfl⟩, ?_⟩
    refine ⟨_, _, [], [], rfl, rfl, ⟨rfl, rfl⟩, ?_⟩
    refine ⟨_, _, [], [], rfl, rfl, r1, ?_⟩
    refine ⟨_, _, [], [], rfl, rfl, r2, ?_⟩
    exact ⟨_, _, [], [], rfl, rfl, ⟨r3, rfl⟩, rfl, rfl, rfl⟩
  · rintro e w' ⟨vr, bs, rfl, hb, v, vs', b1, b2, rfl, _, ⟨hv, _⟩, rfl, _⟩
    cases hv
    exact ⟨rfl, hb⟩
set_option maxRecDepth 100000 in
theorem lifted (os : Os) (started : os.Started) (H : Type) (enc : TypeId × Value → H) :
    ReturnsInHanded {} Try.checked os 7 .any (Rows.randomBoundedSpec.pre6 enc Try.prog Try.f7 Rows.randomBoundedRow.domain false) (Rows.randomBoundedSpec.post enc Try.prog Try.f7 false true false false) := by
  refine returnsInHanded_of_change_sized (C := Try.checked) own started (by kernel_rfl) Try.func7
    (ChangeSpec.witness6 (enc := enc) (C := Try.checked) false ⟨#[], #[.agg #[.int .u64 0, .int .u64 0], .int .i64 0, .agg #[.bool false, .slice none 0 0], .agg #[.bool false, .slice none 0 0], .slice none 0 0], []⟩ 8 (by kernel_rfl) (by kernel_rfl) (by kernel_rfl) (by kernel_rfl)) ?_
  intro W base args ds gs before hval0 hW hcnd hsz0 _
  have hval : ∀ (j : Nat) t v, Try.f7.params[j]? = some t → args[j]? = some v → Value.okWide Try.prog W .any base t v := hval0
  have hW' := hW
  obtain ⟨p, q, hA0, hV, rfl, hfz, hnd⟩ := hW
  have hA : DataW.TrodAll enc Try.prog W 0 (fun _ => true) true Try.f7.params.toList args.toList ds p := hA0
  rw [Try.params7] at hA hval
  obtain ⟨v0, vs0, d0, ds0, p0, q0, hargs, rfl, rfl, h0, r0⟩ := trodAll_cons hA
  obtain ⟨v1, vs1, d1, ds1, p1, q1, rfl, rfl, rfl, h1, r1⟩ := trodAll_cons r0
  obtain ⟨v2, vs2, d2, ds2, p2, q2, rfl, rfl, rfl, h2, r2⟩ := trodAll_cons r1
  obtain ⟨v3, vs3, d3, ds3, p3, q3, rfl, rfl, rfl, h3, r3⟩ := trodAll_cons r2
  obtain ⟨v4, vs4, d4, ds4, p4, q4, rfl, rfl, rfl, h4, r4⟩ := trodAll_cons r3
  obtain ⟨rfl, rfl, rfl⟩ := trodAll_nil r4
  obtain rfl : args = #[v0, v1, v2, v3, v4] := by cases args; simp_all
  obtain ⟨rfl, rfl⟩ := trodVars_none hV
  have lt : ∀ {t : TypeId} {v : Value} {d : DataW H} {ps : List MemPlace}, DataW.Trod enc Try.prog W 0 (fun _ => true) true t v d ps → ∀ x ∈ ps, x.block < W.heap.size := by
    rintro t v d ps ⟨m, hm⟩
    exact DataW.trod_lt m _ _ _ hm
  have int24 : ∀ {v : Value} {d : DataW H} {ps : List MemPlace}, Value.okWide Try.prog W .any base 24 v → DataW.Trod enc Try.prog W 0 (fun _ => true) true 24 v d ps → ∃ c A len cap zs, v = .agg #[.bool c, .slice A len cap] ∧ Held W c A len cap zs := by
    intro v d ps hv h
    obtain ⟨c0, c1, y0, y1, m, rfl, rfl, rfl, hy0, hy1⟩ := open_agg2 Try.underlying24 (by kernel_rfl) cells24 hv h
    obtain ⟨b, e0, rfl⟩ := DataW.trod_bool Try.underlying4 hy0
    obtain ⟨A, l, c, e1⟩ := slice_form Try.underlying22 hy1
    simp only [List.cons.injEq, and_true] at e0 e1
    subst e0 e1
    have ha := at24 hv
    rcases open_ints Try.underlying22 Try.underlying76 (by kernel_rfl) hy1 with ⟨hcs, _⟩ | ⟨x, l', c', zs, hcs, _, hl, hm, hz, _, hcell, hwz⟩
    · simp at hcs
      obtain ⟨rfl, rfl, rfl⟩ := hcs
      exact ⟨b, _, _, _, [], rfl, .inl ⟨rfl, rfl, rfl, rfl⟩, ha⟩
    · simp at hcs
      obtain ⟨rfl, rfl, rfl⟩ := hcs
      exact ⟨b, _, _, _, zs, rfl, .inr ⟨_, rfl, hl, hm, by simpa using hz, hcell, hwz⟩, ha⟩
  obtain ⟨s, t, rfl, w00, w01⟩ : ∃ a b, v0 = .agg #[.int .u64 a, .int .u64 b] ∧ (Lit.int .u64 a).wf = true ∧ (Lit.int .u64 b).wf = true := by
    obtain ⟨c0, c1, y0, y1, m, rfl, rfl, rfl, hy0, hy1⟩ := open_agg2 Try.underlying27 (by kernel_rfl) cells27 (hval 0 27 v0 rfl rfl) h0
    obtain ⟨a, e0, rfl, wa⟩ := DataW.trod_int Try.underlying25 hy0
    obtain ⟨b, e1, rfl, wb⟩ := DataW.trod_int Try.underlying25 hy1
    simp only [List.cons.injEq, and_true] at e0 e1
    subst e0 e1
    exact ⟨a, b, rfl, wa, wb⟩
  obtain ⟨x, rfl, rfl, rfl, w1⟩ := open_int Try.underlying3 (hval 1 3 v1 rfl rfl) h1
  obtain ⟨x1, A1, l1, c1, z1, rfl, g1⟩ := int24 (hval 2 24 v2 rfl rfl) h2
  obtain ⟨x2, A2, l2, c2, z2, rfl, g2⟩ := int24 (hval 3 24 v3 rfl rfl) h3
  obtain ⟨A3, l3, c3, z3, rfl, g3⟩ : ∃ A len cap zs, v4 = .slice A len cap ∧ HeldI W A len cap zs := by
    obtain ⟨a, len, cap, rfl, ha⟩ := at46 (hval 4 46 v4 rfl rfl)
    obtain ⟨m, hm⟩ := h4
    rcases open_ints Try.underlying46 Try.underlying3 (by kernel_rfl) hm with ⟨hcs, _⟩ | ⟨x, l', c', zs, hcs, _, hl, hm', hz, _, hcell, hwz⟩
    · simp [Value.cells] at hcs
      obtain ⟨rfl, rfl, rfl⟩ := hcs
      exact ⟨_, _, _, [], rfl, .inl ⟨rfl, rfl, rfl, rfl⟩, ha⟩
    · simp [Value.cells] at hcs
      obtain ⟨rfl, rfl, rfl⟩ := hcs
      exact ⟨_, _, _, zs, rfl, .inr ⟨_, rfl, hl, hm', by simpa using hz, hcell, hwz⟩, ha⟩
  clear hA0 hval0 hsz0
  refine (walk s t x x1 x2 A1 A2 A3 l1 c1 l2 c2 l3 c3 z1 z2 z3 W g1 g2 g3 w00 w01).mono fun e W' ⟨he, bel⟩ => ?_
  subst he
  exact ⟨_, rfl, _, _, _, [], _, [], hW', trodAll_mk1 (shut_bool Try.underlying4 _), (trodAll_cons_mk (Below.trod laidOut (by kernel_rfl) (of_decide_eq_true (by kernel_rfl)) h0 bel (lt h0)) (trodAll_cons_mk (shut_int Try.underlying3 w1) (trodAll_cons_mk (Below.trod laidOut (by kernel_rfl) (of_decide_eq_true (by kernel_rfl)) h2 bel (lt h2)) (trodAll_cons_mk (Below.trod laidOut (by kernel_rfl) (of_decide_eq_true (by kernel_rfl)) h3 bel (lt h3)) (trodAll_cons_mk (Below.trod laidOut (by kernel_rfl) (of_decide_eq_true (by kernel_rfl)) h4 bel (lt h4)) trodAll_mk0))))), rfl, bel.frame _, fun h => by cases h⟩
theorem over : Rows.randomBoundedRow.holds Try.pinned (OpenSpec.ofChange Rows.randomBoundedSpec) :=
  OpenClaim.holds_of_wide 7 Try.f7 rfl rfl rfl rfl rfl rfl rfl ⟨rfl, rfl, rfl, rfl, rfl⟩ rfl rfl rfl rfl rfl (by kernel_rfl) Try.func7 (by kernel_rfl)
    (of_decide_eq_true (by kernel_rfl)) (by unfold Func.isWrapper; first | (rw [if_pos (by decide +kernel)]; kernel_rfl) | (rw [if_neg (by decide +kernel)]; exact ⟨rfl, rfl⟩))
    (fun os started H enc _ => lifted os started H enc)
theorem proved : Rows.RandomBoundedSaid := over
#print axioms proved
end Go.Proofs.Ytkhiohlfdkkhdaa.RBounded
