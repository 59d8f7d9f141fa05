/- Lemmas of the session's own beside the print's words: an owned row by make([]T, 0, n), and the walk's other spellings of remainders. Conditions: those of each lemma. -/
import Derived.Test.YtkhiohlfdkkhdaaRPWMore
import Derived.Test.YtkhiohlfdkkhdaaRPWNEv
set_option linter.unusedVariables false
namespace Go.Proofs.YtkhiohlfdkkhdaaW.PrintWords
open Go.RowKit
theorem mp_u32 (x : Int) : IntKind.u32.wrap x = x % 4294967296 := rfl
theorem mp_u8 (x : Int) : IntKind.u8.wrap x = x % 256 := rfl
theorem mp_w32 (x : Int) : wrap64 (x % 4294967296) = x % 4294967296 := by unfold wrap64; omega
theorem mp_w8 (x : Int) : wrap64 (x % 256) = x % 256 := by unfold wrap64; omega
theorem zM {p : Prop} (h : p) : Aside0 p := ⟨h⟩
theorem zB {α β : Type} {o : Option α} {f : α → Option β} {b : β} (h : o.bind f = some b) : ∃ a, o = some a ∧ f a = some b := Option.bind_eq_some_iff.mp h
theorem zS {α : Type} (l : List α) (i : Nat) (a : α) : l.toArray.setIfInBounds i a = (l.set i a).toArray := List.setIfInBounds_toArray l i a
theorem z0 {α : Type} {x : α} {xs : List α} {a : α} : (x :: xs).set 0 a = a :: xs := List.set_cons_zero
theorem z1 {α : Type} {x : α} {xs : List α} {n : Nat} {a : α} : (x :: xs).set (n + 1) a = x :: xs.set n a := List.set_cons_succ
theorem zD {p : Prop} [Decidable p] (h : decide p = true) : p := of_decide_eq_true h
/-- A row of numbers of one kind lies elsewhere than a block without such a number. -/
theorem far_kind {w : World} {g n : Nat} {t : TypeId} {cs : Array Value} {A : Option Addr} {xs : List Int} {k : IntKind} (h : Kd.C (Kd.int k) w A n xs) (hb : w.heap[g]? = some (.cells cs t (0, 0))) (hne : ∀ (i : Nat) (v : Int), cs[i]? = some (.int k v) → False) : ∀ ad, A = some ad → 0 < n → ad.block ≠ g := by
  intro ad he hp e
  obtain ⟨a', ha, hc⟩ := (Kd.reads_of_C (d := (0 : Int)) (h1 := fun _ => rfl) h).2.2 hp
  rw [he] at ha
  obtain rfl := Option.some.inj ha
  have h0 := hc 0 hp
  unfold World.cell? at h0
  have hbk : (ad.add 0).block = g := by rw [← e]; rfl
  rw [hbk, hb] at h0
  dsimp only at h0
  split at h0
  · cases h0
  · exact hne _ _ h0
theorem zE {p : Prop} [Decidable p] (h : p) : decide p = true := decide_eq_true h
theorem zT {α β : Type} {f : α → β} {l : List α} : l.toArray.map f = (l.map f).toArray := List.map_toArray
theorem zC {α β : Type} {f : α → β} {a : α} {l : List α} : (a :: l).map f = f a :: l.map f := List.map_cons
theorem zN {α β : Type} {f : α → β} : ([] : List α).map f = [] := List.map_nil
theorem zL {α : Type} {i : Nat} {l : List α} : (l.take i).length = min i l.length := List.length_take
theorem zR {α : Type} {i : Nat} {l : List α} : (l.drop i).length = l.length - i := List.length_drop
theorem zF {w : World} {g : Nat} {vs : Array Value} {t : TypeId} (hb : w.heap[g]? = some (.cells vs t (0, 0))) (j : Nat) : w.frozen? ⟨g, j, none⟩ = false := blk_frozen hb j
/-- What a call that only makes leaves: all cells and marks below. -/
theorem bcell {W w1 : World} (hb : Below W.heap.size W w1) : (∀ b o, b < W.heap.size → w1.cell? ⟨b, o, none⟩ = W.cell? ⟨b, o, none⟩) ∧ (∀ b o, b < W.heap.size → w1.frozen? ⟨b, o, none⟩ = W.frozen? ⟨b, o, none⟩) :=
  ⟨fun b o h => hb.cell (p := ⟨b, o, none⟩) h, fun b o h => hb.frozen (p := ⟨b, o, none⟩) h⟩
theorem heap_at {W : World} {g : Nat} (hg : g = W.heap.size) (o : Obj) : (W.alloc o).heap[g]? = some o := by
  subst hg
  exact heap_alloc_new W o
theorem run_asAgg (P : Program) (xs : Array Value) (w : World) : Sem.run P (asAgg (.agg xs)) w = .ok xs w := rfl
theorem blk_nf {w : World} {g gb : Nat} {o : Obj} (h : w.heap[g]? = some o) (e : gb = w.heap.size) : g ≠ gb := by subst e; exact Nat.ne_of_lt (blk_lt h)
theorem blk_ng {w : World} {g gb : Nat} {o : Obj} (h : w.heap[g]? = some o) (e : gb = w.heap.size) : gb ≠ g := by subst e; exact Nat.ne_of_gt (blk_lt h)
theorem pzN {w : World} {g : Nat} {o : Obj} {n : Nat} (h : w.heap[g]? = some o) : (w.drewN n).heap[g]? = some o := h
theorem pzd {w : World} {g : Nat} {o : Obj} (h : w.heap[g]? = some o) : w.drew.heap[g]? = some o := h
theorem pza {w : World} {g : Nat} {o o' : Obj} (h : w.heap[g]? = some o) : (w.alloc o').heap[g]? = some o := blk_alloc h o'
theorem pzb {w w1 : World} {g : Nat} {o : Obj} (h : Aside0 (w.heap[g]? = some o)) (hb : Below w.heap.size w w1) : Aside0 (w1.heap[g]? = some o) := ⟨blk_below h.out hb⟩
theorem pzf {w : World} {g gb : Nat} {o : Obj} (h : Aside0 (w.heap[g]? = some o)) (e : gb = w.heap.size) : Aside0 (g ≠ gb) := ⟨blk_nf h.out e⟩
theorem pzg {w : World} {g gb : Nat} {o : Obj} (h : Aside0 (w.heap[g]? = some o)) (e : gb = w.heap.size) : Aside0 (gb ≠ g) := ⟨blk_ng h.out e⟩
theorem pzA {w W : World} {o : Obj} (h : Below w.heap.size w W) : Below w.heap.size w (W.alloc o) := below_alloc h o
theorem pzD {B n : Nat} {w W : World} (h : Below B w W) : Below B w (W.drewN n) := pw_below_drewN h n
theorem pz1 {B : Nat} {w W : World} (h : Below B w W) : Below B w W.drew := below_drew1 h
theorem pzs {w W : World} {g j : Nat} {v : Value} (h : Below w.heap.size w W) (hg : Aside0 (w.heap.size ≤ g)) : Below w.heap.size w (W.setCell ⟨g, j, none⟩ v) := below_set h hg.out
theorem pzc {w : World} {g : Nat} {t : TypeId} {cs : Array Value} {v : Value} (h : Aside0 (w.heap[g]? = some (.cells cs t (0, 0)))) (i : Nat) (e : cs[i]? = some v) : w.cell? ⟨g, i, none⟩ = some v := (blk_cell h.out i).trans e
theorem below_setA {w W : World} {g j : Nat} {v : Value} (h : Below w.heap.size w W) (hg : Aside0 (w.heap.size ≤ g)) : Below w.heap.size w (W.setCell ⟨g, j, none⟩ v) := below_set h hg.out
namespace Kd
theorem C_blk {α : Type} {d : Kd α} {W : World} {g : Nat} {cs : Array Value} {t : TypeId} {xs : List α} (hb : W.heap[g]? = some (.cells cs t (0, 0))) (hr : Reps (d.K W) d.sz xs cs.toList) (hl : xs.length ≤ 9223372036854775807) : d.C W (some ⟨g, 0, none⟩) xs.length xs :=
  ⟨rfl, hl, fun _ => ⟨⟨g, 0, none⟩, rfl, fun j p hj => by
    refine ⟨(cs.toList.drop (j * d.sz)).take d.sz, d.K_len (hr.2 j p hj), hr.2 j p hj, fun i u hu => ?_⟩
    have hi : i < d.sz := by
      have h1 := (List.getElem?_eq_some_iff.1 hu).1
      rw [List.length_take] at h1
      omega
    rw [List.getElem?_take_of_lt hi, List.getElem?_drop, Array.getElem?_toList] at hu
    have he : (Addr.add ⟨g, 0, none⟩ (j * d.sz + i)) = ⟨g, j * d.sz + i, none⟩ := by
      simp only [Addr.add, Nat.zero_add]
      split
      · simp_all
      · rfl
    rw [he]
    exact (blk_cell hb _).trans hu⟩⟩
theorem C_new {α : Type} {d : Kd α} {W : World} {g : Nat} {cs : Array Value} {t : TypeId} {xs : List α} (hg : g = W.heap.size) (hr : Reps (d.K (W.alloc (.cells cs t))) d.sz xs cs.toList) (hl : xs.length ≤ 9223372036854775807) : d.C (W.alloc (.cells cs t)) (some ⟨g, 0, none⟩) xs.length xs := by
  subst hg
  exact C_blk (heap_alloc_new W _) hr hl
section
variable {P : Program} {ops : Array Oper} {rest : List Oper} {o : Oper} {a : Act} {Q : Exit → Act → World → Prop} {α : Type}
theorem R_make0 (d : Kd α) {w0 W : World} (base e : Nat) (hgd : o.guard = none) {N : Tmp} (hd : o.dst = some N) (t : TypeId) (x y : Operand) (ho : o.op = .makeSlice t x y) (n : Int) (hx : a.eval x = .int .i64 0) (hy : a.eval y = .int .i64 n)
    (ht : P.underlying t = some (.slice e)) (z : Value) (bytes : Nat) (hinfo : (P.info? e).map (fun i => (i.zero, i.size, i.bytes)) = some (some z, d.sz, bytes)) (hz : z.cells.size = d.sz) (hs0 : 0 < d.sz) (hb0 : 0 < bytes)
    (z0 : α) {ok okp : Nat → Prop} (hzero : d.M W base okp z0 z.cells.toList) (hok : ∀ k, okp k → ok k) (hfresh : ok W.heap.size) (h0 : 0 ≤ n) (hl : n.toNat * bytes ≤ 281474976710656) (HB : Below base w0 W) (hbase : base ≤ W.heap.size)
    (h : ∀ v1 w1, d.R e w1 base ok v1 [] → Below base w0 w1 → W.grownBy w1 none → (∃ b, v1.ownBlock = some b ∧ W.heap.size ≤ b) → wpList P ops Q rest (a.put o.dst v1) w1) : wpList P ops Q (o :: rest) a W := by
  obtain ⟨m, rfl⟩ := Int.eq_ofNat_of_zero_le h0
  simp only [Int.toNat_natCast] at hl h
  obtain ⟨i0, hi, hzz⟩ := Option.map_eq_some_iff.1 hinfo
  simp only [Prod.mk.injEq] at hzz
  obtain ⟨hz0, hz1, hz2⟩ := hzz
  have hm : m ≤ 281474976710656 := Nat.le_trans (Nat.le_mul_of_pos_right _ hb0) hl
  refine wpList_make_own W hgd x y t ho base e i0 z d.sz ht hi hz0 hz1 .i64 .i64 (m : Int) m hx hy rfl (by rw [hz2, Nat.mul_comm]; exact hl) (by unfold maxLen; omega) hbase ?_
  intro w1 hown hg
  refine h _ w1 ⟨fun k hk => ?_, [], hown, Reps.none _ _⟩ (HB.grown hg hbase (fun b hb => by cases hb)) hg ⟨W.heap.size, by simp [Value.ownBlock], Nat.le_refl _⟩
  have : W.heap.size = k := by simpa [Value.ownBlock] using hk
  subst this
  exact hfresh
end
end Kd
end Go.Proofs.YtkhiohlfdkkhdaaW.PrintWords
