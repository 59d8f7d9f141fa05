/- The abstract machine, part 1: what its states and operations are, and what they stand for in the program's memory. Conditions: those of each lemma. -/
import Derived.Orders
import Derived.Deep.AppendLies
import Derived.Deep.MidRow
import Derived.Laws.Sem
import Derived.Maps.AppendAt
import Derived.Deep.Upon
set_option linter.unusedVariables false
namespace Go.AM

inductive Kind where
  | int (k : IntKind) | bool | str | list (e : Kind) | ref (e : Kind) | pair (a b : Kind) | unit
  | own (te : TypeId) (e : Kind)      -- a row that goes from hand to hand
  | ownc (te : TypeId) (e : Kind)     -- a row that goes from hand to hand unless it is empty
  | cel (e : Kind)                    -- a cell that goes from hand to hand, or no cell
  | fn                                -- a function without captured variables

/-- the bytes of a string -/
def strOf (l : List UInt8) : ByteArray := ⟨l.toArray⟩

@[reducible] def Kind.T : Kind → Type
  | .int _ => Int
  | .bool => Bool
  | .str => List UInt8
  | .list e => List e.T
  | .ref e => e.T
  | .pair a b => a.T × b.T
  | .unit => Unit
  | .own _ e => List e.T
  | .cel e => Option e.T
  | .ownc _ e => List e.T
  | .fn => Nat

def Kind.dflt : (κ : Kind) → κ.T
  | .int _ => (0 : Int)
  | .bool => false
  | .str => []
  | .list _ => []
  | .ref e => e.dflt
  | .pair a b => (a.dflt, b.dflt)
  | .unit => ()
  | .own _ _ => []
  | .cel _ => none
  | .ownc _ _ => []
  | .fn => (0 : Nat)

def Kind.size : Kind → Nat
  | .pair a b => a.size + b.size
  | .unit => 0
  | _ => 1

def CellsAt (w : World) (b o : Nat) (cs : List Value) : Prop :=
  ∀ (j : Nat) (c : Value), cs[j]? = some c → w.cell? ⟨b, o + j, none⟩ = some c

/-- the cells vs are the value x of the kind, in the world w; what it reads in memory lies in no block of X -/
def Rep (w : World) (X : Nat → Prop) : (κ : Kind) → κ.T → List Value → Prop
  | .int k, n, vs => vs = [.int k n]
  | .bool, b, vs => vs = [.bool b]
  | .str, s, vs => vs = [.string (strOf s)]
  | .list e, l, vs => ∃ (a : Option Addr) (cap : Nat), vs = [.slice a l.length cap] ∧ l.length ≤ cap ∧
      (a = none → l = []) ∧ ∀ (a' : Addr), a = some a' → a'.spot = none ∧ a'.block < w.heap.size ∧ ¬ X a'.block ∧
        ∀ (i : Nat) (x : e.T), l[i]? = some x → ∃ cs, Rep w X e x cs ∧ CellsAt w a'.block (a'.off + i * e.size) cs
  | .ref e, x, vs => ∃ b o, vs = [.pointer (some ⟨b, o, none⟩)] ∧ b < w.heap.size ∧ ¬ X b ∧ ∃ cs, Rep w X e x cs ∧ CellsAt w b o cs
  | .pair a b, x, vs => ∃ us us', vs = us ++ us' ∧ Rep w X a x.1 us ∧ Rep w X b x.2 us'
  | .unit, _, vs => vs = []
  | .own _ _, _, _ => False
  | .cel _, _, _ => False
  | .ownc _ _, _, _ => False
  | .fn, f, vs => vs = [.func (.func f) #[] #[]]

theorem CellsAt.keep {w w' : World} {b o : Nat} {cs : List Value} (h : w'.heap[b]? = w.heap[b]?) (hc : CellsAt w b o cs) : CellsAt w' b o cs := by
  intro j c hj
  have := hc j c hj
  simp only [World.cell?] at this ⊢
  rw [h]; exact this

/-- what is shared holds in every later world in which the blocks outside of X are as before -/
theorem Rep.keep {w w' : World} {X X' : Nat → Prop} (hs : w.heap.size ≤ w'.heap.size) (hX : ∀ b, b < w.heap.size → X' b → X b)
    (hk : ∀ b, b < w.heap.size → ¬ X b → w'.heap[b]? = w.heap[b]?) : ∀ {κ : Kind} {x : κ.T} {vs : List Value}, Rep w X κ x vs → Rep w' X' κ x vs
  | .int _, _, _, h => h
  | .bool, _, _, h => h
  | .str, _, _, h => h
  | .unit, _, _, h => h
  | .fn, _, _, h => h
  | .own _ _, _, _, h => h
  | .cel _, _, _, h => h
  | .ownc _ _, _, _, h => h
  | .list e, l, vs, h => by
    obtain ⟨a, cap, h1, h2, h3, h4⟩ := h
    refine ⟨a, cap, h1, h2, h3, fun a' ha => ?_⟩
    obtain ⟨h5, h6, h7, h8⟩ := h4 a' ha
    refine ⟨h5, by omega, fun hx => h7 (hX _ h6 hx), fun i x hi => ?_⟩
    obtain ⟨cs, hr, hc⟩ := h8 i x hi
    exact ⟨cs, Rep.keep hs hX hk hr, hc.keep (hk _ h6 h7)⟩
  | .ref e, x, vs, h => by
    obtain ⟨b, o, h1, h2, h3, cs, hr, hc⟩ := h
    exact ⟨b, o, h1, by omega, fun hx => h3 (hX _ h2 hx), cs, Rep.keep hs hX hk hr, hc.keep (hk _ h2 h3)⟩
  | .pair a b, x, vs, h => by
    obtain ⟨us, us', h1, h2, h3⟩ := h
    exact ⟨us, us', h1, Rep.keep hs hX hk h2, Rep.keep hs hX hk h3⟩

theorem Rep.length {w : World} {X : Nat → Prop} : ∀ {κ : Kind} {x : κ.T} {vs : List Value}, Rep w X κ x vs → vs.length = κ.size
  | .int _, _, _, h => by rw [show _ = _ from h]; rfl
  | .bool, _, _, h => by rw [show _ = _ from h]; rfl
  | .str, _, _, h => by rw [show _ = _ from h]; rfl
  | .unit, _, _, h => by rw [show _ = _ from h]; rfl
  | .fn, _, _, h => by rw [show _ = _ from h]; rfl
  | .own _ _, _, _, h => h.elim
  | .cel _, _, _, h => h.elim
  | .ownc _ _, _, _, h => h.elim
  | .list e, l, vs, h => by obtain ⟨a, cap, h1, _⟩ := h; rw [h1]; rfl
  | .ref e, x, vs, h => by obtain ⟨b, o, h1, _⟩ := h; rw [h1]; rfl
  | .pair a b, x, vs, h => by
    obtain ⟨us, us', h1, h2, h3⟩ := h
    rw [h1, List.length_append, Rep.length h2, Rep.length h3]; rfl

/-- runs that neither look at memory nor change it -/
def pureRun {α : Type} (P : Program) : Sem α → Option α
  | .pure a => some a
  | .program k => pureRun P (k P)
  | _ => none

theorem pureRun_run {α : Type} {P : Program} : ∀ {s : Sem α} {a : α}, pureRun P s = some a → ∀ w, s.run P w = .ok a w
  | .pure _, _, h, w => by simp only [pureRun, Option.some.injEq] at h; subst h; rfl
  | .program k, _, h, w => by simp only [pureRun] at h; simp only [Sem.run]; exact pureRun_run h w
  | .load .., _, h, _ | .store .., _, h, _ | .new .., _, h, _ | .shape .., _, h, _ | .freeze .., _, h, _ | .frozen .., _, h, _
  | .getObj .., _, h, _ | .setObj .., _, h, _ | .choose .., _, h, _ | .sys .., _, h, _ | .mark .., _, h, _ | .halt _, _, h, _ => by simp [pureRun] at h

end Go.AM

set_option linter.unusedVariables false
namespace Go.AM

/-- a leaf: what one cell may hold. Names stand for own objects. -/
inductive LV where
  | of (κ : Kind) (x : κ.T)
  | raw (v : Value)
  | ptr (n off : Nat)
  | view (n : Nat)
  | rptr (n i sz : Nat)
  | any

inductive CV where
  | one (l : LV)
  | agg (ls : List LV)
  | tup (cs : List CV)
  | undef

inductive AObj where
  | cell (ls : List LV)
  | row (e : TypeId) (κ : Kind) (l : List κ.T)
  | shr (κ : Kind) (l : List κ.T)         -- a row that nobody writes any more
  | iter (s : List UInt8) (pos : Nat)     -- a walk over a string

def AObj.owned : AObj → Bool
  | .shr .. => false
  | _ => true

def blk : Value → Option Nat
  | .pointer (some a) => some a.block
  | .slice (some a) _ _ => some a.block
  | _ => none

section
variable (ρ : Nat → Value) (U : Nat → Prop) (w : World) (Y : Nat → Prop)

def LRep : LV → Value → Prop
  | .of κ x, v => Rep w Y κ x [v]
  | .raw u, v => v = u
  | .ptr n off, v => U n ∧ ∃ b, ρ n = .pointer (some ⟨b, 0, none⟩) ∧ v = .pointer (some ⟨b, off, none⟩)
  | .view n, v => U n ∧ v = ρ n
  | .rptr n i sz, v => U n ∧ ∃ g len cap, ρ n = .slice (some ⟨g, 0, none⟩) len cap ∧ i < len ∧ v = .pointer (some ⟨g, i * sz, none⟩)
  | .any, _ => True

def LReps : List LV → List Value → Prop
  | [], vs => vs = []
  | l :: ls, vs => ∃ v vs', vs = v :: vs' ∧ LRep ρ U w Y l v ∧ LReps ls vs'

mutual
def CRep : CV → Value → Prop
  | .one l, v => LRep ρ U w Y l v
  | .agg ls, v => ∃ vs, v = .agg vs.toArray ∧ LReps ρ U w Y ls vs
  | .tup cs, v => ∃ vs, v = .tuple vs.toArray ∧ CReps cs vs
  | .undef, _ => True
def CReps : List CV → List Value → Prop
  | [], vs => vs = []
  | c :: cs, vs => ∃ v vs', vs = v :: vs' ∧ CRep c v ∧ CReps cs vs'
end

/-- the elements of a row, one behind the other -/
def Elems (κ : Kind) : List κ.T → List Value → Prop
  | [], vs => vs = []
  | x :: l, vs => ∃ us vs', vs = us ++ vs' ∧ Rep w Y κ x us ∧ Elems κ l vs'

def ORep : AObj → Value → Prop
  | .cell ls, v => ∃ b t vs, v = .pointer (some ⟨b, 0, none⟩) ∧ w.heap[b]? = some (.cells vs.toArray t (0, 0)) ∧ LReps ρ U w Y ls vs
  | .row e κ l, v => ∃ vs, w.ownsRow 0 e κ.size v l.length vs ∧ Elems w Y κ l vs
  | .shr κ l, v => Rep w Y (.list κ) l [v]
  | .iter s pos, v => ∃ b, v = .pointer (some ⟨b, 0, none⟩) ∧ w.heap[b]? = some (.stringIter (strOf s) pos)
end

/-- the blocks that this call writes -/
def Local (ρ : Nat → Value) (ob : Nat → Option AObj) (b : Nat) : Prop := ∃ n o, ob n = some o ∧ o.owned = true ∧ blk (ρ n) = some b

/-- the blocks that are ours or our callers' -/
def Own (ρ : Nat → Value) (ob : Nat → Option AObj) (X : Nat → Prop) (b : Nat) : Prop := X b ∨ Local ρ ob b

/-- the own objects' values are cells -/
def Plain (ρ : Nat → Value) (U : Nat → Prop) : Prop := ∀ n, U n → (ρ n).oneCell' = true

/-- the heap of the machine and the memory; Z: the blocks that may be ours; X: our callers' -/
structure Hp (Z : Nat → Prop) (ρ : Nat → Value) (U : Nat → Prop) (ob : Nat → Option AObj) (w : World) (X : Nat → Prop) : Prop where
  used : ∀ n o, ob n = some o → U n
  inj : ∀ n m o o' g, ob n = some o → ob m = some o' → o.owned = true → o'.owned = true → blk (ρ n) = some g → blk (ρ m) = some g → n = m
  objs : ∀ n o, ob n = some o → ORep ρ U w (Own ρ ob X) o (ρ n)
  xlt : ∀ b, X b → b < w.heap.size
  apart : ∀ b, Local ρ ob b → ¬ X b
  ours : ∀ b, Local ρ ob b → Z b
  znew : ∀ b, w.heap.size ≤ b → Z b
  plain : Plain ρ U

section
variable {ρ ρ' : Nat → Value} {U U' : Nat → Prop} {w w' : World} {Y Y' : Nat → Prop}

/-- what a step must keep for what is known to go on -/
structure Later (ρ ρ' : Nat → Value) (U U' : Nat → Prop) (w w' : World) (Y Y' : Nat → Prop) : Prop where
  size : w.heap.size ≤ w'.heap.size
  own : ∀ b, b < w.heap.size → Y' b → Y b
  keep : ∀ b, b < w.heap.size → ¬ Y b → w'.heap[b]? = w.heap[b]?
  used : ∀ n, U n → U' n
  same : ∀ n, U n → ρ' n = ρ n

theorem Later.refl : Later ρ ρ U U w w Y Y := ⟨Nat.le_refl _, fun _ _ h => h, fun _ _ _ => rfl, fun _ h => h, fun _ _ => rfl⟩

theorem Later.rep (h : Later ρ ρ' U U' w w' Y Y') {κ : Kind} {x : κ.T} {vs : List Value} (hr : Rep w Y κ x vs) : Rep w' Y' κ x vs :=
  Rep.keep h.size h.own h.keep hr

theorem LRep.later (h : Later ρ ρ' U U' w w' Y Y') : ∀ {l : LV} {v : Value}, LRep ρ U w Y l v → LRep ρ' U' w' Y' l v
  | .of κ x, v, hr => h.rep (show Rep w Y κ x [v] from hr)
  | .raw u, v, hr => hr
  | .ptr n off, v, hr => by
    obtain ⟨h1, b, h2, h3⟩ := hr
    exact ⟨h.used n h1, b, (h.same n h1).trans h2, h3⟩
  | .view n, v, hr => by
    obtain ⟨h1, h2⟩ := hr
    exact ⟨h.used n h1, h2.trans (h.same n h1).symm⟩
  | .any, _, _ => trivial
  | .rptr n i sz, v, hr => by
    obtain ⟨h1, g, len, cap, h2, h3⟩ := hr
    exact ⟨h.used n h1, g, len, cap, (h.same n h1).trans h2, h3⟩

theorem LReps.later (h : Later ρ ρ' U U' w w' Y Y') : ∀ {ls : List LV} {vs : List Value}, LReps ρ U w Y ls vs → LReps ρ' U' w' Y' ls vs
  | [], _, hr => hr
  | l :: ls, vs, hr => by
    obtain ⟨v, vs', h1, h2, h3⟩ := hr
    exact ⟨v, vs', h1, LRep.later h h2, LReps.later h h3⟩

mutual
theorem CRep.later (h : Later ρ ρ' U U' w w' Y Y') : ∀ {c : CV} {v : Value}, CRep ρ U w Y c v → CRep ρ' U' w' Y' c v
  | .one l, v, hr => LRep.later h (show LRep ρ U w Y l v from by simpa [CRep] using hr) |> fun x => by simpa [CRep] using x
  | .agg ls, v, hr => by
    simp only [CRep] at hr ⊢
    obtain ⟨vs, h1, h2⟩ := hr
    exact ⟨vs, h1, LReps.later h h2⟩
  | .tup cs, v, hr => by
    simp only [CRep] at hr ⊢
    obtain ⟨vs, h1, h2⟩ := hr
    exact ⟨vs, h1, CReps.later h h2⟩
  | .undef, _, _ => by simp [CRep]
theorem CReps.later (h : Later ρ ρ' U U' w w' Y Y') : ∀ {cs : List CV} {vs : List Value}, CReps ρ U w Y cs vs → CReps ρ' U' w' Y' cs vs
  | [], _, hr => by simpa [CReps] using hr
  | c :: cs, vs, hr => by
    simp only [CReps] at hr ⊢
    obtain ⟨v, vs', h1, h2, h3⟩ := hr
    exact ⟨v, vs', h1, CRep.later h h2, CReps.later h h3⟩
end

theorem Elems.later (h : Later ρ ρ' U U' w w' Y Y') {κ : Kind} : ∀ {l : List κ.T} {vs : List Value}, Elems w Y κ l vs → Elems w' Y' κ l vs
  | [], _, hr => hr
  | x :: l, vs, hr => by
    obtain ⟨us, vs', h1, h2, h3⟩ := hr
    exact ⟨us, vs', h1, h.rep h2, Elems.later h h3⟩

/-- an own object whose block stands as it was -/
theorem ORep.later (h : Later ρ ρ' U U' w w' Y Y') {v : Value} :
    ∀ {o : AObj}, (o.owned = true → ∀ b, blk v = some b → w'.heap[b]? = w.heap[b]?) → ORep ρ U w Y o v → ORep ρ' U' w' Y' o v
  | .shr κ l, _, hr => h.rep (show Rep w Y (.list κ) l [v] from hr)
  | .cell ls, hb, hr => by
    replace hb := hb rfl
    obtain ⟨b, t, vs, h1, h2, h3⟩ := hr
    exact ⟨b, t, vs, h1, (hb b (by rw [h1]; rfl)).trans h2, LReps.later h h3⟩
  | .iter s pos, hb, hr => by
    replace hb := hb rfl
    obtain ⟨b, h1, h2⟩ := hr
    exact ⟨b, h1, (hb b (by rw [h1]; rfl)).trans h2⟩
  | .row e κ l, hb, hr => by
    replace hb := hb rfl
    obtain ⟨vs, ⟨h1, h2⟩, h3⟩ := hr
    refine ⟨vs, ⟨h1, ?_⟩, Elems.later h h3⟩
    rcases h2 with h2 | ⟨g, cap, cur, h4, h5, h6, h7⟩
    · exact .inl h2
    · exact .inr ⟨g, cap, cur, h4, h5, (hb g (by rw [h4]; rfl)).trans h6, h7⟩

theorem Elems.at {κ : Kind} : ∀ {l : List κ.T} {vs : List Value}, Elems w Y κ l vs → ∀ (i : Nat) (x : κ.T), l[i]? = some x →
    ∃ us, Rep w Y κ x us ∧ ∀ (j : Nat) (c : Value), us[j]? = some c → vs[i * κ.size + j]? = some c
  | [], _, _, i, x, hi => by simp at hi
  | y :: l, vs, hr, 0, x, hi => by
    obtain ⟨us, vs', h1, h2, h3⟩ := hr
    simp only [List.getElem?_cons_zero, Option.some.injEq] at hi
    subst hi
    refine ⟨us, h2, fun j c hj => ?_⟩
    have hlt : j < us.length := (List.getElem?_eq_some_iff.1 hj).1
    rw [h1, Nat.zero_mul, Nat.zero_add, List.getElem?_append_left hlt]; exact hj
  | y :: l, vs, hr, i + 1, x, hi => by
    obtain ⟨us, vs', h1, h2, h3⟩ := hr
    simp only [List.getElem?_cons_succ] at hi
    obtain ⟨us', h4, h5⟩ := Elems.at h3 i x hi
    refine ⟨us', h4, fun j c hj => ?_⟩
    have hl := Rep.length h2
    rw [h1, List.getElem?_append_right (by rw [hl, Nat.add_mul]; omega), hl, show (i + 1) * κ.size + j - κ.size = i * κ.size + j by rw [Nat.add_mul]; omega]
    exact h5 j c hj

theorem Elems.append {κ : Kind} : ∀ {l l' : List κ.T} {vs vs' : List Value}, Elems w Y κ l vs → Elems w Y κ l' vs' → Elems w Y κ (l ++ l') (vs ++ vs')
  | [], _, _, _, h, h' => by rw [show _ = _ from h]; exact h'
  | x :: l, l', vs, vs', h, h' => by
    obtain ⟨us, vs1, h1, h2, h3⟩ := h
    exact ⟨us, vs1 ++ vs', by rw [h1, List.append_assoc], h2, Elems.append h3 h'⟩

/-- an own row that is given up is a shared list -/
theorem ORep.share {e : TypeId} {κ : Kind} {l : List κ.T} {v : Value} (h : ORep ρ U w Y (.row e κ l) v)
    (hY : ∀ b, Y' b → Y b) (hn : ∀ b, blk v = some b → ¬ Y' b) : Rep w Y' (.list κ) l [v] := by
  obtain ⟨vs, ⟨h1, h2⟩, h3⟩ := h
  have h3' : Elems w Y' κ l vs := Elems.later (ρ := ρ) (ρ' := ρ) (U := U) (U' := U) ⟨Nat.le_refl _, fun b _ hb => hY b hb, fun _ _ _ => rfl, fun _ h => h, fun _ _ => rfl⟩ h3
  rcases h2 with ⟨rfl, h0⟩ | ⟨g, cap, cur, rfl, _, hg, hn', _, hsz, htake⟩
  · exact ⟨none, 0, by rw [h0], by omega, fun _ => List.eq_nil_of_length_eq_zero h0, fun a' ha => by cases ha⟩
  · refine ⟨some ⟨g, 0, none⟩, cap, rfl, hn', fun ha => (by cases ha), fun a' ha => ?_⟩
    simp only [Option.some.injEq] at ha
    subst ha
    refine ⟨rfl, (Array.getElem?_eq_some_iff.1 hg).1, hn g rfl, fun i x hi => ?_⟩
    obtain ⟨us, h4, h5⟩ := h3'.at i x hi
    refine ⟨us, h4, fun j c hj => ?_⟩
    have := h5 j c hj
    rw [← htake, List.getElem?_take] at this
    split at this
    · simpa [World.cell?, hg] using this
    · cases this

/-- a single cell's value of a shared list -/
theorem Rep.list_at {e : Kind} {l : List e.T} {v : Value} (h : Rep w Y (.list e) l [v]) :
    ∃ a cap, v = .slice a l.length cap ∧ l.length ≤ cap ∧ ∀ i x, l[i]? = some x → ∃ g o, a = some ⟨g, o, none⟩ ∧ g < w.heap.size ∧ ¬ Y g ∧
      ∃ cs, Rep w Y e x cs ∧ CellsAt w g (o + i * e.size) cs := by
  obtain ⟨a, cap, h1, h2, h3, h4⟩ := h
  simp only [List.cons.injEq, and_true] at h1
  refine ⟨a, cap, h1, h2, fun i x hi => ?_⟩
  cases a with
  | none => rw [h3 rfl] at hi; simp at hi
  | some a =>
    obtain ⟨h5, h6, h7, h8⟩ := h4 a rfl
    obtain ⟨b, o, sp⟩ := a
    simp only at h5
    subst h5
    exact ⟨b, o, rfl, h6, h7, h8 i x hi⟩
end

/-- the heap has grown; nothing has been written out -/
def Gr (w w' : World) : Prop := w.heap.size ≤ w'.heap.size ∧ w'.os = w.os ∧ w'.output = w.output ∧ w'.tape = w.tape

theorem Gr.refl {w : World} : Gr w w := ⟨Nat.le_refl _, rfl, rfl, rfl⟩

theorem Gr.trans {w w' w'' : World} (h : Gr w w') (h' : Gr w' w'') : Gr w w'' := ⟨Nat.le_trans h.1 h'.1, h'.2.1.trans h.2.1, h'.2.2.1.trans h.2.2.1, h'.2.2.2.trans h.2.2.2⟩

theorem Gr.eq {w w' : World} (h : w'.heap.size = w.heap.size) (h1 : w'.os = w.os) (h2 : w'.output = w.output) (h3 : w'.tape = w.tape) : Gr w w' := ⟨Nat.le_of_eq h.symm, h1, h2, h3⟩

theorem Gr.alloc {w : World} {o : Obj} : Gr w (w.alloc o) := ⟨by
  show w.heap.size ≤ (w.heap.push o).size
  rw [Array.size_push]; exact Nat.le_succ _, rfl, rfl, rfl⟩

theorem Gr.grown {w w' : World} {r : Option Nat} (h : w.grownBy w' r) : Gr w w' := ⟨h.size, h.os, h.output, h.tape⟩

/-- a step of the machine -/
structure Nx (ρ ρ' : Nat → Value) (U U' : Nat → Prop) (ob ob' : Nat → Option AObj) (w w' : World) : Prop where
  size : Gr w w'
  keep : ∀ b, b < w.heap.size → ¬ Local ρ ob b → w'.heap[b]? = w.heap[b]?
  own : ∀ b, b < w.heap.size → Local ρ' ob' b → Local ρ ob b
  used : ∀ n, U n → U' n
  same : ∀ n, U n → ρ' n = ρ n

section
variable {ρ ρ' ρ'' : Nat → Value} {U U' U'' : Nat → Prop} {ob ob' ob'' : Nat → Option AObj} {w w' w'' : World} {X Z : Nat → Prop}

theorem Nx.refl : Nx ρ ρ U U ob ob w w := ⟨Gr.refl, fun _ _ _ => rfl, fun _ _ h => h, fun _ h => h, fun _ _ => rfl⟩

theorem Nx.trans (h : Nx ρ ρ' U U' ob ob' w w') (h' : Nx ρ' ρ'' U' U'' ob' ob'' w' w'') : Nx ρ ρ'' U U'' ob ob'' w w'' :=
  ⟨h.size.trans h'.size, fun b hb hl => (h'.keep b (Nat.lt_of_lt_of_le hb h.size.1) fun hl' => hl (h.own b hb hl')).trans (h.keep b hb hl),
    fun b hb hl => h.own b hb (h'.own b (Nat.lt_of_lt_of_le hb h.size.1) hl), fun n hn => h'.used n (h.used n hn), fun n hn => (h'.same n (h.used n hn)).trans (h.same n hn)⟩

theorem Nx.later (h : Nx ρ ρ' U U' ob ob' w w') : Later ρ ρ' U U' w w' (Own ρ ob X) (Own ρ' ob' X) :=
  ⟨h.size.1, fun b hb hY => hY.imp id (h.own b hb), fun b hb hY => h.keep b hb fun hl => hY (.inr hl), h.used, h.same⟩

/-- THE STEP: who owns an old block behind it is told by 'src' -/
theorem Hp.step (h : Hp Z ρ U ob w X) (hx : Nx ρ ρ' U U' ob ob' w w') (src : Nat → Nat)
    (hused : ∀ n o, ob' n = some o → U' n)
    (hsrc : ∀ n o g, ob' n = some o → o.owned = true → blk (ρ' n) = some g → g < w.heap.size → ∃ o0, ob (src n) = some o0 ∧ o0.owned = true ∧ blk (ρ (src n)) = some g)
    (hinj : ∀ n n' o o', ob' n = some o → ob' n' = some o' → o.owned = true → o'.owned = true → src n = src n' → n = n')
    (hnew : ∀ n n' o o' g, ob' n = some o → ob' n' = some o' → o.owned = true → o'.owned = true → blk (ρ' n) = some g → blk (ρ' n') = some g → w.heap.size ≤ g → n = n')
    (hobj : ∀ n o, ob' n = some o → ORep ρ' U' w' (Own ρ' ob' X) o (ρ' n)) (hplain : Plain ρ' U') : Hp Z ρ' U' ob' w' X := by
  refine ⟨hused, fun n m o o' g hn hm ho ho' hb hb' => ?_, hobj, fun b hb => Nat.lt_of_lt_of_le (h.xlt b hb) hx.size.1, fun b hl hX => ?_, fun b hl => ?_, fun b hb => h.znew b (Nat.le_trans hx.size.1 hb), hplain⟩
  · rcases Nat.lt_or_ge g w.heap.size with hg | hg
    · obtain ⟨p, hp1, hp2, hp3⟩ := hsrc n o g hn ho hb hg
      obtain ⟨q, hq1, hq2, hq3⟩ := hsrc m o' g hm ho' hb' hg
      exact hinj n m o o' hn hm ho ho' (h.inj _ _ p q g hp1 hq1 hp2 hq2 hp3 hq3)
    · exact hnew n m o o' g hn hm ho ho' hb hb' hg
  · exact h.apart b (hx.own b (h.xlt b hX) hl) hX
  · rcases Nat.lt_or_ge b w.heap.size with hb | hb
    · exact h.ours b (hx.own b hb hl)
    · exact h.znew b hb

def upd {α : Type} (f : Nat → α) (m : Nat) (x : α) : Nat → α := fun n => if n = m then x else f n

/-- A NEW OBJECT in a new block (or none: a nil slice) -/
theorem Hp.new (h : Hp Z ρ U ob w X) {m : Nat} (hm : ¬ U m) {o : AObj} {v : Value} (hsz : Gr w w')
    (hk : ∀ b, b < w.heap.size → w'.heap[b]? = w.heap[b]?) (hv : ∀ g, blk v = some g → w.heap.size ≤ g) (hv1 : v.oneCell' = true)
    (ho : ORep (upd ρ m v) (fun n => U n ∨ n = m) w' (Own (upd ρ m v) (upd ob m (some o)) X) o v) :
    Nx ρ (upd ρ m v) U (fun n => U n ∨ n = m) ob (upd ob m (some o)) w w' ∧ Hp Z (upd ρ m v) (fun n => U n ∨ n = m) (upd ob m (some o)) w' X := by
  have hne : ∀ n o', ob n = some o' → n ≠ m := fun n o' hn e => hm (e ▸ h.used n o' hn)
  have hx : Nx ρ (upd ρ m v) U (fun n => U n ∨ n = m) ob (upd ob m (some o)) w w' := by
    refine ⟨hsz, fun b hb _ => hk b hb, fun b hb hl => ?_, fun n hn => .inl hn, fun n hn => ?_⟩
    · obtain ⟨n, o', h1, h2, h3⟩ := hl
      by_cases e : n = m
      · subst e
        simp only [upd, if_true] at h3
        exact absurd hb (Nat.not_lt.2 (hv b h3))
      · simp only [upd, e, if_false] at h1 h3
        exact ⟨n, o', h1, h2, h3⟩
    · have : n ≠ m := fun e => hm (e ▸ hn)
      simp [upd, this]
  refine ⟨hx, h.step hx id (fun n o' hn => ?_) (fun n o' g hn ho' hb hg => ?_) (fun n n' _ _ _ _ _ _ e => e) (fun n n' o1 o2 g hn hn' ho1 ho2 hb hb' hg => ?_) (fun n o' hn => ?_) (fun n hn => ?_)⟩
  · by_cases e : n = m
    · exact .inr e
    · simp only [upd, e, if_false] at hn
      exact .inl (h.used n o' hn)
  · by_cases e : n = m
    · subst e
      simp only [upd, if_true] at hb
      exact absurd hg (Nat.not_lt.2 (hv g hb))
    · simp only [upd, e, if_false] at hn hb
      exact ⟨o', hn, ho', hb⟩
  · have old : ∀ k o', upd ob m (some o) k = some o' → o'.owned = true → blk (upd ρ m v k) = some g → k = m := fun k o' hk' hown hblk => by
      apply Classical.byContradiction
      intro e
      simp only [upd, e, if_false] at hk' hblk
      have := (h.objs k o' hk')
      have hlt : g < w.heap.size := by
        cases o' with
        | cell ls =>
          obtain ⟨b, t, vs, h1, h2, _⟩ := this
          rw [h1] at hblk
          simp only [blk, Option.some.injEq] at hblk
          subst hblk
          exact (Array.getElem?_eq_some_iff.1 h2).1
        | row e' κ l =>
          obtain ⟨vs, ⟨_, h2⟩, _⟩ := this
          rcases h2 with ⟨h3, _⟩ | ⟨g', cap, cur, h3, _, h4, _⟩
          · rw [h3] at hblk; cases hblk
          · rw [h3] at hblk
            simp only [blk, Option.some.injEq] at hblk
            subst hblk
            exact (Array.getElem?_eq_some_iff.1 h4).1
        | shr κ l => cases hown
        | iter s' pos =>
          obtain ⟨b, h1, h2⟩ := this
          rw [h1] at hblk
          simp only [blk, Option.some.injEq] at hblk
          subst hblk
          exact (Array.getElem?_eq_some_iff.1 h2).1
      exact absurd hlt (Nat.not_lt.2 hg)
    rw [old n o1 hn ho1 hb, old n' o2 hn' ho2 hb']
  · by_cases e : n = m
    · subst e
      simp only [upd, if_true, Option.some.injEq] at hn
      subst hn
      simpa [upd] using ho
    · simp only [upd, e, if_false] at hn
      have hρ : upd ρ m v n = ρ n := by simp [upd, e]
      rw [hρ]
      refine ORep.later hx.later (fun hown b hb => hk b ?_) (h.objs n o' hn)
      have := h.objs n o' hn
      cases o' with
      | cell ls =>
        obtain ⟨b', t, vs, h1, h2, _⟩ := this
        rw [h1] at hb
        simp only [blk, Option.some.injEq] at hb
        subst hb
        exact (Array.getElem?_eq_some_iff.1 h2).1
      | row e' κ l =>
        obtain ⟨vs, ⟨_, h2⟩, _⟩ := this
        rcases h2 with ⟨h3, _⟩ | ⟨g', cap, cur, h3, _, h4, _⟩
        · rw [h3] at hb; cases hb
        · rw [h3] at hb
          simp only [blk, Option.some.injEq] at hb
          subst hb
          exact (Array.getElem?_eq_some_iff.1 h4).1
      | shr κ l => cases hown
      | iter s' pos =>
        obtain ⟨b', h1, h2⟩ := this
        rw [h1] at hb
        simp only [blk, Option.some.injEq] at hb
        subst hb
        exact (Array.getElem?_eq_some_iff.1 h2).1
  · by_cases e : n = m
    · subst e; simpa [upd] using hv1
    · simp only [upd, e, if_false]; exact h.plain n (hn.resolve_right e)
end
end Go.AM

set_option linter.unusedVariables false
set_option linter.unusedSimpArgs false
namespace Go.AM
section
variable {ρ ρ' : Nat → Value} {U U' : Nat → Prop} {ob ob' : Nat → Option AObj} {w w' : World} {X Z : Nat → Prop}

theorem upd_same {α : Type} (f : Nat → α) (m : Nat) (x : α) : upd f m x m = x := by simp [upd]
theorem upd_other {α : Type} (f : Nat → α) {m n : Nat} (x : α) (h : n ≠ m) : upd f m x n = f n := by simp [upd, h]

theorem ORep.lt {Y : Nat → Prop} {o : AObj} {v : Value} (h : ORep ρ U w Y o v) (ho : o.owned = true) {g : Nat} (hb : blk v = some g) : g < w.heap.size := by
  cases o with
  | cell ls =>
    obtain ⟨b, t, vs, h1, h2, _⟩ := h
    rw [h1] at hb
    simp only [blk, Option.some.injEq] at hb
    subst hb
    exact (Array.getElem?_eq_some_iff.1 h2).1
  | row e' κ l =>
    obtain ⟨vs, ⟨_, h2⟩, _⟩ := h
    rcases h2 with ⟨h3, _⟩ | ⟨g', cap, cur, h3, _, h4, _⟩
    · rw [h3] at hb; cases hb
    · rw [h3] at hb
      simp only [blk, Option.some.injEq] at hb
      subst hb
      exact (Array.getElem?_eq_some_iff.1 h4).1
  | shr κ l => cases ho
  | iter s pos =>
    obtain ⟨b, h1, h2⟩ := h
    rw [h1] at hb
    simp only [blk, Option.some.injEq] at hb
    subst hb
    exact (Array.getElem?_eq_some_iff.1 h2).1

/-- AN OWN OBJECT IS CHANGED: only its block. -/
theorem Hp.set (h : Hp Z ρ U ob w X) {n : Nat} {o o1 : AObj} (hn : ob n = some o) (ho : o.owned = true)
    (hsz : Gr w w') (hk : ∀ b, b < w.heap.size → blk (ρ n) ≠ some b → w'.heap[b]? = w.heap[b]?)
    (hr : ORep ρ U w' (Own ρ (upd ob n (some o1)) X) o1 (ρ n)) :
    Nx ρ ρ U U ob (upd ob n (some o1)) w w' ∧ Hp Z ρ U (upd ob n (some o1)) w' X := by
  have hx : Nx ρ ρ U U ob (upd ob n (some o1)) w w' := by
    refine ⟨hsz, fun b hb hl => hk b hb fun e => hl ⟨n, o, hn, ho, e⟩, fun b hb hl => ?_, fun _ h => h, fun _ _ => rfl⟩
    obtain ⟨k, o', h1, h2, h3⟩ := hl
    by_cases e : k = n
    · subst e; exact ⟨k, o, hn, ho, h3⟩
    · rw [upd_other _ _ e] at h1; exact ⟨k, o', h1, h2, h3⟩
  refine ⟨hx, h.step hx id (fun k o' hk' => ?_) (fun k o' g hk' ho' hb hg => ?_) (fun _ _ _ _ _ _ _ _ e => e) (fun k k' p p' g hp hp' hop hop' hb hb' hg => ?_) (fun k o' hk' => ?_) h.plain⟩
  · by_cases e : k = n
    · subst e; exact h.used _ _ hn
    · rw [upd_other _ _ e] at hk'; exact h.used _ _ hk'
  · by_cases e : k = n
    · subst e; exact ⟨o, hn, ho, hb⟩
    · rw [upd_other _ _ e] at hk'; exact ⟨o', hk', ho', hb⟩
  · have : ∀ q q', upd ob n (some o1) q = some q' → q'.owned = true → blk (ρ q) = some g → False := fun q q' hq hown hblk => by
      by_cases e : q = n
      · subst e; exact absurd ((h.objs _ _ hn).lt ho hblk) (Nat.not_lt.2 hg)
      · rw [upd_other _ _ e] at hq; exact absurd ((h.objs _ _ hq).lt hown hblk) (Nat.not_lt.2 hg)
    exact (this k p hp hop hb).elim
  · by_cases e : k = n
    · subst e
      rw [upd_same] at hk'
      simp only [Option.some.injEq] at hk'
      subst hk'
      exact hr
    · rw [upd_other _ _ e] at hk'
      refine ORep.later hx.later (fun hown b hb => hk b ((h.objs _ _ hk').lt hown hb) fun e' => e (h.inj _ _ _ _ b hk' hn hown ho hb e')) (h.objs _ _ hk')

/-- AN OWN ROW IS GIVEN UP. -/
theorem Hp.share (h : Hp Z ρ U ob w X) {n : Nat} {e : TypeId} {κ : Kind} {l : List κ.T} (hn : ob n = some (.row e κ l)) :
    Nx ρ ρ U U ob (upd ob n (some (.shr κ l))) w w ∧ Hp Z ρ U (upd ob n (some (.shr κ l))) w X := by
  have hx : Nx ρ ρ U U ob (upd ob n (some (.shr κ l))) w w := by
    refine ⟨Gr.refl, fun _ _ _ => rfl, fun b hb hl => ?_, fun _ h => h, fun _ _ => rfl⟩
    obtain ⟨k, o', h1, h2, h3⟩ := hl
    by_cases e : k = n
    · subst e
      rw [upd_same] at h1
      simp only [Option.some.injEq] at h1
      subst h1
      cases h2
    · rw [upd_other _ _ e] at h1; exact ⟨k, o', h1, h2, h3⟩
  have notn : ∀ k o', upd ob n (some (.shr κ l)) k = some o' → o'.owned = true → k ≠ n ∧ ob k = some o' := fun k o' hk hown => by
    by_cases e : k = n
    · subst e
      rw [upd_same] at hk
      simp only [Option.some.injEq] at hk
      subst hk
      cases hown
    · rw [upd_other _ _ e] at hk; exact ⟨e, hk⟩
  refine ⟨hx, h.step hx id (fun k o' hk' => ?_) (fun k o' g hk' ho' hb hg => ⟨o', (notn k o' hk' ho').2, ho', hb⟩) (fun _ _ _ _ _ _ _ _ e => e)
    (fun k k' p p' g hp hp' hop hop' hb hb' hg => h.inj _ _ _ _ g (notn k p hp hop).2 (notn k' p' hp' hop').2 hop hop' hb hb') (fun k o' hk' => ?_) h.plain⟩
  · by_cases e : k = n
    · subst e; exact h.used _ _ hn
    · rw [upd_other _ _ e] at hk'; exact h.used _ _ hk'
  · by_cases e : k = n
    · subst e
      rw [upd_same] at hk'
      simp only [Option.some.injEq] at hk'
      subst hk'
      refine ORep.share (h.objs _ _ hn) (fun b hb => hb.imp id fun hl => ?_) (fun b hb hY => ?_)
      · obtain ⟨q, q', h1, h2, h3⟩ := hl
        exact ⟨q, q', (notn q q' h1 h2).2, h2, h3⟩
      · rcases hY with hX | ⟨q, q', h1, h2, h3⟩
        · exact h.apart b ⟨_, _, hn, rfl, hb⟩ hX
        · exact (notn q q' h1 h2).1 (h.inj _ _ _ _ b (notn q q' h1 h2).2 hn h2 rfl h3 hb)
    · rw [upd_other _ _ e] at hk'
      exact ORep.later hx.later (fun _ _ _ => rfl) (h.objs _ _ hk')

/-- append: the old row's name dies, the new one may have its block -/
theorem Hp.app (h : Hp Z ρ U ob w X) {n m : Nat} {o o1 : AObj} {v : Value} (hn : ob n = some o) (ho : o.owned = true) (ho1 : o1.owned = true) (hm : ¬ U m)
    (hsz : Gr w w') (hk : ∀ b, b < w.heap.size → blk (ρ n) ≠ some b → w'.heap[b]? = w.heap[b]?)
    (hv : ∀ g, blk v = some g → blk (ρ n) = some g ∨ w.heap.size ≤ g) (hv1 : v.oneCell' = true)
    (hr : ORep (upd ρ m v) (fun k => U k ∨ k = m) w' (Own (upd ρ m v) (upd (upd ob n none) m (some o1)) X) o1 v) :
    Nx ρ (upd ρ m v) U (fun k => U k ∨ k = m) ob (upd (upd ob n none) m (some o1)) w w' ∧
      Hp Z (upd ρ m v) (fun k => U k ∨ k = m) (upd (upd ob n none) m (some o1)) w' X := by
  have hnm : n ≠ m := fun e => hm (e ▸ h.used _ _ hn)
  have at' : ∀ k o', upd (upd ob n none) m (some o1) k = some o' → (k = m ∧ o' = o1) ∨ (k ≠ m ∧ k ≠ n ∧ ob k = some o' ∧ upd ρ m v k = ρ k) := fun k o' hk' => by
    by_cases e : k = m
    · subst e; rw [upd_same] at hk'; simp only [Option.some.injEq] at hk'; exact .inl ⟨rfl, hk'.symm⟩
    · rw [upd_other _ _ e] at hk'
      by_cases e' : k = n
      · subst e'; rw [upd_same] at hk'; cases hk'
      · rw [upd_other _ _ e'] at hk'; exact .inr ⟨e, e', hk', upd_other _ _ e⟩
  have hx : Nx ρ (upd ρ m v) U (fun k => U k ∨ k = m) ob (upd (upd ob n none) m (some o1)) w w' := by
    refine ⟨hsz, fun b hb hl => hk b hb fun e => hl ⟨n, o, hn, ho, e⟩, fun b hb hl => ?_, fun _ h => .inl h, fun k hk' => upd_other _ _ (fun e => hm (e ▸ hk'))⟩
    obtain ⟨k, o', h1, h2, h3⟩ := hl
    rcases at' k o' h1 with ⟨rfl, rfl⟩ | ⟨h4, h5, h6, h7⟩
    · rw [upd_same] at h3
      rcases hv b h3 with h8 | h8
      · exact ⟨n, o, hn, ho, h8⟩
      · exact absurd hb (Nat.not_lt.2 h8)
    · exact ⟨k, o', h6, h2, h7 ▸ h3⟩
  refine ⟨hx, h.step hx (fun k => if k = m then n else k) (fun k o' hk' => ?_) (fun k o' g hk' ho' hb hg => ?_) (fun k k' p p' hp hp' hop hop' e => ?_) (fun k k' p p' g hp hp' hop hop' hb hb' hg => ?_) (fun k o' hk' => ?_) (fun k hk' => ?_)⟩
  · rcases at' k o' hk' with ⟨rfl, rfl⟩ | ⟨h4, h5, h6, h7⟩
    · exact .inr rfl
    · exact .inl (h.used _ _ h6)
  · rcases at' k o' hk' with ⟨rfl, rfl⟩ | ⟨h4, h5, h6, h7⟩
    · rw [upd_same] at hb
      simp only [if_true]
      rcases hv g hb with h8 | h8
      · exact ⟨o, hn, ho, h8⟩
      · exact absurd hg (Nat.not_lt.2 h8)
    · simp only [h4, if_false]
      exact ⟨o', h6, ho', h7 ▸ hb⟩
  · rcases at' k p hp with ⟨rfl, rfl⟩ | ⟨h4, h5, h6, h7⟩ <;> rcases at' k' p' hp' with ⟨rfl, h9⟩ | ⟨h4', h5', h6', h7'⟩
    · rfl
    · simp only [if_true, h4', if_false] at e; exact absurd e.symm h5'
    · simp only [if_true, h4, if_false] at e; exact absurd e h5
    · simpa only [h4, h4', if_false] using e
  · have new : ∀ q q', upd (upd ob n none) m (some o1) q = some q' → q'.owned = true → blk (upd ρ m v q) = some g → q = m := fun q q' hq hown hblk => by
      rcases at' q q' hq with ⟨rfl, rfl⟩ | ⟨h4, h5, h6, h7⟩
      · rfl
      · rw [h7] at hblk
        exact absurd ((h.objs _ _ h6).lt hown hblk) (Nat.not_lt.2 hg)
    rw [new k p hp hop hb, new k' p' hp' hop' hb']
  · rcases at' k o' hk' with ⟨rfl, rfl⟩ | ⟨h4, h5, h6, h7⟩
    · rw [upd_same]; exact hr
    · rw [h7]
      refine ORep.later hx.later (fun hown b hb => hk b ((h.objs _ _ h6).lt hown hb) fun e' => h5 (h.inj _ _ _ _ b h6 hn hown ho hb e')) (h.objs _ _ h6)
  · by_cases e : k = m
    · subst e; rw [upd_same]; exact hv1
    · rw [upd_other _ _ e]; exact h.plain k (hk'.resolve_right e)
end
end Go.AM

set_option linter.unusedVariables false
namespace Go.AM
noncomputable section

deriving instance DecidableEq for Kind

/-- what is known of a type -/
structure TR where
  d : TypeDesc
  size : Nat
  bytes : Nat
  zero : List LV
  agg : Bool

/-- how a function is called: kinds of the arguments (and whether they are structs), cells that are handed in and out -/
inductive PM where
  | val (κ : Kind) (agg : Bool)
  | io (κ : Kind)

structure Sig where
  ps : List PM
  rs : List (Kind × Bool)

@[reducible] def argK : List PM → Kind
  | [] => .unit
  | .val κ _ :: ps => .pair κ (argK ps)
  | .io κ :: ps => .pair κ (argK ps)

@[reducible] def outK : List PM → Kind
  | [] => .unit
  | .val _ _ :: ps => outK ps
  | .io κ :: ps => .pair κ (outK ps)

@[reducible] def resK : List (Kind × Bool) → Kind
  | [] => .unit
  | p :: rs => .pair p.1 (resK rs)

@[reducible] def Sig.inK (s : Sig) : Kind := argK s.ps
@[reducible] def Sig.exK (s : Sig) : Kind := .pair (resK s.rs) (outK s.ps)

def look {α : Type} (d : α) (l : List (Nat × α)) (t : Nat) : α :=
  List.rec (motive := fun _ => α) d (fun p _ ih => match Nat.beq p.1 t with
    | true => p.2
    | false => ih) l

structure Env where
  ty : List (TypeId × Option TR)
  kd : List (TypeId × Option Kind)
  sg : List (FuncId × Sig)
  known : List (FuncId × Bool)         -- functions with a body, called by their names
  eqs : List (TypeId × Bool)           -- structs that may be compared
  hint : List (Nat × Option (List Tmp))
  keep : List (Tmp × Bool)             -- slices of own rows that stay own

def Env.tr (E : Env) (t : TypeId) : Option TR := look none E.ty t
def Env.kind (E : Env) (t : TypeId) : Option Kind := look none E.kd t
def Env.sig (E : Env) (f : FuncId) : Sig := look ⟨[], []⟩ E.sg f

@[reducible] def CallT (E : Env) : Type := (f : FuncId) → (E.sig f).inK.T → Option (E.sig f).exK.T

def rdK {κ : Kind} (l : List κ.T) (i : Int) : κ.T := l.getD i.toNat κ.dflt

def explode : (κ : Kind) → κ.T → List LV
  | .pair a b, x => explode a x.1 ++ explode b x.2
  | .unit, _ => []
  | .int k, x => [.of (.int k) x]
  | .bool, x => [.of .bool x]
  | .str, x => [.of .str x]
  | .own _ _, _ => [.any]
  | .cel _, _ => [.any]
  | .ownc _ _, _ => [.any]
  | .fn, x => [.of .fn x]
  | .list e, x => [.of (.list e) x]
  | .ref e, x => [.of (.ref e) x]

def cvOf (κ : Kind) (agg : Bool) (x : κ.T) : CV :=
  match agg with
  | true => .agg (explode κ x)
  | false => match explode κ x with
    | [l] => .one l
    | _ => .undef

section
variable {R : Type}

/-- one leaf as a value of a kind; own rows on the way are given up -/
def shareLeaf (ob : Nat → Option AObj) (κ : Kind) (l : LV) (K : κ.T → List (Nat × Option AObj) → Option R) : Option R :=
  match l with
  | .of κ' x => match decEq κ' κ with
    | .isTrue h => K (h ▸ x) []
    | .isFalse _ => none
  | .raw (.slice none 0 0) => match κ, K with
    | .list _, K => K [] []
    | _, _ => none
  | .view n => match ob n with
    | some (.row _ e l) => match decEq (.list e) κ with
      | .isTrue h => K (h ▸ l) [(n, some (.shr e l))]
      | .isFalse _ => none
    | some (.shr e l) => match decEq (.list e) κ with
      | .isTrue h => K (h ▸ l) []
      | .isFalse _ => none
    | _ => none
  | _ => none

/-- leaves as a value of a kind; what is left over goes on -/
def share (ob : Nat → Option AObj) : (κ : Kind) → List LV → (κ.T → List LV → List (Nat × Option AObj) → Option R) → Option R
  | .pair a b, ls, K => share ob a ls fun x ls u => share ob b ls fun y ls u' => K (x, y) ls (u' ++ u)
  | .unit, ls, K => K () ls []
  | .int k, l :: ls, K => shareLeaf ob (.int k) l fun x u => K x ls u
  | .bool, l :: ls, K => shareLeaf ob .bool l fun x u => K x ls u
  | .str, l :: ls, K => shareLeaf ob .str l fun x u => K x ls u
  | .fn, l :: ls, K => shareLeaf ob .fn l fun x u => K x ls u
  | .list e, l :: ls, K => shareLeaf ob (.list e) l fun x u => K x ls u
  | .ref e, l :: ls, K => shareLeaf ob (.ref e) l fun x u => K x ls u
  | .own _ _, _ :: _, _ => none
  | .cel _, _ :: _, _ => none
  | .ownc _ _, _ :: _, _ => none
  | _, [], _ => none

def shareCV (ob : Nat → Option AObj) (κ : Kind) (agg : Bool) (c : CV) (K : κ.T → List (Nat × Option AObj) → Option R) : Option R :=
  match agg, c with
  | false, .one l => share ob κ [l] fun x ls u => match ls with | [] => K x u | _ => none
  | true, .agg ls => share ob κ ls fun x ls u => match ls with | [] => K x u | _ => none
  | _, _ => none

def litLeaf (κ : Kind) (l : LV) (K : κ.T → Option R) : Option R :=
  match l with
  | .of κ' x => match decEq κ' κ with
    | .isTrue h => K (h ▸ x)
    | .isFalse _ => none
  | _ => none

/-- leaves that are values themselves -/
def litK : (κ : Kind) → List LV → (κ.T → List LV → Option R) → Option R
  | .pair a b, ls, K => litK a ls fun x ls => litK b ls fun y ls => K (x, y) ls
  | .int k, l :: ls, K => litLeaf (.int k) l fun x => K x ls
  | .bool, l :: ls, K => litLeaf .bool l fun x => K x ls
  | .str, l :: ls, K => litLeaf .str l fun x => K x ls
  | .fn, l :: ls, K => litLeaf .fn l fun x => K x ls
  | .list e, l :: ls, K => litLeaf (.list e) l fun x => K x ls
  | .ref e, l :: ls, K => litLeaf (.ref e) l fun x => K x ls
  | _, _, _ => none

/-- a cell or none -/
def optK {α β : Type} (x : Option α) (a : β) (f : α → β) : β :=
  match x with
  | none => a
  | some y => f y

/-- an empty list or another one -/
def emptyK {α β : Type} (x : List α) (a b : β) : β :=
  match x with
  | [] => a
  | _ :: _ => b

/-- leaves as a value of a kind; own rows may be handed over: their names -/
def shareO (ob : Nat → Option AObj) : (κ : Kind) → List LV → (κ.T → List LV → List (Nat × Option AObj) → List Nat → Option R) → Option R
  | .pair a b, ls, K => shareO ob a ls fun x ls u ns => shareO ob b ls fun y ls u' ns' => K (x, y) ls (u' ++ u) (ns ++ ns')
  | .cel _, [], _ => none
  | .ownc _ _, _, _ => none
  | .cel e, l :: ls, K => match l with
    | .ptr n 0 => match ob n with
      | some (.cell ls') => litK e ls' fun y rest => match rest with
        | [] => K (some y) ls [] [n]
        | _ => none
      | _ => none
    | .raw (.pointer none) => K none ls [] []
    | _ => none
  | .own te e, [], _ => none
  | .own te e, l :: ls, K => match l with
    | .view n => match ob n with
      | some (.row te' e' l') => match Nat.beq te' te, decEq e' e with
        | true, .isTrue h => K (h ▸ l') ls [] [n]
        | _, _ => none
      | _ => none
    | .raw (.slice none 0 0) => K [] ls [] []
    | _ => none
  | .unit, ls, K => share ob .unit ls fun x ls u => K x ls u []
  | .int k, ls, K => share ob (.int k) ls fun x ls u => K x ls u []
  | .bool, ls, K => share ob .bool ls fun x ls u => K x ls u []
  | .str, ls, K => share ob .str ls fun x ls u => K x ls u []
  | .fn, ls, K => share ob .fn ls fun x ls u => K x ls u []
  | .list e, ls, K => share ob (.list e) ls fun x ls u => K x ls u []
  | .ref e, ls, K => share ob (.ref e) ls fun x ls u => K x ls u []

def shareCVO (ob : Nat → Option AObj) (κ : Kind) (agg : Bool) (c : CV) (K : κ.T → List (Nat × Option AObj) → List Nat → Option R) : Option R :=
  match agg, c with
  | false, .one l => shareO ob κ [l] fun x ls u ns => match ls with | [] => K x u ns | _ => none
  | true, .agg ls => shareO ob κ ls fun x ls u ns => match ls with | [] => K x u ns | _ => none
  | _, _ => none

/-- the arguments of a call; the names of the cells handed in, and of the rows handed over -/
def shareArgs (ob : Nat → Option AObj) : (ps : List PM) → List CV → ((argK ps).T → List Nat → List Nat → List (Nat × Option AObj) → Option R) → Option R
  | [], [], K => K () [] [] []
  | .val κ agg :: ps, c :: cs, K => shareCVO ob κ agg c fun x u ns => shareArgs ob ps cs fun xs cn ns' u' => K (x, xs) cn (ns ++ ns') (u' ++ u)
  | .io κ :: ps, .one (.ptr n 0) :: cs, K => match ob n with
    | some (.cell ls) => shareO ob κ ls fun x ls u ns => match ls with
      | [] => shareArgs ob ps cs fun xs cn ns' u' => K (x, xs) (n :: cn) (ns ++ ns') (u' ++ u)
      | _ => none
    | _ => none
  | _, _, _ => none

/-- a value of a kind as leaves; own rows get new names -/
def explodeO : (κ : Kind) → κ.T → (m : Nat) → (List LV → List (Nat × Option AObj) → Nat → Option R) → Option R
  | .pair a b, x, m, K => explodeO a x.1 m fun ls u m => explodeO b x.2 m fun ls' u' m => K (ls ++ ls') (u' ++ u) m
  | .own te e, x, m, K => K [.view m] [(m, some (.row te e x))] (m + 1)
  | .ownc te e, x, m, K => emptyK x (K [.of (.list e) []] [] m) (K [.view m] [(m, some (.row te e x))] (m + 1))
  | .cel e, x, m, K => optK x (K [.raw (.pointer none)] [] m) fun y => K [.ptr m 0] [(m, some (.cell (explode e y)))] (m + 1)
  | .unit, _, m, K => K [] [] m
  | .int k, x, m, K => K [.of (.int k) x] [] m
  | .bool, x, m, K => K [.of .bool x] [] m
  | .str, x, m, K => K [.of .str x] [] m
  | .fn, x, m, K => K [.of .fn x] [] m
  | .list e, x, m, K => K [.of (.list e) x] [] m
  | .ref e, x, m, K => K [.of (.ref e) x] [] m

/-- what is handed out of the cells -/
def outCells : (ps : List PM) → (outK ps).T → List Nat → Nat → (List (Nat × Option AObj) → Nat → Option R) → Option R
  | [], _, _, m, K => K [] m
  | .val _ _ :: ps, x, ns, m, K => outCells ps x ns m K
  | .io κ :: ps, x, n :: ns, m, K => explodeO κ x.1 m fun ls u m => outCells ps x.2 ns m fun u' m => K (u' ++ ((n, some (.cell ls)) :: u)) m
  | .io _ :: ps, x, [], _, _ => none

def cvLs (agg : Bool) (ls : List LV) : Option CV :=
  match agg with
  | true => some (.agg ls)
  | false => match ls with
    | [l] => some (.one l)
    | _ => none

def resCVs : (rs : List (Kind × Bool)) → (resK rs).T → Nat → (List CV → List (Nat × Option AObj) → Nat → Option R) → Option R
  | [], _, m, K => K [] [] m
  | p :: rs, x, m, K => explodeO p.1 x.1 m fun ls u m => match cvLs p.2 ls with
    | some c => resCVs rs x.2 m fun cs u' m => K (c :: cs) (u' ++ u) m
    | none => none

def tupOf : List CV → CV
  | [c] => c
  | cs => .tup cs

def constV : Value → CV
  | .int k n => .one (.of (.int k) n)
  | .bool b => .one (.of .bool b)
  | .string s => .one (.of .str s.data.toList)
  | v => .one (.raw v)

def evalO (tm : List (Nat × CV)) : Operand → CV
  | .tmp t => look .undef tm t
  | .const v => constV v
  | .func f => .one (.raw (.func (.func f) #[] #[]))
  | _ => .undef

/-- the function that is called -/
def calleeF (tm : List (Nat × CV)) : Operand → Option Nat
  | .func f => some f
  | .tmp t => match look .undef tm t with
    | .one (.raw (.func (.func f) ⟨[]⟩ ⟨[]⟩)) => some f
    | .one (.of .fn f) => some f
    | _ => none
  | _ => none

def shrI (k : IntKind) (a : Int) (n : Nat) : Int := a.fdiv (2 ^ (min n k.bits))
def shlI (k : IntKind) (a : Int) (n : Nat) : Int := k.wrap (a * 2 ^ (min n k.bits))
def quoI (k : IntKind) (a b : Int) : Int := k.wrap (a.tdiv b)
def bitI (op : BinOp) (k : IntKind) (a b : Int) : Int :=
  let x := BitVec.ofInt k.bits a
  let y := BitVec.ofInt k.bits b
  k.wrap (match op with | .and => (x &&& y).toNat | .or => (x ||| y).toNat | .xor => (x ^^^ y).toNat | _ => (x &&& ~~~y).toNat)

/-- operations on two integers; c: the second one is a constant -/
def intOp (op : BinOp) (k : IntKind) (a b : Int) (c : Bool) (K : LV → Option R) : Option R :=
  match op with
  | .add => K (.of (.int k) (k.wrap (a + b)))
  | .sub => K (.of (.int k) (k.wrap (a - b)))
  | .mul => K (.of (.int k) (k.wrap (a * b)))
  | .eql => K (.of .bool (a == b))
  | .neq => K (.of .bool (a != b))
  | .lss => K (.of .bool (decide (a < b)))
  | .leq => K (.of .bool (decide (a ≤ b)))
  | .gtr => K (.of .bool (decide (a > b)))
  | .geq => K (.of .bool (decide (a ≥ b)))
  | .and => K (.of (.int k) (bitI .and k a b))
  | .or => K (.of (.int k) (bitI .or k a b))
  | .xor => K (.of (.int k) (bitI .xor k a b))
  | .andNot => K (.of (.int k) (bitI .andNot k a b))
  | .quo => match c with
    | true => match b with
      | .ofNat (n + 1) => K (.of (.int k) (quoI k a b))
      | .negSucc n => K (.of (.int k) (quoI k a b))
      | _ => none
    | false => if b = 0 then none else K (.of (.int k) (quoI k a b))
  | .rem => match c with
    | true => match b with
      | .ofNat (n + 1) => K (.of (.int k) (a.tmod b))
      | .negSucc n => K (.of (.int k) (a.tmod b))
      | _ => none
    | false => if b = 0 then none else K (.of (.int k) (a.tmod b))
  | _ => none

def shiftOp (op : BinOp) (k : IntKind) (a b : Int) (c : Bool) (K : LV → Option R) : Option R :=
  let go (n : Nat) : Option R := match op with
    | .shl => K (.of (.int k) (shlI k a n))
    | _ => K (.of (.int k) (shrI k a n))
  match c with
  | true => match b with
    | .ofNat n => go n
    | _ => none
  | false => if b < 0 then none else go b.toNat

/-- structs of scalars, compared -/
def eqLeaves : List LV → List LV → (Bool → Option R) → Option R
  | [.of (.int k) a], [.of (.int k') b], K => match decEq k k' with
    | .isTrue _ => K (a == b)
    | .isFalse _ => none
  | [.of .bool a], [.of .bool b], K => K (a == b)
  | .of (.int k) a :: ls, .of (.int k') b :: ls', K => match decEq k k' with
    | .isTrue _ => eqLeaves ls ls' fun t => K (a == b && t)
    | .isFalse _ => none
  | .of .bool a :: ls, .of .bool b :: ls', K => eqLeaves ls ls' fun t => K (a == b && t)
  | _, _, _ => none

def binCV (op : BinOp) (x y : CV) (c : Bool) (K : CV → Option R) : Option R :=
  match x, y with
  | .one (.of (.int k) a), .one (.of (.int k') b) => match op with
    | .shl => shiftOp op k a b c fun l => K (.one l)
    | .shr => shiftOp op k a b c fun l => K (.one l)
    | _ => match decEq k k' with
      | .isTrue _ => intOp op k a b c fun l => K (.one l)
      | .isFalse _ => none
  | .one (.of .bool a), .one (.of .bool b) => match op with
    | .eql => K (.one (.of .bool (a == b)))
    | .neq => K (.one (.of .bool (!(a == b))))
    | _ => none
  | .agg ls, .agg ls' => match op with
    | .eql => eqLeaves ls ls' fun t => K (.one (.of .bool t))
    | .neq => eqLeaves ls ls' fun t => K (.one (.of .bool (!t)))
    | _ => none
  | _, _ => none

def unCV (op : UnOp) (x : CV) (K : CV → Option R) : Option R :=
  match op, x with
  | .not, .one (.of .bool b) => K (.one (.of .bool (!b)))
  | .neg, .one (.of (.int k) a) => K (.one (.of (.int k) (k.wrap (0 - a))))
  | .xor, .one (.of (.int k) a) => K (.one (.of (.int k) (bitI .xor k (if k.signed then -1 else k.max) a)))
  | _, _ => none

def leavesOf : CV → Option (List LV)
  | .one l => some [l]
  | .agg ls => some ls
  | _ => none

/-- a leaf that may go into a cell -/
def okL : LV → Bool
  | .raw v => v.oneCell'
  | .any => false
  | _ => true

def okLs (ls : List LV) : Bool := List.rec (motive := fun _ => Bool) true (fun l _ ih => match okL l with
  | true => ih
  | false => false) ls

def takeL {α : Type} : Nat → List α → List α
  | n + 1, x :: l => x :: takeL n l
  | _, _ => []
def dropL {α : Type} : Nat → List α → List α
  | n + 1, _ :: l => dropL n l
  | _, l => l

def partCV (r : TR) (ls : List LV) (off : Nat) : Option CV :=
  match r.agg with
  | true => match Nat.beq (takeL r.size (dropL off ls)).length r.size with
    | true => some (.agg (takeL r.size (dropL off ls)))
    | false => none
  | false => match dropL off ls with
    | l :: _ => some (.one l)
    | [] => none

/-- list operand: contents, whether shared -/
def listOf (ob : Nat → Option AObj) : CV → Option ((κ : Kind) × List κ.T)
  | .one (.of (.list e) l) => some ⟨e, l⟩
  | .one (.view n) => match ob n with
    | some (.row _ e l) => some ⟨e, l⟩
    | some (.shr e l) => some ⟨e, l⟩
    | _ => none
  | _ => none

def lenCV (ob : Nat → Option AObj) (x : CV) (K : CV → Option R) : Option R :=
  match x with
  | .one (.raw (.slice none 0 0)) => K (.one (.of (.int .i64) 0))
  | .one (.of .str s) => K (.one (.of (.int .i64) (s.length : Int)))
  | x => match listOf ob x with
    | some ⟨e, l⟩ => K (.one (.of (.int .i64) (l.length : Int)))
    | none => none

def setAt {κ : Kind} (l : List κ.T) (i : Int) (x : κ.T) : List κ.T := l.set i.toNat x

/-- the parts of a struct or an array as its leaves -/
def fillCV (place : Nat → Option (Nat × Nat)) : List LV → List (Nat × CV) → Option (List LV)
  | ls, [] => some ls
  | ls, (i, c) :: rest => match place i, leavesOf c with
    | some p, some new => match Nat.beq new.length p.2, okLs new, Nat.ble (p.1 + p.2) ls.length with
      | true, true, true => fillCV place (takeL p.1 ls ++ new ++ dropL (p.1 + p.2) ls) rest
      | _, _, _ => none
    | _, _ => none

def placeF (ty : TypeId → Option TR) (fs : Array Field) (i : Nat) : Option (Nat × Nat) :=
  match fs[i]? with
  | some f => match ty f.type with
    | some r => some (f.offset, r.size)
    | none => none
  | none => none

def placesB (ty : TypeId → Option TR) : List Field → Bool
  | [] => true
  | f :: fs => match ty f.type with
    | some _ => placesB ty fs
    | none => false

abbrev Ups := List (Nat × Option AObj)

def idx (os : List Nat) (n : Nat) : Option Nat :=
  List.rec (motive := fun _ => Nat → Option Nat) (fun _ => none) (fun o _ ih i => match Nat.beq o n with
    | true => some i
    | false => ih (i + 1)) os 0

def nodupB (os : List Nat) : Bool :=
  List.rec (motive := fun _ => Bool) true (fun o l ih => match idx l o with
    | none => ih
    | some _ => false) os

/-- no change touches one of the names -/
def disjB (u : Ups) (ns : List Nat) : Bool :=
  List.rec (motive := fun _ => Bool) true (fun p _ ih => match idx ns p.1 with
    | none => ih
    | some _ => false) u

/-- a bound of a slice expression -/
def boundK (tm : List (Nat × CV)) (x : Option Operand) (d : Int) (K : Int → Option R) : Option R :=
  match x with
  | none => K d
  | some y => match evalO tm y with
    | .one (.of (.int _) i) => K i
    | _ => none


def bytesI (l : List Int) : List UInt8 := l.map fun n => UInt8.ofNat n.toNat
def intsB (s : List UInt8) : List Int := s.map fun b => (b.toNat : Int)
def runeAt (s : List UInt8) (pos : Nat) : Int := ((Utf8.decode (strOf s) pos).1 : Nat)
def widthAt (s : List UInt8) (pos : Nat) : Nat := (Utf8.decode (strOf s) pos).2
def runeB (n : Int) : List UInt8 := (Utf8.encode n).data.toList
def runesB (l : List Int) : List UInt8 := l.flatMap runeB
def runesFrom (s : List UInt8) : Nat → Nat → List Int
  | 0, _ => []
  | k + 1, i => if i < s.length then runeAt s i :: runesFrom s k (i + widthAt s i) else []
def runesS (s : List UInt8) : List Int := runesFrom s s.length 0

def leafK (κ : Kind) (off sz : Nat) (x : κ.T) : Option ((κ' : Kind) × κ'.T) :=
  match Nat.beq off 0, Nat.beq 1 sz with
  | true, true => some ⟨κ, x⟩
  | _, _ => none

/-- a part of a value in shared memory -/
def subK : (κ : Kind) → Nat → Nat → κ.T → Option ((κ' : Kind) × κ'.T)
  | .pair a b, off, sz, x => match Nat.beq off 0, Nat.beq (a.size + b.size) sz with
    | true, true => some ⟨.pair a b, x⟩
    | _, _ => match Nat.blt off a.size with
      | true => subK a off sz x.1
      | false => subK b (off - a.size) sz x.2
  | .int k, off, sz, x => leafK (.int k) off sz x
  | .bool, off, sz, x => leafK .bool off sz x
  | .str, off, sz, x => leafK .str off sz x
  | .list e, off, sz, x => leafK (.list e) off sz x
  | .ref e, off, sz, x => leafK (.ref e) off sz x
  | _, _, _, _ => none

/-- structs of scalars, compared -/
def eqF (ty : TypeId → Option TR) : List Field → Nat → List LV → List LV → Option Bool
  | [], _, [], [] => some true
  | f :: fs, i, l :: ls, l' :: ls' => match Nat.beq f.offset i, ty f.type, eqF ty fs (i + 1) ls ls' with
    | true, some r, some t => match r.d, l, l' with
      | .int _, .of (.int k) a, .of (.int k') b => match decEq k k' with
        | .isTrue _ => some (decide (a = b) && t)
        | .isFalse _ => none
      | .bool, .of .bool a, .of .bool b => some (decide (a = b) && t)
      | .string, .of .str a, .of .str b => some (decide (a = b) && t)
      | _, _, _ => none
    | _, _, _ => none
  | _, _, _, _ => none

def eqRes (op : BinOp) (b : Bool) (K : CV → Option R) : Option R :=
  match op with
  | .eql => K (.one (.of .bool b))
  | .neq => K (.one (.of .bool (!b)))
  | _ => none

def strOp (op : BinOp) (a b : List UInt8) (K : CV → Option R) : Option R :=
  match op with
  | .add => if a.length + b.length ≤ 9223372036854775807 then K (.one (.of .str (a ++ b))) else none
  | .eql => K (.one (.of .bool (decide (a = b))))
  | .neq => K (.one (.of .bool (!decide (a = b))))
  | .lss => K (.one (.of .bool (Op.bytesLess a b)))
  | .leq => K (.one (.of .bool (Op.bytesLess a b || decide (a = b))))
  | .gtr => K (.one (.of .bool (!(Op.bytesLess a b || decide (a = b)))))
  | .geq => K (.one (.of .bool (!Op.bytesLess a b)))
  | _ => none

/-- several values as the elements of a row -/
def shareAll (ob : Nat → Option AObj) (e : Kind) : List CV → (List e.T → List (Nat × Option AObj) → Option R) → Option R
  | [], K => K [] []
  | c :: cs, K => match leavesOf c with
    | some ls => match okLs ls with
      | true => share ob e ls fun x ls u => match ls with
        | [] => shareAll ob e cs fun xs u' => K (x :: xs) (u' ++ u)
        | _ => none
      | false => none
    | none => none

def seqB : List (Nat × Operand) → Nat → Bool
  | [], _ => true
  | p :: ps, i => match Nat.beq p.1 i with
    | true => seqB ps (i + 1)
    | false => false

def minMax (mx : Bool) : List CV → (CV → Option R) → Option R
  | [.one (.of (.int k) a), .one (.of (.int k') b)], K => match decEq k k' with
    | .isTrue _ => match mx with
      | false => K (.one (.of (.int k) (if b < a then b else a)))
      | true => K (.one (.of (.int k) (if a < b then b else a)))
    | .isFalse _ => none
  | [.one (.of (.int k) a), .one (.of (.int k') b), .one (.of (.int k'') c)], K => match decEq k k', decEq k k'' with
    | .isTrue _, .isTrue _ => match mx with
      | false => K (.one (.of (.int k) (if c < (if b < a then b else a) then c else (if b < a then b else a))))
      | true => K (.one (.of (.int k) (if (if a < b then b else a) < c then c else (if a < b then b else a))))
    | _, _ => none
  | _, _ => none

def effConv (E : Env) (ob : Nat → Option AObj) (src dst : TypeId) (v : CV) (K : CV → Ups → Option R) : Option R :=
  match E.tr src, E.tr dst with
  | some qs, some qd => match qd.d with
    | .int k => match v with
      | .one (.of (.int _) n) => K (.one (.of (.int k) (k.wrap n))) []
      | _ => none
    | .string => match v, qs.d with
      | .one (.of (.int _) n), .int _ => K (.one (.of .str (runeB n))) []
      | .one (.of .str s), .string => K (.one (.of .str s)) []
      | v, .slice es => match E.tr es with
        | some qe => match qe.d, listOf ob v with
          | .int .u8, some ⟨.int .u8, l⟩ => K (.one (.of .str (bytesI l))) []
          | .int .i32, some ⟨.int .i32, l⟩ => K (.one (.of .str (runesB l))) []
          | _, _ => none
        | none => none
      | _, _ => none
    | .slice ed => match E.tr ed with
      | some qe => match qe.d, v with
        | .int .u8, .one (.of .str s) => K (.one (.of (.list (.int .u8)) (intsB s))) []
        | .int .i32, .one (.of .str s) => if (runesS s).length ≤ 70368744177664 then K (.one (.of (.list (.int .i32)) (runesS s))) [] else none
        | .int .u8, .one (.view n) => match Nat.beq src dst, ob n with
          | true, some (.row te e (a :: l)) => K (.one (.view n)) [(n, some (.shr e (a :: l)))]
          | _, _ => none
        | _, _ => none
      | none => none
    | _ => none
  | _, _ => none

/-- what an operation does: its value and the changes of the heap; m: a fresh name -/
def opEff (E : Env) (C : CallT E) (o : Oper) (tm : List (Nat × CV)) (hp : List (Nat × Option AObj)) (m : Nat)
    (K : CV → Ups → Option R) : Option R :=
  let ev := evalO tm
  let ob := look none hp
  match o.op with
  | .move x | .assign x =>
    match ev x with
    | .one (.raw (.slice none 0 0)) =>
      match E.kind o.type, E.tr o.type with
      | some (.list e), some r => match r.d with
        | .slice te => K (.one (.view m)) [(m, some (.row te e []))]
        | _ => none
      | _, _ => K (.one (.raw (.slice none 0 0))) []
    | v => K v []
  | .pick c a b => match ev c with
    | .one (.of .bool t) => if t = true then K (ev a) [] else K (ev b) []
    | _ => none
  | .alloc t => match E.tr t with
    | some r => K (.one (.ptr m 0)) [(m, some (.cell r.zero))]
    | none => none
  | .box t x => match leavesOf (ev x) with
    | some ls => match okLs ls with
      | true => K (.one (.ptr m 0)) [(m, some (.cell ls))]
      | false => none
    | none => none
  | .build t parts => match E.tr t with
    | some r => match r.d with
      | .struct fs => match placesB E.tr fs.toList, fillCV (placeF E.tr fs) r.zero (parts.toList.map fun p => (p.1, ev p.2)) with
        | true, some ls => K (.agg ls) []
        | _, _ => none
      | .array _ te => match E.tr te with
        | some qe => match fillCV (fun i => some (i * qe.size, qe.size)) r.zero (parts.toList.map fun p => (p.1, ev p.2)) with
          | some ls => K (.agg ls) []
          | none => none
        | none => none
      | _ => none
    | none => none
  | .load t x => match ev x, E.tr t with
    | .one (.of (.ref κ) x), some r => match r.agg with
      | true => match Nat.beq κ.size r.size with
        | true => K (.agg (explode κ x)) []
        | false => none
      | false => match explode κ x with
        | [l] => K (.one l) []
        | _ => none
    | .one (.ptr n off), some r => match ob n with
      | some (.cell ls) => match partCV r ls off with
        | some c => K c []
        | none => none
      | _ => none
    | .one (.rptr n i sz), some r => match ob n with
      | some (.row _ e l) => match Nat.beq e.size sz, Nat.beq e.size r.size with
        | true, true => match r.agg with
          | true => K (.agg (explode e (l.getD i e.dflt))) []
          | false => match explode e (l.getD i e.dflt) with
            | [l] => K (.one l) []
            | _ => none
        | _, _ => none
      | _ => none
    | _, _ => none
  | .store t x y => match ev x, leavesOf (ev y), E.tr t with
    | .one (.ptr n off), some new, some r => match ob n, Nat.beq new.length r.size, okLs new with
      | some (.cell ls), true, true => match Nat.ble (off + r.size) ls.length with
        | true => K .undef [(n, some (.cell (takeL off ls ++ new ++ dropL (off + r.size) ls)))]
        | false => none
      | _, _, _ => none
    | .one (.rptr n i sz), some new, some r => match ob n, okLs new with
      | some (.row te e l), true => match Nat.beq e.size sz, Nat.beq e.size r.size, Nat.beq e.size 0 with
        | true, true, false => share ob e new fun x ls u => match ls with
          | [] => match look none (u ++ hp) n with
            | some (.row _ _ _) => K .undef ((n, some (.row te e (l.set i x))) :: u)
            | _ => none
          | _ => none
        | _, _, _ => none
      | _, _ => none
    | _, _, _ => none
  | .nilCheck x => match ev x with
    | .one (.ptr n off) => K (.one (.ptr n off)) []
    | .one (.of (.ref κ) x) => K (.one (.of (.ref κ) x)) []
    | _ => none
  | .binOp op t x y _ => match ev x, ev y with
    | .one (.of (.int k) p), .one (.of (.int k') q) => binCV op (.one (.of (.int k) p)) (.one (.of (.int k') q)) (match y with | .const _ => true | _ => false) fun c => K c []
    | .one (.of .bool p), .one (.of .bool q) => match E.tr t with
      | some qt => match qt.d with
        | .bool => binCV op (.one (.of .bool p)) (.one (.of .bool q)) false fun c => K c []
        | _ => none
      | none => none
    | .one (.of .str p), .one (.of .str q) => strOp op p q fun c => K c []
    | .agg ls, .agg ls' => match look false E.eqs t, E.tr t with
      | true, some q => match q.d with
        | .struct fs => match eqF E.tr fs.toList 0 ls ls' with
          | some b => eqRes op b fun c => K c []
          | none => none
        | _ => none
      | _, _ => none
    | _, _ => none
  | .unOp op _ x => unCV op (ev x) fun c => K c []
  | .convert src dst x => effConv E ob src dst (ev x) K
  | .makeSlice t l c => match E.kind t, E.tr t, ev l, ev c with
    | some (.list e), some r, .one (.of (.int k) n), .one (.of (.int k') c) => match r.d with
      | .slice te => match E.tr te with
        | some qe => match Nat.beq qe.size e.size, Nat.beq e.size 0, Nat.beq qe.bytes 0 with
          | true, false, false => if 0 ≤ n ∧ n ≤ c then if c.toNat * qe.bytes ≤ 281474976710656 then
              K (.one (.view m)) [(m, some (.row te e (List.replicate n.toNat e.dflt)))] else none else none
          | _, _, _ => none
        | none => none
      | _ => none
    | _, _, _, _ => none
  | .buildSlice t n parts => match E.kind t, E.tr t with
    | some (.list e), some r => match r.d with
      | .slice te => match E.tr te with
        | some qe => match Nat.beq qe.size e.size, Nat.beq e.size 0, Nat.beq parts.toList.length n, seqB parts.toList 0, Nat.ble (n * e.size) 16777216 with
          | true, false, true, true, true => shareAll ob e (parts.toList.map fun p => ev p.2) fun xs u => K (.one (.view m)) ((m, some (.row te e xs)) :: u)
          | _, _, _, _, _ => none
        | none => none
      | _ => none
    | _, _ => none
  | .slice t x lo hi mx => match mx, E.tr t with
    | none, some q => match q.d with
      | .string => match ev x with
        | .one (.of .str s) => boundK tm lo 0 fun i => boundK tm hi (s.length : Int) fun j => if 0 ≤ i ∧ i ≤ j ∧ j ≤ (s.length : Int) then K (.one (.of .str ((s.take j.toNat).drop i.toNat))) [] else none
        | _ => none
      | .slice te => match E.tr te with
        | some qe =>
          let cut (κ : Kind) (l : List κ.T) (u : Ups) : Option R :=
            match Nat.beq qe.size κ.size with
            | true => boundK tm lo 0 fun i => boundK tm hi (l.length : Int) fun j => if 0 ≤ i ∧ i ≤ j ∧ j ≤ (l.length : Int) then K (.one (.of (.list κ) ((l.take j.toNat).drop i.toNat))) u else none
            | false => none
          match ev x with
          | .one (.of (.list e) l) => cut e l []
          | .one (.view n) => match ob n with
            | some (.row te' e l) => match o.dst, lo with
              | some d, none => match look false E.keep d with
                | true => match Nat.beq qe.size e.size with
                  | true => boundK tm hi (l.length : Int) fun j => if 0 ≤ j ∧ j ≤ (l.length : Int) then K (.one (.view m)) [(m, some (.row te' e (l.take j.toNat))), (n, none)] else none
                  | false => none
                | false => cut e l [(n, some (.shr e l))]
              | _, _ => cut e l [(n, some (.shr e l))]
            | some (.shr e l) => cut e l []
            | _ => none
          | _ => none
        | none => none
      | _ => none
    | _, _ => none
  | .range t x => match ev x, E.tr t with
    | .one (.of .str s), some q => match q.d with
      | .string => K (.one (.ptr m 0)) [(m, some (.iter s 0))]
      | _ => none
    | _, _ => none
  | .next x st => match ev x, st with
    | .one (.ptr n 0), true => match ob n with
      | some (.iter s pos) => if pos < s.length
        then K (.tup [.one (.of .bool true), .one (.of (.int .i64) (pos : Int)), .one (.of (.int .i32) (runeAt s pos))]) [(n, some (.iter s (pos + widthAt s pos)))]
        else K (.tup [.one (.of .bool false)]) []
      | _ => none
    | _, _ => none
  | .fieldAddr t x f => match ev x, E.tr t with
    | .one (.ptr n off), some r => match r.d with
      | .struct fs => match fs[f]? with
        | some f => match E.tr f.type with
          | some qf => match Nat.beq qf.size 0 with
            | true => none
            | false => K (.one (.ptr n (off + f.offset))) []
          | none => none
        | none => none
      | _ => none
    | .one (.of (.ref κ) y), some r => match r.d with
      | .struct fs => match fs[f]? with
        | some f => match E.tr f.type with
          | some qf => match Nat.beq qf.size 0, subK κ f.offset qf.size y with
            | false, some ⟨κ', y'⟩ => K (.one (.of (.ref κ') y')) []
            | _, _ => none
          | none => none
        | none => none
      | _ => none
    | _, _ => none
  | .field t x f => match ev x, E.tr t with
    | .agg ls, some r => match r.d with
      | .struct fs => match fs[f]? with
        | some f => match E.tr f.type with
          | some r' => match partCV r' ls f.offset with
            | some c => K c []
            | none => none
          | none => none
        | none => none
      | _ => none
    | _, _ => none
  | .indexAddr t x i => match E.tr t with
    | some q => match q.d with
      | .slice te => match E.tr te with
        | some qe =>
          let shared (e : Kind) (l : List e.T) (i : Int) : Option R := match Nat.beq qe.size e.size with
            | true => if 0 ≤ i then if i < (l.length : Int) then K (.one (.of (.ref e) (rdK l i))) [] else none else none
            | false => none
          match ev x, ev i with
          | .one (.of (.list e) l), .one (.of (.int _) i) => shared e l i
          | .one (.view n), .one (.of (.int _) i) => match ob n with
            | some (.row _ e l) => match Nat.beq qe.size e.size with
              | true => if 0 ≤ i then if i < (l.length : Int) then K (.one (.rptr n i.toNat e.size)) [] else none else none
              | false => none
            | some (.shr e l) => shared e l i
            | _ => none
          | _, _ => none
        | none => none
      | .array len te => match E.tr te with
        | some qe => match Nat.beq qe.size 0, ev x, ev i with
          | false, .one (.ptr n off), .one (.of (.int _) (.ofNat j)) => match Nat.blt j len with
            | true => K (.one (.ptr n (off + j * qe.size))) []
            | false => none
          | false, .one (.of (.ref κ) y), .one (.of (.int _) (.ofNat j)) => match Nat.blt j len, subK κ (j * qe.size) qe.size y with
            | true, some ⟨κ', y'⟩ => K (.one (.of (.ref κ') y')) []
            | _, _ => none
          | _, _, _ => none
        | none => none
      | _ => none
    | none => none
  | .index t x i => match E.tr t with
    | some q => match q.d with
      | .string => match ev x, ev i with
        | .one (.of .str s), .one (.of (.int _) i) =>
          if 0 ≤ i then if i < (s.length : Int) then K (.one (.of (.int .u8) ((s.getD i.toNat 0).toNat : Int))) [] else none else none
        | _, _ => none
      | _ => none
    | none => none
  | .extract x i => match ev x with
    | .tup cs => match cs[i]? with
      | some c => K c []
      | none => none
    | _ => none
  | .call c => match c.callee with
    | .builtin .len => match c.args.toList, c.argTypes.toList with
      | [x], [t] => match E.tr t with
        | some q => match q.d, ev x with
          | .string, .one (.of .str s) => K (.one (.of (.int .i64) (s.length : Int))) []
          | .slice _, .one (.of .str s) => none
          | .slice _, v => lenCV ob v fun v => K v []
          | _, _ => none
        | none => none
      | _, _ => none
    | .builtin .append => match c.args.toList, c.argTypes.toList with
      | [x, y], [t, t'] => match Nat.beq t t', E.tr t with
        | true, some q => match q.d with
          | .slice te' => match E.tr te' with
            | some qe => match ev x, listOf ob (ev y) with
              | .one (.raw (.slice none 0 0)), some ⟨e', l'⟩ => match E.kind t with
                | some (.list e) => match Nat.beq qe.size e.size, decEq e' e, Nat.beq e.size 0, Nat.beq qe.bytes 0 with
                  | true, .isTrue h, false, false => if l'.length * qe.bytes ≤ 140737488355328 then K (.one (.view m)) [(m, some (.row te' e (h ▸ l')))] else none
                  | _, _, _, _ => none
                | _ => none
              | .one (.view n), some ⟨e', l'⟩ => match ob n with
                | some (.row te e l) => match Nat.beq te te', Nat.beq qe.size e.size, decEq e' e, Nat.beq e.size 0, Nat.beq qe.bytes 0 with
                  | true, true, .isTrue h, false, false => if (l.length + l'.length) * qe.bytes ≤ 140737488355328 then K (.one (.view m)) [(m, some (.row te e (l ++ (h ▸ l')))), (n, none)] else none
                  | _, _, _, _, _ => none
                | _ => none
              | _, _ => none
            | none => none
          | _ => none
        | _, _ => none
      | _, _ => none
    | .builtin .min => minMax false (c.args.toList.map ev) fun c => K c []
    | .builtin .max => minMax true (c.args.toList.map ev) fun c => K c []
    | .value y => match calleeF tm y with
      | some f => match look false E.known f with
        | true => shareArgs ob (E.sig f).ps (c.args.toList.map ev) fun x cn ns u => match nodupB (cn ++ ns), disjB u (cn ++ ns) with
          | true, true => (C f x).bind fun r => resCVs (E.sig f).rs r.1 m fun cs u1 m1 => outCells (E.sig f).ps r.2 cn m1 fun u2 m2 => match Nat.ble m2 (m + 16) with
            | true => K (tupOf cs) (u2 ++ (u1 ++ ((cn ++ ns).map (fun n => (n, none)) ++ u)))
            | false => none
          | _, _ => none
        | false => none
      | none => none
    | _ => none
  | _ => none
end
end
end Go.AM

set_option linter.unusedVariables false
namespace Go.AM
noncomputable section

structure St where
  tm : List (Nat × CV)
  next : Nat
  hp : List (Nat × Option AObj)

inductive Ex where
  | normal | exit (n : Nat) | ret

section
variable {R : Type}

def putT (d : Option Tmp) (v : CV) (tm : List (Nat × CV)) : List (Nat × CV) :=
  match d with
  | none => tm
  | some d => (d, v) :: tm

def opRun (E : Env) (C : CallT E) (N : Nat) (ops : Array Oper) (o : Oper) (m : Nat) (tm : List (Nat × CV)) (hp : List (Nat × Option AObj))
    (K : List (Nat × CV) → List (Nat × Option AObj) → Option R) : Option R :=
  let run (tm : List (Nat × CV)) : Option R := opEff E C o tm hp m fun v u => match o.dst with
    | none => K tm (u ++ hp)
    | some d => match Nat.blt d N with
      | true => K ((d, v) :: tm) (u ++ hp)
      | false => none
  let skip (tm : List (Nat × CV)) : Option R := match o.dst with
    | none => K tm hp
    | some d => match Nat.blt d N with
      | true => K ((d, .one (.raw undef)) :: tm) hp
      | false => none
  match o.guard with
  | none => run tm
  | some (j, want) => match (ops[j]?).bind (·.dst) with
    | none => none
    | some t => match look .undef tm t with
      | .one (.of .bool b) => if b = true
        then (match want with | true => run ((t, .one (.of .bool true)) :: tm) | false => skip ((t, .one (.of .bool true)) :: tm))
        else (match want with | true => skip ((t, .one (.of .bool false)) :: tm) | false => run ((t, .one (.of .bool false)) :: tm))
      | .one (.raw (.tuple _)) => skip tm
      | _ => none

def opsRun (E : Env) (C : CallT E) (N : Nat) (ops : Array Oper) (os : List Oper) : Nat → List (Nat × CV) → List (Nat × Option AObj) →
    (List (Nat × CV) → List (Nat × Option AObj) → Nat → Option R) → Option R :=
  List.rec (motive := fun _ => Nat → List (Nat × CV) → List (Nat × Option AObj) → (List (Nat × CV) → List (Nat × Option AObj) → Nat → Option R) → Option R)
    (fun m tm hp K => K tm hp m)
    (fun o _ ih m tm hp K => opRun E C N ops o m tm hp fun tm' hp' => ih (m + 16) tm' hp' K) os

def renL (ob : Nat → Option AObj) (os : List Nat) : LV → LV
  | .ptr n off => match idx os n with
    | some i => .ptr i off
    | none => .any
  | .view n => match ob n with
    | some (.shr e l) => .of (.list e) l
    | _ => match idx os n with
      | some i => .view i
      | none => .any
  | .rptr n i sz => match idx os n with
    | some j => .rptr j i sz
    | none => .any
  | l => l

/-- the same, with the result laid out ahead of what goes on -/
def renLK (ob : Nat → Option AObj) (os : List Nat) (l : LV) (K : LV → Option R) : Option R :=
  match renL ob os l with
  | .of κ x => K (.of κ x)
  | .raw v => K (.raw v)
  | .ptr n o => K (.ptr n o)
  | .view n => K (.view n)
  | .rptr n i s => K (.rptr n i s)
  | .any => K .any

def renLsK (ob : Nat → Option AObj) (os : List Nat) (ls : List LV) : (List LV → Option R) → Option R :=
  List.rec (motive := fun _ => (List LV → Option R) → Option R) (fun K => K []) (fun l _ ih K => renLK ob os l fun l' => ih fun ls' => K (l' :: ls')) ls

def renCK (ob : Nat → Option AObj) (os : List Nat) (c : CV) (K : CV → Option R) : Option R :=
  match c with
  | .one l => renLK ob os l fun l => K (.one l)
  | .agg ls => renLsK ob os ls fun ls => K (.agg ls)
  | _ => K .undef

def namesL : LV → List Nat
  | .ptr n _ | .view n | .rptr n _ _ => [n]
  | _ => []

def addN (os : List Nat) (n : Nat) : List Nat := match idx os n with
  | some _ => os
  | none => os ++ [n]

def namesC : CV → List Nat
  | .one l => namesL l
  | .agg ls => ls.flatMap namesL
  | _ => []

def liveN (ob : Nat → Option AObj) (os : List Nat) (n : Nat) : List Nat := match ob n with
  | some (.cell ls) => (ls.flatMap namesL).foldl addN (addN os n)
  | some (.row ..) => addN os n
  | some (.iter ..) => addN os n
  | _ => os

/-- the objects that what is kept leads to (own cells may hold views) -/
def collect (pins : List Nat) (tm : List (Nat × CV)) (ob : Nat → Option AObj) (keep : List Tmp) : List Nat :=
  let os := keep.foldl (fun os t => (namesC (look .undef tm t)).foldl (liveN ob) os) pins
  os.foldl (liveN ob) pins

/-- the names of the cells handed in stay -/
def pinsB (pins : List Nat) (os : List Nat) : Bool :=
  List.rec (motive := fun _ => Bool) true (fun i _ ih => match idx os i with
    | some j => match Nat.beq j i with
      | true => ih
      | false => false
    | none => false) pins

def renOK (ob : Nat → Option AObj) (os : List Nat) (o : Option AObj) (K : Option AObj → Option R) : Option R :=
  match o with
  | some (.cell ls) => renLsK ob os ls fun ls => K (some (.cell ls))
  | some (.row t e l) => K (some (.row t e l))
  | some (.shr e l) => K (some (.shr e l))
  | some (.iter s p) => K (some (.iter s p))
  | none => K none

def renTmK (ob : Nat → Option AObj) (os : List Nat) (tm : List (Nat × CV)) (keep : List Tmp) : (List (Nat × CV) → Option R) → Option R :=
  List.rec (motive := fun _ => (List (Nat × CV) → Option R) → Option R) (fun K => K [])
    (fun t _ ih K => renCK ob os (look .undef tm t) fun c => ih fun tm' => K ((t, c) :: tm')) keep

def renHpK (ob : Nat → Option AObj) (os : List Nat) (rest : List Nat) : Nat → (List (Nat × Option AObj) → Option R) → Option R :=
  List.rec (motive := fun _ => Nat → (List (Nat × Option AObj) → Option R) → Option R) (fun _ K => K [])
    (fun n _ ih i K => renOK ob os (ob n) fun o => ih (i + 1) fun hp' => K ((i, o) :: hp')) rest

/-- where the equations are cut -/
def cut (id : Nat) (K : St → Option R) (s : St) : Option R := K s

def normK (id : Nat) (pins : List Nat) (keep : List Tmp) (s : St) (K : St → Option R) : Option R :=
  match s with
  | ⟨tm, nx, hp⟩ =>
    let ob := look none hp
    let os := collect pins tm ob keep
    match nodupB os, pinsB pins os with
    | true, true => renTmK ob os tm keep fun tm' => renHpK ob os os 0 fun hp' => cut id K ⟨tm', hp'.length, hp'⟩
    | _, _ => none

/-- the id of the first region -/
def firstR (c : Code) : Option Nat :=
  Code.rec (motive := fun _ => Option Nat) none (fun id _ _ => some id) (fun _ _ ia ib => match ia with
    | some i => some i
    | none => ib) (fun _ _ _ _ _ => some 1000000) (fun _ _ ib => ib) (fun _ ib => ib) (fun _ _ _ _ _ _ => none) (fun _ => none) (fun _ _ => none) (fun _ => none) (fun _ => none) none (fun _ => none) c

def normAt (E : Env) (pins : List Nat) (c : Code) (s : St) (K : St → Option R) : Option R :=
  match firstR c with
  | none => K s
  | some id => match look none E.hint id with
    | none => K s
    | some keep => normK id pins keep s K

/-! ### regions that draw their order: run in their own order, with a look at what hangs together -/

structure Ent where
  i : Nat
  o : Oper
  T : List Nat
  rn : List Nat
  eff : Option (CV × Ups)

def Ent.ups (e : Ent) : Ups := match e.eff with
  | some p => p.2
  | none => []
def Ent.val (e : Ent) : CV := match e.eff with
  | some p => p.1
  | none => .one (.raw undef)

def restT (T : List Nat) (tmF : Nat → CV) : List (Nat × CV) := T.map fun t => (t, tmF t)
def restH (N : List Nat) (hpF : Nat → Option AObj) : List (Nat × Option AObj) := N.map fun n => (n, hpF n)

def ltL (m : Nat) : LV → Bool
  | .ptr n _ => Nat.blt n m
  | .view n => Nat.blt n m
  | .rptr n _ _ => Nat.blt n m
  | _ => true

def ltLs (m : Nat) : List LV → Bool
  | [] => true
  | l :: ls => match ltL m l with
    | true => ltLs m ls
    | false => false

def ltC1 (m : Nat) : CV → Bool
  | .one l => ltL m l
  | .agg ls => ltLs m ls
  | .tup _ => false
  | .undef => true

def ltCs (m : Nat) : List CV → Bool
  | [] => true
  | c :: cs => match ltC1 m c with
    | true => ltCs m cs
    | false => false

def ltC (m : Nat) : CV → Bool
  | .tup cs => ltCs m cs
  | c => ltC1 m c

def ltT (m : Nat) (tmF : Nat → CV) : List Nat → Bool
  | [] => true
  | t :: T => match ltC m (tmF t) with
    | true => ltT m tmF T
    | false => false

def ltO (m : Nat) : Option AObj → Bool
  | some (.cell ls) => ltLs m ls
  | _ => true

def ltH (m : Nat) (hpF : Nat → Option AObj) : List Nat → Bool
  | [] => true
  | n :: N => match Nat.blt n m, ltO m (hpF n) with
    | true, true => ltH m hpF N
    | _, _ => false

def namesN (tmF : Nat → CV) (T : List Nat) : List Nat := T.flatMap fun t => namesC (tmF t)
def namesO : Option AObj → List Nat
  | some (.cell ls) => ls.flatMap namesL
  | _ => []
/-- the objects that an operation may touch -/
def rnOf (T : List Nat) (tmF : Nat → CV) (hpF : Nat → Option AObj) : List Nat :=
  namesN tmF T ++ (namesN tmF T).flatMap fun n => namesO (hpF n)


def disjL (a b : List Nat) : Bool :=
  List.rec (motive := fun _ => Bool) true (fun x _ ih => match idx b x with
    | none => ih
    | some _ => false) a

def dstIn (d : Option Nat) (T : List Nat) : Bool := match d with
  | none => false
  | some d => match idx T d with
    | none => false
    | some _ => true

def dstEq : Option Nat → Option Nat → Bool
  | some a, some b => Nat.beq a b
  | _, _ => false

def keysU (u : Ups) : List Nat := u.map fun p => p.1

def apartB (e1 e2 : Ent) : Bool :=
  match dstIn e1.o.dst e2.T, dstIn e2.o.dst e1.T, dstEq e1.o.dst e2.o.dst with
  | false, false, false => match disjL (keysU e1.ups) e2.rn, disjL (keysU e2.ups) e1.rn, disjL (keysU e1.ups) (keysU e2.ups) with
    | true, true, true => true
    | _, _, _ => false
  | _, _, _ => false

def directs (o : Oper) : List Nat := (o.after.toList.filter fun e => Region.binds .any e).map fun e => e.on

/-- is j ahead of i by the edges -/
def isAnc (ops : Array Oper) (j : Nat) : Nat → Nat → Bool
  | 0, _ => false
  | k + 1, i => match ops[i]? with
    | none => false
    | some o => match idx (directs o) j with
      | some _ => true
      | none => (directs o).any fun d => match Nat.blt j d with
        | true => isAnc ops j k d
        | false => false

def indB (ops : Array Oper) (e1 e2 : Ent) : Bool := match apartB e1 e2 with
  | true => true
  | false => isAnc ops e1.i 5 e2.i

def indAll (ops : Array Oper) (tr : List Ent) (e : Ent) : Bool :=
  List.rec (motive := fun _ => Bool) true (fun e1 _ ih => match indB ops e1 e with
    | true => ih
    | false => false) tr

def allLt (i : Nat) (ds : List Nat) : Bool :=
  List.rec (motive := fun _ => Bool) true (fun d _ ih => match Nat.blt d i with
    | true => ih
    | false => false) ds

def dstOk (N : Nat) : Option Nat → Bool
  | none => true
  | some d => Nat.blt d N

def entRun (E : Env) (C : CallT E) (N : Nat) (ops : Array Oper) (base : Nat) (o : Oper) (i : Nat) (tm : List (Nat × CV)) (hp : List (Nat × Option AObj)) (tr : List Ent)
    (K : List (Nat × CV) → List (Nat × Option AObj) → List Ent → Option R) : Option R :=
  let T := o.looksAt ops
  let m := base + 16 * i
  let rn := rnOf T (look .undef tm) (look none hp)
  match allLt i (directs o), dstOk N o.dst, ltT m (look .undef tm) T, ltH m (look none hp) rn with
  | true, true, true, true =>
    let fin (tm1 : List (Nat × CV)) (p : Option (CV × Ups)) : Option R :=
      match indAll ops tr ⟨i, o, T, rn, p⟩ with
      | true => K (putT o.dst (Ent.val ⟨i, o, T, rn, p⟩) tm1) (Ent.ups ⟨i, o, T, rn, p⟩ ++ hp) (⟨i, o, T, rn, p⟩ :: tr)
      | false => none
    let run (tm1 : List (Nat × CV)) : Option R := opEff E C o (restT T (look .undef tm1)) (restH rn (look none hp)) m fun v u => fin tm1 (some (v, u))
    match o.guard with
    | none => run tm
    | some (j, want) => match (ops[j]?).bind (·.dst) with
      | none => none
      | some t => match look .undef tm t with
        | .one (.of .bool b) => if b = true
          then (match want with | true => run ((t, .one (.of .bool true)) :: tm) | false => fin ((t, .one (.of .bool true)) :: tm) none)
          else (match want with | true => fin ((t, .one (.of .bool false)) :: tm) none | false => run ((t, .one (.of .bool false)) :: tm))
        | .one (.raw (.tuple _)) => fin tm none
        | _ => none
  | _, _, _, _ => none

def opsRunD (E : Env) (C : CallT E) (N : Nat) (ops : Array Oper) (base : Nat) (os : List Oper) : Nat → List (Nat × CV) → List (Nat × Option AObj) → List Ent →
    (List (Nat × CV) → List (Nat × Option AObj) → Option R) → Option R :=
  List.rec (motive := fun _ => Nat → List (Nat × CV) → List (Nat × Option AObj) → List Ent → (List (Nat × CV) → List (Nat × Option AObj) → Option R) → Option R)
    (fun _ tm hp _ K => K tm hp)
    (fun o _ ih i tm hp tr K => entRun E C N ops base o i tm hp tr fun tm' hp' tr' => ih (i + 1) tm' hp' tr' K) os

/-- what goes on behind the first part of a sequence, and behind a block -/
def seqK (E : Env) (pins : List Nat) (b : Code) (run : St → (Ex → St → Option R) → Option R) (K : Ex → St → Option R) : Ex → St → Option R := fun e s' => match e with
  | .normal => normAt E pins b s' fun s'' => run s'' K
  | .exit n => K (.exit n) s'
  | .ret => K .ret s'

def blockK (id : Nat) (K : Ex → St → Option R) : Ex → St → Option R := fun e s' => match e with
  | .exit n => match Nat.beq n id with
    | true => K .normal s'
    | false => K (.exit n) s'
  | .normal => K .normal s'
  | .ret => K .ret s'

/-- a code; lp: how loops run -/
def stepI (E : Env) (pins : List Nat) (C : CallT E) (N : Nat) (lp : Code → St → (Ex → St → Option R) → Option R) (c : Code) : St → (Ex → St → Option R) → Option R :=
  Code.rec (motive := fun _ => St → (Ex → St → Option R) → Option R)
    (fun s K => K .normal s)
    (fun _ ops dr s K => match s with
      | ⟨tm, nx, hp⟩ => match dr with
        | false => opsRun E C N ops ops.toList nx tm hp fun tm' hp' nx' => K .normal ⟨tm', nx', hp'⟩
        | true => opsRunD E C N ops nx ops.toList 0 tm hp [] fun tm' hp' => K .normal ⟨tm', nx + 16 * ops.size, hp'⟩)
    (fun _ b ia ib s K => ia s (seqK E pins b ib K))
    (fun c _ _ ia ib s K => match evalO s.tm c with
      | .one (.of .bool t) => if t = true then ia s K else ib s K
      | _ => none)
    (fun id _ ib s K => ib s (blockK id K))
    (fun b _ s K => lp b s K)
    (fun _ _ _ _ _ _ _ _ => none)
    (fun n s K => K (.exit n) s)
    (fun _ _ _ _ => none)
    (fun _ _ _ => none)
    (fun _ _ _ => none)
    (fun s K => K .ret s)
    (fun _ _ _ => none)
    c

/-- one round, and what goes on -/
def backK (E : Env) (pins : List Nat) (b : Code) (lp : St → Option R) (K : Ex → St → Option R) : Ex → St → Option R
  | .normal, s' => normAt E pins b s' lp
  | .exit n, s' => K (.exit n) s'
  | .ret, s' => K .ret s'

def step (E : Env) (pins : List Nat) (C : CallT E) (N : Nat) (low : Code → St → (Ex → St → Option R) → Option R) (c : Code) : St → (Ex → St → Option R) → Option R :=
  stepI E pins C N (fun b s K => low b s (backK E pins b (fun s'' => low (.loop b) s'' K) K)) c

def exec (E : Env) (pins : List Nat) (C : Nat → CallT E) (N : Nat) : Nat → Code → St → (Ex → St → Option R) → Option R :=
  fun k => Nat.rec (motive := fun _ => Code → St → (Ex → St → Option R) → Option R) (fun _ _ _ => none) (fun k ih => step E pins (C k) N ih) k

def sub (c : Code) (p : List Nat) : Code :=
  List.rec (motive := fun _ => Code → Code) (fun c => c) (fun i _ ih c => match c with
    | .seq a b => match i with | 0 => ih a | _ => ih b
    | .cond _ a b => match i with | 0 => ih a | _ => ih b
    | .block _ b => ih b
    | .loop b => ih b
    | c => c) p c

end
end
end Go.AM

set_option linter.unusedVariables false
namespace Go.AM
noncomputable section
section
variable {R : Type}

/-- how many cells are handed in -/
def nio : List PM → Nat
  | [] => 0
  | .val _ _ :: ps => nio ps
  | .io _ :: ps => nio ps + 1

/-- the first state: arguments as temporaries; cells handed in are the objects 0, 1, .. -/
def startK : (ps : List PM) → (argK ps).T → (i c m : Nat) → (List (Nat × CV) → List (Nat × Option AObj) → Nat → Option R) → Option R
  | [], _, _, _, m, K => K [] [] m
  | .val κ agg :: ps, x, i, c, m, K => explodeO κ x.1 m fun ls u m => match cvLs agg ls with
    | some cv => startK ps x.2 (i + 1) c m fun tm hp m => K ((i, cv) :: tm) (hp ++ u) m
    | none => none
  | .io κ :: ps, x, i, c, m, K => explodeO κ x.1 m fun ls u m => startK ps x.2 (i + 1) (c + 1) m fun tm hp m =>
      K ((i, .one (.ptr c 0)) :: tm) (hp ++ ((c, some (.cell ls)) :: u)) m

def resultCV (E : Env) (s : St) : ResultVar → Option CV
  | .tmp t => some (look .undef s.tm t)
  | .cell a t => match look .undef s.tm a, E.tr t with
    | .one (.ptr n off), some r => match look none s.hp n with
      | some (.cell ls) => partCV r ls off
      | _ => none
    | _, _ => none

def resK' (E : Env) (s : St) : List ResultVar → (rs : List (Kind × Bool)) → ((resK rs).T → List (Nat × Option AObj) → List Nat → Option R) → Option R
  | [], [], K => K () [] []
  | v :: vs, p :: rs, K => match resultCV E s v with
    | some c => shareCVO (look none s.hp) p.1 p.2 c fun x u ns => resK' E s vs rs fun xs u' ns' => K (x, xs) (u' ++ u) (ns ++ ns')
    | none => none
  | _, _, _ => none

def outK' (s : St) : (ps : List PM) → (c : Nat) → ((outK ps).T → List (Nat × Option AObj) → List Nat → Option R) → Option R
  | [], _, K => K () [] []
  | .val _ _ :: ps, c, K => outK' s ps c K
  | .io κ :: ps, c, K => match look none s.hp c with
    | some (.cell ls) => shareO (look none s.hp) κ ls fun x ls u ns => match ls with
      | [] => outK' s ps (c + 1) fun xs u' ns' => K (x, xs) (u' ++ u) (ns ++ ns')
      | _ => none
    | _ => none

/-- the names of the cells handed in -/
def pinsOf : Nat → List Nat
  | 0 => []
  | n + 1 => pinsOf n ++ [n]

def retK (E : Env) (fn : Func) (sg : Sig) : Ex → St → Option sg.exK.T
  | .exit _, _ => none
  | _, s => resK' E s fn.results.toList sg.rs fun r u ns => outK' s sg.ps 0 fun x u' ns' => match nodupB (pinsOf (nio sg.ps) ++ (ns ++ ns')), disjB (u' ++ u) (ns ++ ns') with
    | true, true => some (r, x)
    | _, _ => none

def body (E : Env) (C : Nat → CallT E) (fn : Func) (k : Nat) (sg : Sig) (x : sg.inK.T) : Option sg.exK.T :=
  match fn.body with
  | some c => match Nat.ble sg.ps.length fn.ntmps with
    | true => startK sg.ps x 0 0 (nio sg.ps) fun tm hp nx => exec E (pinsOf (nio sg.ps)) C fn.ntmps k c ⟨tm, nx, hp⟩ (retK E fn sg)
    | false => none
  | none => none

/-- hints of a function -/
structure Hint where
  norm : List (Nat × Option (List Tmp))
  keep : List (Tmp × Bool)

@[reducible] def Env.under (E : Env) (h : Hint) : Env := { E with hint := h.norm, keep := h.keep }

/-- the functions by their codes; G: functions that are proved otherwise -/
def callD (E : Env) (Fn : List (Nat × Option (Func × Hint))) (G : CallT E) (d : Nat) : Nat → CallT E :=
  Nat.rec (motive := fun _ => Nat → CallT E) (fun _ _ _ => none) (fun _ ih k f x => match look none Fn f with
    | some p => body (E.under p.2) ih p.1 k (E.sig f) x
    | none => G f x) d
end
end
end Go.AM

set_option linter.unusedVariables false
set_option linter.unusedSimpArgs false
namespace Go.AM

section
variable {P : Program}

abbrev BinGood (P : Program) (op : BinOp) (t : TypeId) (x y : Value) {R : Type} (K : LV → Option R) (r : R) (w : World) (Y : Nat → Prop) : Prop :=
  ∃ (κ : Kind) (x' : κ.T) (v : Value), K (.of κ x') = some r ∧ Rep w Y κ x' [v] ∧ (Go.binOp op t x y).run P w = .ok v w

/-- integers: what the machine says is what the model does -/
theorem intOp_ok {R : Type} {op : BinOp} {k : IntKind} {a b : Int} {c : Bool} {K : LV → Option R} {r : R} (h : intOp op k a b c K = some r)
    (t : TypeId) (w : World) (Y : Nat → Prop) : BinGood P op t (.int k a) (.int k b) K r w Y := by
  have quo : op = .quo → b ≠ 0 → K (.of (.int k) (quoI k a b)) = some r → BinGood P op t (.int k a) (.int k b) K r w Y := fun ho hb hr =>
    ⟨.int k, quoI k a b, .int k (quoI k a b), hr, rfl, by subst ho; simp [Go.binOp, Op.intDiv, hb, quoI]⟩
  have rem : op = .rem → b ≠ 0 → K (.of (.int k) (a.tmod b)) = some r → BinGood P op t (.int k a) (.int k b) K r w Y := fun ho hb hr =>
    ⟨.int k, a.tmod b, .int k (a.tmod b), hr, rfl, by subst ho; simp [Go.binOp, Op.intDiv, hb]⟩
  unfold intOp at h
  cases op <;> simp only at h
  case quo =>
    cases c <;> simp only at h
    · by_cases hb : b = 0
      · simp [hb] at h
      · exact quo rfl hb (by simpa [hb] using h)
    · split at h
      · exact quo rfl (by simp; omega) h
      · exact quo rfl (by simp) h
      · cases h
  case rem =>
    cases c <;> simp only at h
    · by_cases hb : b = 0
      · simp [hb] at h
      · exact rem rfl hb (by simpa [hb] using h)
    · split at h
      · exact rem rfl (by simp; omega) h
      · exact rem rfl (by simp) h
      · cases h
  case shl => cases h
  case shr => cases h
  all_goals exact ⟨_, _, _, h, rfl, by simp [Go.binOp, Op.intArith, Op.intCmp, Op.intBits, bitI]⟩

theorem shiftOp_ok {R : Type} {op : BinOp} (ho : op = .shl ∨ op = .shr) {k k' : IntKind} {a b : Int} {c : Bool} {K : LV → Option R} {r : R} (h : shiftOp op k a b c K = some r)
    (t : TypeId) (w : World) (Y : Nat → Prop) : BinGood P op t (.int k a) (.int k' b) K r w Y := by
  unfold shiftOp at h
  rcases ho with rfl | rfl <;> simp only at h
  · have key : ∀ n : Nat, ¬ b < 0 → b.toNat = n → K (.of (.int k) (shlI k a n)) = some r → BinGood P .shl t (.int k a) (.int k' b) K r w Y := fun n hb hn hk =>
      ⟨_, _, _, hk, rfl, by simp [Go.binOp, Op.shift, hb, hn, shlI]⟩
    cases c <;> simp only at h
    · by_cases hb : b < 0
      · simp [hb] at h
      · exact key _ hb rfl (by simpa [hb] using h)
    · split at h
      · exact key _ (by simp) (by simp) h
      · cases h
  · have key : ∀ n : Nat, ¬ b < 0 → b.toNat = n → K (.of (.int k) (shrI k a n)) = some r → BinGood P .shr t (.int k a) (.int k' b) K r w Y := fun n hb hn hk =>
      ⟨_, _, _, hk, rfl, by simp [Go.binOp, Op.shift, hb, hn, shrI]⟩
    cases c <;> simp only at h
    · by_cases hb : b < 0
      · simp [hb] at h
      · exact key _ hb rfl (by simpa [hb] using h)
    · split at h
      · exact key _ (by simp) (by simp) h
      · cases h
end
end Go.AM

set_option linter.unusedVariables false
set_option linter.unusedSimpArgs false
namespace Go.AM

theorem look_cons {α : Type} (d : α) (n : Nat) (x : α) (l : List (Nat × α)) : look d ((n, x) :: l) = upd (look d l) n x := by
  funext t
  show (match Nat.beq n t with | true => x | false => look d l t) = if t = n then x else look d l t
  by_cases h : t = n
  · subst h
    simp
  · have : Nat.beq n t = false := by
      cases hb : Nat.beq n t
      · rfl
      · exact absurd (Nat.eq_of_beq_eq_true hb).symm h
    simp [this, h]

/-- the tables say what the program says -/
structure EnvOk (P : Program) (E : Env) : Prop where
  mixed : P.follows .mixedOrders = true
  eqs : ∀ t, look false E.eqs t = true → P.stoodInHeld t = false ∧ P.eqGuardType P.depth t = false ∧ ∀ fs : Array Field, P.underlying t = some (.struct fs) → ∀ f : Field, f ∈ fs.toList → f.name ≠ "_"
  known : ∀ f, look false E.known f = true → ∃ fn, P.funcs[f]? = some fn ∧ fn.body ≠ none ∧ fn.name ≠ "runtime.NumGoroutine"
  tr : ∀ t r, E.tr t = some r → P.underlying t = some r.d ∧ r.agg = r.d.isRow ∧ ∃ i, P.info? t = some i ∧ i.size = r.size ∧ i.bytes = r.bytes ∧
    ∃ z, i.zero = some z ∧ (z.cells.all (·.oneCell')) = true ∧ z.cells.size = r.size ∧ ∀ ρ U w Y, LReps ρ U w Y r.zero z.cells.toList
  int : ∀ t k, E.kind t = some (.int k) → P.underlying t = some (.int k)
  row : ∀ t e q te, E.kind t = some (.list e) → E.tr t = some q → q.d = .slice te → ∀ (w : World) (Y : Nat → Prop) (z : Value) (i : TypeInfo), P.info? te = some i → i.zero = some z →
    Rep w Y e e.dflt z.cells.toList

section
variable {P : Program} {E : Env} {R : Type} {ρ : Nat → Value} {U : Nat → Prop} {hp : List (Nat × Option AObj)} {w : World} {X Z : Nat → Prop}
  {a : Act} {o : Oper} {m : Nat} {K : CV → Ups → Option R} {r : R} {Q : Exit → Act → World → Prop}

def Post (ρ : Nat → Value) (U : Nat → Prop) (hp : List (Nat × Option AObj)) (w : World) (X Z : Nat → Prop) (a : Act) (o : Oper) (m : Nat)
    (K : CV → Ups → Option R) (r : R) : Act → World → Prop :=
  fun a' w' => ∃ v u v' ρ' U', K v u = some r ∧ a' = a.put o.dst v' ∧ Nx ρ ρ' U U' (look none hp) (look none (u ++ hp)) w w' ∧
    Hp Z ρ' U' (look none (u ++ hp)) w' X ∧ CRep ρ' U' w' (Own ρ' (look none (u ++ hp)) X) v v' ∧ ∀ n, U' n → U n ∨ (m ≤ n ∧ n < m + 16)

theorem wp_value {next : Act → World → Prop} {v' : Value} {w' : World} (h : (execOp a.eval o).run P w = .ok (.value v') w') (hn : next (a.put o.dst v') w') : o.wp P a w next Q := by
  unfold Oper.wp; rw [h]; exact hn

theorem wp_skip' {next : Act → World → Prop} {w' : World} (h : (execOp a.eval o).run P w = .ok .skip w') (hn : next (a.put o.dst undef) w') : o.wp P a w next Q := by
  unfold Oper.wp; rw [h]; exact hn

/-- an operation that leaves the heap alone -/
theorem stay {v : CV} {v' : Value} (hH : Hp Z ρ U (look none hp) w X) (hk : K v [] = some r) (hr : CRep ρ U w (Own ρ (look none hp) X) v v')
    (hrun : (execOp a.eval o).run P w = .ok (.value v') w) : o.wp P a w (Post ρ U hp w X Z a o m K r) Q :=
  wp_value hrun ⟨v, [], v', ρ, U, hk, rfl, Nx.refl, hH, hr, fun n hn => .inl hn⟩

theorem one_of {Y : Nat → Prop} {κ : Kind} {x : κ.T} {v : Value} (h : Rep w Y κ x [v]) : CRep ρ U w Y (.one (.of κ x)) v := by
  simpa [CRep, LRep] using h

theorem of_one {Y : Nat → Prop} {κ : Kind} {x : κ.T} {v : Value} (h : CRep ρ U w Y (.one (.of κ x)) v) : Rep w Y κ x [v] := by
  simpa [CRep, LRep] using h

theorem int_of {Y : Nat → Prop} {k : IntKind} {n : Int} {v : Value} (h : CRep ρ U w Y (.one (.of (.int k) n)) v) : v = .int k n := by
  have := of_one h
  simpa [Rep] using this

theorem bool_of {Y : Nat → Prop} {b : Bool} {v : Value} (h : CRep ρ U w Y (.one (.of .bool b)) v) : v = .bool b := by
  have := of_one h
  simpa [Rep] using this

theorem str_of {Y : Nat → Prop} {b : List UInt8} {v : Value} (h : CRep ρ U w Y (.one (.of .str b)) v) : v = .string (strOf b) := by
  have := of_one h
  simpa [Rep] using this

theorem eqGuard_int (op : BinOp) (t : TypeId) (x y : Operand) (k k' : IntKind) (p q : Int) : (eqGuard op t x y (.int k p) (.int k' q)).run P w = .ok () w := by
  unfold eqGuard; cases op <;> simp

theorem eqGuard_bool (op : BinOp) (t : TypeId) (x y : Operand) (p q : Bool) : (eqGuard op t x y (.bool p) (.bool q)).run P w = .ok () w := by
  unfold eqGuard; cases op <;> simp

theorem op_unOp {op : UnOp} {t : TypeId} {x : Operand} {c : CV} (ho : o.op = .unOp op t x) (hH : Hp Z ρ U (look none hp) w X)
    (hx : CRep ρ U w (Own ρ (look none hp) X) c (a.eval x)) (h : unCV op c (fun c => K c []) = some r) : o.wp P a w (Post ρ U hp w X Z a o m K r) Q := by
  unfold unCV at h
  split at h
  · exact stay hH h (one_of (show Rep _ _ .bool _ [.bool _] from rfl)) (by simp [execOp, ho, bool_of hx, Op.unary])
  · exact stay hH h (one_of (show Rep _ _ (.int _) _ [.int _ _] from rfl)) (by simp [execOp, ho, int_of hx, Op.unary, Op.intArith])
  · exact stay hH h (one_of (show Rep _ _ (.int _) _ [.int _ _] from rfl)) (by simp [execOp, ho, int_of hx, Op.unary, Op.intBits, bitI])
  · cases h

theorem op_convert {s d : TypeId} {x : Operand} {k k' : IntKind} {n : Int} (hE : EnvOk P E) (ho : o.op = .convert s d x) (hH : Hp Z ρ U (look none hp) w X)
    (hd : E.kind d = some (.int k)) (hx : CRep ρ U w (Own ρ (look none hp) X) (.one (.of (.int k') n)) (a.eval x)) (hs : ∃ ds, P.underlying s = some ds)
    (h : K (.one (.of (.int k) (k.wrap n))) [] = some r) : o.wp P a w (Post ρ U hp w X Z a o m K r) Q := by
  obtain ⟨ds, hs⟩ := hs
  refine stay hH h (one_of (show Rep _ _ (.int _) _ [.int _ _] from rfl)) ?_
  simp [execOp, ho, int_of hx, convert, run_underlying hs, run_underlying (hE.int _ _ hd), Conv.intToInt]

theorem op_binInt {op : BinOp} {t u : TypeId} {x y : Operand} {k k' : IntKind} {p q : Int} {c : Bool} (ho : o.op = .binOp op t x y u) (hH : Hp Z ρ U (look none hp) w X)
    (hx : CRep ρ U w (Own ρ (look none hp) X) (.one (.of (.int k) p)) (a.eval x)) (hy : CRep ρ U w (Own ρ (look none hp) X) (.one (.of (.int k') q)) (a.eval y))
    (h : binCV op (.one (.of (.int k) p)) (.one (.of (.int k') q)) c (fun c => K c []) = some r) : o.wp P a w (Post ρ U hp w X Z a o m K r) Q := by
  have fin : BinGood P op t (.int k p) (.int k' q) (fun l => K (.one l) []) r w (Own ρ (look none hp) X) → o.wp P a w (Post ρ U hp w X Z a o m K r) Q := by
    rintro ⟨κ, x', v, hk, hr, hrun⟩
    exact stay hH hk (one_of hr) (by simp [execOp, ho, int_of hx, int_of hy, eqGuard_int, hrun])
  unfold binCV at h
  simp only at h
  split at h
  · exact fin (shiftOp_ok (.inl rfl) h t w _)
  · exact fin (shiftOp_ok (.inr rfl) h t w _)
  · split at h
    · rename_i hkk _
      subst hkk
      exact fin (intOp_ok h t w _)
    · cases h

theorem op_extract {x : Operand} {i : Nat} {cs : List CV} {c : CV} (ho : o.op = .extract x i) (hH : Hp Z ρ U (look none hp) w X)
    (hx : CRep ρ U w (Own ρ (look none hp) X) (.tup cs) (a.eval x)) (hi : cs[i]? = some c) (h : K c [] = some r) : o.wp P a w (Post ρ U hp w X Z a o m K r) Q := by
  simp only [CRep] at hx
  obtain ⟨vs, hv, hr⟩ := hx
  have key : ∀ {cs : List CV} {vs : List Value} {i : Nat}, CReps ρ U w (Own ρ (look none hp) X) cs vs → cs[i]? = some c → ∃ v, vs[i]? = some v ∧ CRep ρ U w (Own ρ (look none hp) X) c v := by
    intro cs
    induction cs with
    | nil => intro vs i _ h; simp at h
    | cons d cs ih =>
      intro vs i hr hi
      simp only [CReps] at hr
      obtain ⟨v, vs', h1, h2, h3⟩ := hr
      subst h1
      cases i with
      | zero => simp only [List.getElem?_cons_zero, Option.some.injEq] at hi; subst hi; exact ⟨v, rfl, h2⟩
      | succ i => simp only [List.getElem?_cons_succ] at hi ⊢; exact ih h3 hi
  obtain ⟨v, hv', hr'⟩ := key hr hi
  exact stay hH h hr' (by simp [execOp, ho, hv, Instr.extract, hv'])
end
end Go.AM

set_option linter.unusedVariables false
set_option linter.unusedSimpArgs false
namespace Go.AM

theorem takeL_eq {α : Type} : ∀ (n : Nat) (l : List α), takeL n l = l.take n
  | 0, l => by simp [takeL]
  | n + 1, [] => by simp [takeL]
  | n + 1, x :: l => by simp [takeL, takeL_eq n l]

theorem dropL_eq {α : Type} : ∀ (n : Nat) (l : List α), dropL n l = l.drop n
  | 0, l => by simp [dropL]
  | n + 1, [] => by simp [dropL]
  | n + 1, x :: l => by simp [dropL, dropL_eq n l]

theorem okLs_mem {ls : List LV} (h : okLs ls = true) : ∀ l ∈ ls, okL l = true := by
  induction ls with
  | nil => intro l hl; cases hl
  | cons x ls ih =>
    have h' : (match okL x with | true => okLs ls | false => false) = true := h
    cases hx : okL x <;> rw [hx] at h'
    · cases h'
    · intro l hl
      rcases List.mem_cons.1 hl with rfl | hl
      · exact hx
      · exact ih h' l hl

section
variable {ρ : Nat → Value} {U : Nat → Prop} {w : World} {Y : Nat → Prop}

theorem LReps.length : ∀ {ls : List LV} {vs : List Value}, LReps ρ U w Y ls vs → vs.length = ls.length
  | [], _, h => by rw [show _ = _ from h]; rfl
  | l :: ls, vs, h => by
    obtain ⟨v, vs', h1, h2, h3⟩ := h
    rw [h1, List.length_cons, List.length_cons, LReps.length h3]

theorem LReps.drop : ∀ (n : Nat) {ls : List LV} {vs : List Value}, LReps ρ U w Y ls vs → LReps ρ U w Y (ls.drop n) (vs.drop n)
  | 0, _, _, h => h
  | n + 1, [], vs, h => by rw [show _ = _ from h]; rfl
  | n + 1, l :: ls, vs, h => by
    obtain ⟨v, vs', h1, h2, h3⟩ := h
    rw [h1]
    exact LReps.drop n h3

theorem LReps.take : ∀ (n : Nat) {ls : List LV} {vs : List Value}, LReps ρ U w Y ls vs → LReps ρ U w Y (ls.take n) (vs.take n)
  | 0, _, _, h => rfl
  | n + 1, [], vs, h => by rw [show _ = _ from h]; rfl
  | n + 1, l :: ls, vs, h => by
    obtain ⟨v, vs', h1, h2, h3⟩ := h
    rw [h1]
    exact ⟨v, vs'.take n, rfl, h2, LReps.take n h3⟩

theorem LReps.append : ∀ {ls ls' : List LV} {vs vs' : List Value}, LReps ρ U w Y ls vs → LReps ρ U w Y ls' vs' → LReps ρ U w Y (ls ++ ls') (vs ++ vs')
  | [], _, _, _, h, h' => by rw [show _ = _ from h]; exact h'
  | l :: ls, ls', vs, vs', h, h' => by
    obtain ⟨v, vs1, h1, h2, h3⟩ := h
    rw [h1]
    exact ⟨v, vs1 ++ vs', rfl, h2, LReps.append h3 h'⟩

theorem Rep.one_cell : ∀ {κ : Kind} {x : κ.T} {vs : List Value}, Rep w Y κ x vs → ∀ v ∈ vs, v.oneCell' = true
  | .int _, _, _, h => by rw [show _ = _ from h]; intro v hv; simp at hv; subst hv; rfl
  | .bool, _, _, h => by rw [show _ = _ from h]; intro v hv; simp at hv; subst hv; rfl
  | .str, _, _, h => by rw [show _ = _ from h]; intro v hv; simp at hv; subst hv; rfl
  | .unit, _, _, h => by rw [show _ = _ from h]; intro v hv; cases hv
  | .fn, _, _, h => by rw [show _ = _ from h]; intro v hv; simp at hv; subst hv; rfl
  | .own _ _, _, _, h => h.elim
  | .cel _, _, _, h => h.elim
  | .ownc _ _, _, _, h => h.elim
  | .list e, l, vs, h => by obtain ⟨a, cap, h1, _⟩ := h; rw [h1]; intro v hv; simp at hv; subst hv; rfl
  | .ref e, x, vs, h => by obtain ⟨b, o, h1, _⟩ := h; rw [h1]; intro v hv; simp at hv; subst hv; rfl
  | .pair a b, x, vs, h => by
    obtain ⟨us, us', h1, h2, h3⟩ := h
    rw [h1]
    intro v hv
    rcases List.mem_append.1 hv with hv | hv
    · exact Rep.one_cell h2 v hv
    · exact Rep.one_cell h3 v hv


theorem LRep.one_cell (hp : Plain ρ U) {l : LV} {v : Value} (h : LRep ρ U w Y l v) (ho : okL l = true) : v.oneCell' = true := by
  cases l with
  | of κ x => exact Rep.one_cell (show Rep w Y κ x [v] from h) v (by simp)
  | raw u => rw [show v = u from h]; exact ho
  | ptr n off => obtain ⟨_, b, _, h2⟩ := h; rw [h2]; rfl
  | view n => obtain ⟨h1, h2⟩ := h; rw [h2]; exact hp n h1
  | rptr n i sz => obtain ⟨_, g, len, cap, _, _, h2⟩ := h; rw [h2]; rfl
  | any => cases ho

theorem LReps.one_cell (hp : Plain ρ U) : ∀ {ls : List LV} {vs : List Value}, LReps ρ U w Y ls vs → okLs ls = true → ∀ v ∈ vs, v.oneCell' = true
  | [], _, h, _ => by rw [show _ = _ from h]; intro v hv; cases hv
  | l :: ls, vs, h, ho => by
    obtain ⟨v, vs', h1, h2, h3⟩ := h
    rw [h1]
    have hm := okLs_mem ho
    have ho' : okLs ls = true := by
      have h' : (match okL l with | true => okLs ls | false => false) = true := ho
      rw [hm l (by simp)] at h'
      exact h'
    intro u hu
    rcases List.mem_cons.1 hu with rfl | hu
    · exact LRep.one_cell hp h2 (hm l (by simp))
    · exact LReps.one_cell hp h3 ho' u hu

theorem cells_one {v : Value} (h : v.oneCell' = true) : v.cells = #[v] := by
  cases v <;> first | rfl | cases h

/-- what is boxed or stored -/
theorem leavesOf_rep (hp : Plain ρ U) {c : CV} {ls : List LV} {v : Value} (hl : leavesOf c = some ls) (ho : okLs ls = true) (h : CRep ρ U w Y c v) :
    LReps ρ U w Y ls v.cells.toList ∧ ∀ u ∈ v.cells.toList, u.oneCell' = true := by
  unfold leavesOf at hl
  split at hl
  · simp only [Option.some.injEq] at hl
    subst hl
    rename_i l
    have h' : LRep ρ U w Y l v := by simpa [CRep] using h
    have h1 := LRep.one_cell hp h' (okLs_mem ho _ (by simp))
    rw [cells_one h1]
    exact ⟨⟨v, [], rfl, h', rfl⟩, fun u hu => by simp at hu; subst hu; exact h1⟩
  · simp only [Option.some.injEq] at hl
    subst hl
    simp only [CRep] at h
    obtain ⟨vs, h1, h2⟩ := h
    subst h1
    exact ⟨by simpa [Value.cells] using h2, fun u hu => LReps.one_cell hp h2 ho u (by simpa [Value.cells] using hu)⟩
  · cases hl
end

section
variable {P : Program}

theorem run_storeAt (w : World) (b off : Nat) (t ty : TypeId) (cur : Array Value) (v : Value) (hg : w.heap[b]? = some (.cells cur t (0, 0)))
    (hi : (P.info? ty).map (·.size) = some v.cells.size) (hfit : off + v.cells.size ≤ cur.size) (h1 : ∀ u ∈ v.cells.toList, u.oneCell' = true) :
    (Instr.storeAt ty (.pointer (some ⟨b, off, none⟩)) v).run P w =
      .ok () (w.setRow b (cur.toList.take off ++ v.cells.toList ++ cur.toList.drop (off + v.cells.size)).toArray) := by
  have hst := run_storeCells_at P b off t v.cells.toList 0 cur w hg (by simpa using hfit) h1
  simp only [Nat.add_zero, Array.length_toList] at hst
  cases hq : P.info? ty with
  | none => simp [hq] at hi
  | some i =>
    have hs : v.cells.size = i.size := by simp [hq] at hi; omega
    simp [Instr.storeAt, Instr.sureAddr, storeVar, sizeOf, typeInfo, hq, hs]
    rw [← hs]
    simpa using hst

theorem run_loadAt_one (w : World) (b off : Nat) (ty : TypeId) (d : TypeDesc) (v : Value) (hu : P.underlying ty = some d) (hd : d.isRow = false)
    (hc : w.cell? ⟨b, off, none⟩ = some v) : (Instr.loadAt ty (.pointer (some ⟨b, off, none⟩))).run P w = .ok v w := by
  have hagg : (isAgg ty).run P w = .ok false w := by
    unfold isAgg
    rw [Sem.run_bind, run_underlying hu w]
    cases d <;> simp_all
  simp [Instr.loadAt, Instr.sureAddr, loadVar, hagg, hc]
end
end Go.AM

set_option linter.unusedVariables false
set_option linter.unusedSimpArgs false
namespace Go.AM
section
variable {ρ : Nat → Value} {U : Nat → Prop} {ob : Nat → Option AObj} {w w' : World} {X Z : Nat → Prop}

theorem Gr.setRow {w : World} {b : Nat} {cs : Array Value} : Gr w (w.setRow b cs) := ⟨by simp, rfl, rfl, rfl⟩

theorem Hp.nx_new (h : Hp Z ρ U ob w X) {m : Nat} (hm : ¬ U m) (o : AObj) {v : Value} (hsz : Gr w w')
    (hk : ∀ b, b < w.heap.size → w'.heap[b]? = w.heap[b]?) (hv : ∀ g, blk v = some g → w.heap.size ≤ g) :
    Nx ρ (upd ρ m v) U (fun n => U n ∨ n = m) ob (upd ob m (some o)) w w' := by
  refine ⟨hsz, fun b hb _ => hk b hb, fun b hb hl => ?_, fun n hn => .inl hn, fun n hn => upd_other _ _ (fun e => hm (e ▸ hn))⟩
  obtain ⟨n, o', h1, h2, h3⟩ := hl
  by_cases e : n = m
  · subst e
    rw [upd_same] at h3
    exact absurd hb (Nat.not_lt.2 (hv b h3))
  · rw [upd_other _ _ e] at h1 h3
    exact ⟨n, o', h1, h2, h3⟩

theorem Hp.nx_set (h : Hp Z ρ U ob w X) {n : Nat} {o : AObj} (o1 : AObj) (hn : ob n = some o) (ho : o.owned = true)
    (hsz : Gr w w') (hk : ∀ b, b < w.heap.size → blk (ρ n) ≠ some b → w'.heap[b]? = w.heap[b]?) :
    Nx ρ ρ U U ob (upd ob n (some o1)) w w' := by
  refine ⟨hsz, fun b hb hl => hk b hb fun e => hl ⟨n, o, hn, ho, e⟩, fun b hb hl => ?_, fun _ h => h, fun _ _ => rfl⟩
  obtain ⟨k, o', h1, h2, h3⟩ := hl
  by_cases e : k = n
  · subst e; exact ⟨k, o, hn, ho, h3⟩
  · rw [upd_other _ _ e] at h1; exact ⟨k, o', h1, h2, h3⟩

theorem Hp.nx_app (h : Hp Z ρ U ob w X) {n m : Nat} {o : AObj} (o1 : AObj) {v : Value} (hn : ob n = some o) (ho : o.owned = true) (hm : ¬ U m)
    (hsz : Gr w w') (hk : ∀ b, b < w.heap.size → blk (ρ n) ≠ some b → w'.heap[b]? = w.heap[b]?)
    (hv : ∀ g, blk v = some g → blk (ρ n) = some g ∨ w.heap.size ≤ g) :
    Nx ρ (upd ρ m v) U (fun k => U k ∨ k = m) ob (upd (upd ob n none) m (some o1)) w w' := by
  refine ⟨hsz, fun b hb hl => hk b hb fun e => hl ⟨n, o, hn, ho, e⟩, fun b hb hl => ?_, fun _ h => .inl h, fun k hk' => upd_other _ _ (fun e => hm (e ▸ hk'))⟩
  obtain ⟨k, o', h1, h2, h3⟩ := hl
  by_cases e : k = m
  · subst e
    rw [upd_same] at h3
    rcases hv b h3 with h8 | h8
    · exact ⟨n, o, hn, ho, h8⟩
    · exact absurd hb (Nat.not_lt.2 h8)
  · rw [upd_other _ _ e] at h1 h3
    by_cases e' : k = n
    · subst e'; rw [upd_same] at h1; cases h1
    · rw [upd_other _ _ e'] at h1; exact ⟨k, o', h1, h2, h3⟩
end

section
variable {P : Program} {E : Env} {R : Type} {ρ : Nat → Value} {U : Nat → Prop} {hp : List (Nat × Option AObj)} {w : World} {X Z : Nat → Prop}
  {a : Act} {o : Oper} {m : Nat} {K : CV → Ups → Option R} {r : R} {Q : Exit → Act → World → Prop}

theorem look_one (n : Nat) (x : Option AObj) : look none ([(n, x)] ++ hp) = upd (look none hp) n x := look_cons none n x hp

/-- a variable is made -/
theorem make_cell {ls : List LV} {vs : List Value} {t : TypeId} (hH : Hp Z ρ U (look none hp) w X) (hm : ¬ U m)
    (hl : ∀ ρ' U' w' Y', Later ρ ρ' U U' w w' (Own ρ (look none hp) X) Y' → LReps ρ' U' w' Y' ls vs)
    (hrun : (execOp a.eval o).run P w = .ok (.value (.pointer (some ⟨w.heap.size, 0, none⟩))) (w.alloc (.cells vs.toArray t)))
    (h : K (.one (.ptr m 0)) [(m, some (.cell ls))] = some r) : o.wp P a w (Post ρ U hp w X Z a o m K r) Q := by
  have hk : ∀ b, b < w.heap.size → (w.alloc (.cells vs.toArray t)).heap[b]? = w.heap[b]? := fun b hb => heap_alloc_old w _ b hb
  have hv : ∀ g, blk (.pointer (some ⟨w.heap.size, 0, none⟩)) = some g → w.heap.size ≤ g := fun g hg => by simp [blk] at hg; omega
  have hx := hH.nx_new (w' := w.alloc (.cells vs.toArray t)) hm (.cell ls) (v := .pointer (some ⟨w.heap.size, 0, none⟩)) Gr.alloc hk hv
  have hH' := (hH.new (w' := w.alloc (.cells vs.toArray t)) hm (o := .cell ls) (v := .pointer (some ⟨w.heap.size, 0, none⟩)) Gr.alloc hk hv rfl
    ⟨w.heap.size, t, vs, rfl, heap_alloc_new w _, hl _ _ _ _ hx.later⟩).2
  refine wp_value hrun ⟨_, _, _, upd ρ m (.pointer (some ⟨w.heap.size, 0, none⟩)), fun n => U n ∨ n = m, h, rfl, ?_, ?_, ?_, fun n hn => hn.imp id fun h => ⟨by omega, by omega⟩⟩
  · rw [look_one]; exact hx
  · rw [look_one]; exact hH'
  · simp only [CRep, LRep]
    exact ⟨by simp, w.heap.size, by rw [upd_same], rfl⟩

theorem op_box {t : TypeId} {x : Operand} {c : CV} {ls : List LV} (ho : o.op = .box t x) (hH : Hp Z ρ U (look none hp) w X) (hm : ¬ U m)
    (hx : CRep ρ U w (Own ρ (look none hp) X) c (a.eval x)) (hl : leavesOf c = some ls) (hok : okLs ls = true)
    (h : K (.one (.ptr m 0)) [(m, some (.cell ls))] = some r) : o.wp P a w (Post ρ U hp w X Z a o m K r) Q :=
  make_cell (t := t) hH hm (fun _ _ _ _ hl' => LReps.later hl' (leavesOf_rep hH.plain hl hok hx).1)
    (by simp [execOp, ho, Instr.box, newVar, newRow]) h

theorem op_alloc {t : TypeId} {q : TR} (hE : EnvOk P E) (ho : o.op = .alloc t) (hH : Hp Z ρ U (look none hp) w X) (hm : ¬ U m) (ht : E.tr t = some q)
    (h : K (.one (.ptr m 0)) [(m, some (.cell q.zero))] = some r) : o.wp P a w (Post ρ U hp w X Z a o m K r) Q := by
  obtain ⟨h1, h2, i, h3, h4, h5, z, h6, h7, h8, h9⟩ := hE.tr t q ht
  exact make_cell (t := t) hH hm (fun _ _ _ _ _ => h9 _ _ _ _) (by simp [execOp, ho, Instr.alloc, newVar, newRow, zeroValue, typeInfo, h3, h6]) h

/-- a part of a struct, or a variable read -/
theorem part_rep {q : TR} {ls : List LV} {vs : List Value} {off : Nat} {c : CV} {Y : Nat → Prop} (hr : LReps ρ U w Y ls vs) (hc : partCV q ls off = some c) :
    (q.agg = true ∧ ((vs.drop off).take q.size).length = q.size ∧ CRep ρ U w Y c (.agg ((vs.drop off).take q.size).toArray)) ∨
    (q.agg = false ∧ ∃ v, vs[off]? = some v ∧ CRep ρ U w Y c v) := by
  unfold partCV at hc
  cases hq : q.agg <;> rw [hq] at hc <;> simp only at hc
  · right
    refine ⟨rfl, ?_⟩
    have hd := LReps.drop off hr
    rw [dropL_eq] at hc
    split at hc
    · rename_i l rest e
      simp only [Option.some.injEq] at hc
      subst hc
      rw [e] at hd
      obtain ⟨v, vs', h1, h2, h3⟩ := hd
      refine ⟨v, ?_, by simpa [CRep] using h2⟩
      have : (vs.drop off)[0]? = some v := by rw [h1]; rfl
      simpa using this
    · cases hc
  · left
    rw [dropL_eq, takeL_eq] at hc
    have hd := LReps.take q.size (LReps.drop off hr)
    split at hc
    · rename_i e
      simp only [Option.some.injEq] at hc
      subst hc
      refine ⟨rfl, ?_, by simp only [CRep]; exact ⟨_, rfl, hd⟩⟩
      rw [hd.length]
      exact Nat.eq_of_beq_eq_true e
    · cases hc

theorem op_load_cell {t : TypeId} {x : Operand} {n off : Nat} {q : TR} {ls : List LV} {c : CV} (hE : EnvOk P E) (ho : o.op = .load t x) (hH : Hp Z ρ U (look none hp) w X)
    (hx : CRep ρ U w (Own ρ (look none hp) X) (.one (.ptr n off)) (a.eval x)) (ht : E.tr t = some q) (hn : look none hp n = some (.cell ls))
    (hc : partCV q ls off = some c) (h : K c [] = some r) : o.wp P a w (Post ρ U hp w X Z a o m K r) Q := by
  obtain ⟨h1, h2, i, h3, h4, _⟩ := hE.tr t q ht
  simp only [CRep, LRep] at hx
  obtain ⟨_, b, hb, hv⟩ := hx
  obtain ⟨b', t', vs, hb', hg, hr⟩ := hH.objs n _ hn
  rw [hb] at hb'
  simp only [Value.pointer.injEq, Option.some.injEq, Addr.mk.injEq, and_true] at hb'
  subst hb'
  have hcell : ∀ j, w.cell? ⟨b, j, none⟩ = vs[j]? := fun j => by simp [World.cell?, hg]
  rcases part_rep hr hc with ⟨hq, hlen, hcr⟩ | ⟨hq, v, hv', hcr⟩
  · refine stay hH h hcr ?_
    have := run_loadAt_mid (P := P) w b off t ((vs.drop off).take q.size) q.d (fun j v hj => by
      rw [hcell]
      rw [List.getElem?_take] at hj
      split at hj
      · simpa using hj
      · cases hj) h1 (by rw [← h2, hq]) (by simp [h3, h4, hlen])
    simp [execOp, ho, hv, this]
  · refine stay hH h hcr ?_
    have := run_loadAt_one (P := P) w b off t q.d v h1 (by rw [← h2, hq]) (by rw [hcell]; exact hv')
    simp [execOp, ho, hv, this]

theorem op_store_cell {t : TypeId} {x y : Operand} {n off : Nat} {q : TR} {ls new : List LV} {c : CV} (hE : EnvOk P E) (ho : o.op = .store t x y) (hH : Hp Z ρ U (look none hp) w X)
    (hx : CRep ρ U w (Own ρ (look none hp) X) (.one (.ptr n off)) (a.eval x)) (hy : CRep ρ U w (Own ρ (look none hp) X) c (a.eval y)) (hl : leavesOf c = some new)
    (hok : okLs new = true) (ht : E.tr t = some q) (hn : look none hp n = some (.cell ls)) (hlen : new.length = q.size) (hfit : off + q.size ≤ ls.length)
    (h : K .undef [(n, some (.cell (takeL off ls ++ new ++ dropL (off + q.size) ls)))] = some r) : o.wp P a w (Post ρ U hp w X Z a o m K r) Q := by
  obtain ⟨h1, h2, i, h3, h4, _⟩ := hE.tr t q ht
  simp only [CRep, LRep] at hx
  obtain ⟨_, b, hb, hv⟩ := hx
  obtain ⟨b', t', vs, hb', hg, hr⟩ := hH.objs n _ hn
  rw [hb] at hb'
  simp only [Value.pointer.injEq, Option.some.injEq, Addr.mk.injEq, and_true] at hb'
  subst hb'
  obtain ⟨hn1, hn2⟩ := leavesOf_rep hH.plain hl hok hy
  have hnl : (a.eval y).cells.size = q.size := by have := hn1.length; simp at this; omega
  have hvl := hr.length
  have hst := run_storeAt (P := P) w b off t' t vs.toArray (a.eval y) hg (by simp [h3, h4, hnl]) (by simp; omega) hn2
  rw [hnl] at hst
  have hbn : blk (ρ n) = some b := by rw [hb]; rfl
  have hk : ∀ g, g < w.heap.size → blk (ρ n) ≠ some g → (w.setRow b (vs.take off ++ (a.eval y).cells.toList ++ vs.drop (off + q.size)).toArray).heap[g]? = w.heap[g]? :=
    fun g _ hne => setRow_other w b g _ (fun e => hne (e ▸ hbn))
  have hx' := hH.nx_set (w' := w.setRow b (vs.take off ++ (a.eval y).cells.toList ++ vs.drop (off + q.size)).toArray) (.cell (takeL off ls ++ new ++ dropL (off + q.size) ls)) hn rfl Gr.setRow hk
  have hH' := (hH.set (w' := w.setRow b (vs.take off ++ (a.eval y).cells.toList ++ vs.drop (off + q.size)).toArray) (o1 := .cell (takeL off ls ++ new ++ dropL (off + q.size) ls)) hn rfl Gr.setRow hk
    ⟨b, t', _, hb, setRow_heap w b vs.toArray _ t' (0, 0) hg, by
      have := LReps.later hx'.later (((LReps.take off hr).append hn1).append (LReps.drop (off + q.size) hr))
      simpa only [takeL_eq, dropL_eq] using this⟩).2
  refine wp_skip' (w' := w.setRow b (vs.take off ++ (a.eval y).cells.toList ++ vs.drop (off + q.size)).toArray) ?_ ⟨_, _, _, ρ, U, h, rfl, ?_, ?_, ?_, fun n hn => .inl hn⟩
  · simp only [execOp, ho, hv]
    simp only [Sem.run_bind, hst]
    rfl
  · rw [look_one]; exact hx'
  · rw [look_one]; exact hH'
  · simp [CRep]
end
end Go.AM

set_option linter.unusedVariables false
set_option linter.unusedSimpArgs false
namespace Go.AM
section
variable {ρ : Nat → Value} {U : Nat → Prop} {w : World} {Y : Nat → Prop}

theorem Elems.length {κ : Kind} : ∀ {l : List κ.T} {vs : List Value}, Elems w Y κ l vs → vs.length = l.length * κ.size
  | [], _, h => by rw [show _ = _ from h]; simp
  | x :: l, vs, h => by
    obtain ⟨us, vs', h1, h2, h3⟩ := h
    rw [h1, List.length_append, Rep.length h2, Elems.length h3, List.length_cons, Nat.add_mul]
    omega

theorem Elems.one_cell {κ : Kind} : ∀ {l : List κ.T} {vs : List Value}, Elems w Y κ l vs → ∀ v ∈ vs, v.oneCell' = true
  | [], _, h => by rw [show _ = _ from h]; intro v hv; cases hv
  | x :: l, vs, h => by
    obtain ⟨us, vs', h1, h2, h3⟩ := h
    rw [h1]
    intro v hv
    rcases List.mem_append.1 hv with hv | hv
    · exact Rep.one_cell h2 v hv
    · exact Elems.one_cell h3 v hv

/-- the cells of a list, one behind the other -/
theorem elems_of {κ : Kind} {g : Nat} : ∀ {l : List κ.T} {o : Nat}, (∀ i x, l[i]? = some x → ∃ cs, Rep w Y κ x cs ∧ CellsAt w g (o + i * κ.size) cs) →
    ∃ vs, Elems w Y κ l vs ∧ CellsAt w g o vs
  | [], o, _ => ⟨[], rfl, fun j c hj => by simp at hj⟩
  | x :: l, o, h => by
    obtain ⟨cs, h1, h2⟩ := h 0 x rfl
    obtain ⟨vs, h3, h4⟩ := elems_of (l := l) (o := o + κ.size) (fun i y hi => by
      obtain ⟨cs', h5, h6⟩ := h (i + 1) y (by simpa using hi)
      exact ⟨cs', h5, by rw [Nat.add_mul, Nat.one_mul] at h6; rw [show o + κ.size + i * κ.size = o + (i * κ.size + κ.size) by omega]; exact h6⟩)
    refine ⟨cs ++ vs, ⟨cs, vs, rfl, h1, h3⟩, fun j c hj => ?_⟩
    have hl := Rep.length h1
    by_cases hlt : j < cs.length
    · rw [List.getElem?_append_left hlt] at hj
      have := h2 j c hj
      simpa using this
    · rw [List.getElem?_append_right (by omega)] at hj
      have := h4 _ c hj
      rw [hl] at this
      rwa [show o + κ.size + (j - κ.size) = o + j by omega] at this

theorem addr_add (b o j : Nat) : (⟨b, o, none⟩ : Addr).add j = ⟨b, o + j, none⟩ := Addr.add_mid b o j

/-- where a list's cells lie -/
theorem Rep.list_cells {e : Kind} {l : List e.T} {v : Value} (h : Rep w Y (.list e) l [v]) :
    ∃ a cap vs, v = .slice a l.length cap ∧ l.length ≤ cap ∧ Elems w Y e l vs ∧ (a = none → l = []) ∧
      (∀ a', a = some a' → ∀ j u, vs[j]? = some u → w.cell? (a'.add j) = some u) := by
  obtain ⟨a, cap, h1, h2, h3, h4⟩ := h
  simp only [List.cons.injEq, and_true] at h1
  cases a with
  | none => obtain rfl := h3 rfl; exact ⟨none, cap, [], h1, h2, rfl, fun _ => rfl, fun a' ha => by cases ha⟩
  | some a =>
    obtain ⟨h5, h6, h7, h8⟩ := h4 a rfl
    obtain ⟨b, o, sp⟩ := a
    simp only at h5
    subst h5
    obtain ⟨vs, h9, h10⟩ := elems_of (o := o) h8
    refine ⟨_, cap, vs, h1, h2, h9, fun ha => (by cases ha), fun a' ha j u hj => ?_⟩
    simp only [Option.some.injEq] at ha
    subst ha
    rw [addr_add]
    exact h10 j u hj

theorem ORep.row_cells {e : TypeId} {κ : Kind} {l : List κ.T} {v : Value} (h : ORep ρ U w Y (.row e κ l) v) :
    ∃ a cap vs, v = .slice a l.length cap ∧ l.length ≤ cap ∧ Elems w Y κ l vs ∧ (a = none → l = []) ∧
      (∀ a', a = some a' → ∀ j u, vs[j]? = some u → w.cell? (a'.add j) = some u) := by
  obtain ⟨vs, h1, h3⟩ := h
  have h1' := h1
  rcases h1.2 with ⟨rfl, h0⟩ | ⟨g, cap, cur, rfl, _, hg, hn', _, hsz, htake⟩
  · exact ⟨none, 0, vs, by rw [h0], by omega, h3, fun _ => List.eq_nil_of_length_eq_zero h0, fun a' ha => by cases ha⟩
  · refine ⟨_, cap, vs, rfl, hn', h3, fun ha => (by cases ha), fun a' ha => ?_⟩
    simp only [Option.some.injEq] at ha
    subst ha
    exact h1'.cells rfl

theorem listOf_cells {X Z : Nat → Prop} {ob : Nat → Option AObj} {c : CV} {v : Value} {e : Kind} {l : List e.T} (hH : Hp Z ρ U ob w X)
    (hx : CRep ρ U w (Own ρ ob X) c v) (hl : listOf ob c = some ⟨e, l⟩) :
    ∃ a cap vs, v = .slice a l.length cap ∧ l.length ≤ cap ∧ Elems w (Own ρ ob X) e l vs ∧ (a = none → l = []) ∧
      (∀ a', a = some a' → ∀ j u, vs[j]? = some u → w.cell? (a'.add j) = some u) := by
  unfold listOf at hl
  split at hl
  · simp only [Option.some.injEq, Sigma.mk.injEq] at hl
    obtain ⟨rfl, hl⟩ := hl
    simp only [heq_eq_eq] at hl
    subst hl
    exact (of_one hx).list_cells
  · rename_i n
    simp only [CRep, LRep] at hx
    obtain ⟨_, rfl⟩ := hx
    split at hl
    · rename_i te e' l' hn
      simp only [Option.some.injEq, Sigma.mk.injEq] at hl
      obtain ⟨rfl, hl⟩ := hl
      simp only [heq_eq_eq] at hl
      subst hl
      exact (hH.objs n _ hn).row_cells
    · rename_i e' l' hn
      simp only [Option.some.injEq, Sigma.mk.injEq] at hl
      obtain ⟨rfl, hl⟩ := hl
      simp only [heq_eq_eq] at hl
      subst hl
      exact (show Rep w (Own ρ ob X) (.list _) _ [ρ n] from hH.objs n _ hn).list_cells
    · cases hl
  · cases hl
end

section
variable {P : Program} {E : Env} {R : Type} {ρ : Nat → Value} {U : Nat → Prop} {hp : List (Nat × Option AObj)} {w : World} {X Z : Nat → Prop}
  {a : Act} {o : Oper} {m : Nat} {K : CV → Ups → Option R} {r : R} {Q : Exit → Act → World → Prop}

theorem look_two (n n' : Nat) (x y : Option AObj) : look none ([(n, x), (n', y)] ++ hp) = upd (upd (look none hp) n' y) n x := by
  rw [show [(n, x), (n', y)] ++ hp = (n, x) :: (n', y) :: hp from rfl, look_cons, look_cons]

theorem ownBlock_blk {v : Value} {a : Option Addr} {n c : Nat} (h : v = .slice a n c) : v.ownBlock = blk v := by
  subst h; cases a <;> rfl

theorem op_append {t te : TypeId} {x y : Operand} {n : Nat} {q qe : TR} {e : Kind} {l l' : List e.T} {c : CV} {c0 : Call} (hE : EnvOk P E)
    (ho : o.op = .call c0) (hc0 : c0.callee = .builtin .append) (ha : c0.args.toList = [x, y]) (hat : c0.argTypes.toList = [t, t])
    (hH : Hp Z ρ U (look none hp) w X) (hm : ¬ U m) (hx : CRep ρ U w (Own ρ (look none hp) X) (.one (.view n)) (a.eval x)) (hy : CRep ρ U w (Own ρ (look none hp) X) c (a.eval y))
    (hl : listOf (look none hp) c = some ⟨e, l'⟩) (ht : E.tr t = some q) (hd : q.d = .slice te) (hte : E.tr te = some qe) (hsz : qe.size = e.size) (hpos : 0 < e.size)
    (hn : look none hp n = some (.row te e l)) (hby : (l.length + l'.length) * qe.bytes ≤ 140737488355328) (hmax : l.length + l'.length ≤ maxLen)
    (h : K (.one (.view m)) [(m, some (.row te e (l ++ l'))), (n, none)] = some r) : o.wp P a w (Post ρ U hp w X Z a o m K r) Q := by
  obtain ⟨h1, h2, _⟩ := hE.tr t q ht
  obtain ⟨h1e, h2e, i, h3, h4, h5, z, h6, h7, h8, h9⟩ := hE.tr te qe hte
  rw [hd] at h1
  simp only [CRep, LRep] at hx
  obtain ⟨_, hv⟩ := hx
  obtain ⟨vs, hown, hel⟩ := hH.objs n _ hn
  obtain ⟨a2, cap2, vs2, hv2, hle2, hel2, hnil2, hcells2⟩ := listOf_cells hH hy hl
  have hargs : c0.args = #[x, y] := by rw [← Array.toArray_toList (xs := c0.args), ha]
  have hargT : c0.argTypes = #[t, t] := by rw [← Array.toArray_toList (xs := c0.argTypes), hat]
  have key : ∃ v' w', (Builtin.append_ #[t, t] o.type #[ρ n, a.eval y]).run P w = .ok v' w' ∧ w'.ownsRow 0 te e.size v' (l.length + l'.length) (vs ++ vs2) ∧ w.grownBy w' (ρ n).ownBlock ∧
      (v'.ownBlock = (ρ n).ownBlock ∨ v'.ownBlock = some w.heap.size) := by
    cases a2 with
    | some a2 =>
      rw [hv2]
      obtain ⟨v', w', g1, g2, g3, _, g5⟩ := run_append_own_at (P := P) w 0 t o.type te i z e.size qe.bytes h1 h3 h6 (h4.trans hsz) h5 (h8.trans hsz) hpos (ρ n) l.length vs hown a2 l'.length cap2 vs2
        (hel2.length) (hcells2 a2 rfl) hel2.one_cell hmax hby (Nat.zero_le _)
      exact ⟨v', w', g1, g2, g3, g5⟩
    | none =>
      obtain rfl := hnil2 rfl
      obtain ⟨an, capn, _, hvn, hlen, _, _, _⟩ := (hH.objs n _ hn).row_cells
      have hvs2 : vs2 = [] := hel2
      refine ⟨ρ n, w, ?_, by rw [hvs2]; simpa using hown, ⟨rfl, rfl, rfl, Nat.le_refl _, fun _ _ _ => rfl⟩, .inl rfl⟩
      rw [hv2, hvn]
      exact run_append_nothing (P := P) w t t o.type te i h1 h3 an l.length capn hlen _ (Src.ofNil (P := P) w h1 cap2)
  obtain ⟨v', w', g1, g2, g3, g5⟩ := key
  have hform : ∃ a' n' c', v' = .slice a' n' c' := by
    rcases g2.2 with ⟨rfl, _⟩ | ⟨g, cap, cur, rfl, _⟩
    · exact ⟨_, _, _, rfl⟩
    · exact ⟨_, _, _, rfl⟩
  obtain ⟨a', n', c', hv'⟩ := hform
  obtain ⟨an, capn, _, hvn, _⟩ := (hH.objs n _ hn).row_cells
  have hb' := ownBlock_blk hv'
  have hbn := ownBlock_blk hvn
  have hk : ∀ b, b < w.heap.size → blk (ρ n) ≠ some b → w'.heap[b]? = w.heap[b]? := fun b hb hne => g3.block b hb (fun e => hne (by rw [← hbn]; exact e.symm))
  have hvb : ∀ g, blk v' = some g → blk (ρ n) = some g ∨ w.heap.size ≤ g := fun g hg => by
    rw [← hb'] at hg
    rcases g5 with g5 | g5
    · left; rw [← hbn, ← g5]; exact hg
    · right; rw [g5] at hg; simp only [Option.some.injEq] at hg; omega
  have hx' := hH.nx_app (w' := w') (.row te e (l ++ l')) (v := v') hn rfl hm (Gr.grown g3) hk hvb
  have hH' := (hH.app (w' := w') (o1 := .row te e (l ++ l')) (v := v') hn rfl rfl hm (Gr.grown g3) hk hvb (by rw [hv']; rfl)
    ⟨vs ++ vs2, by rw [List.length_append]; exact g2, Elems.later hx'.later (hel.append hel2)⟩).2
  refine wp_value (v' := v') (w' := w') ?_ ⟨_, _, _, upd ρ m v', fun k => U k ∨ k = m, h, rfl, ?_, ?_, ?_, fun n hn => hn.imp id fun h => ⟨by omega, by omega⟩⟩
  · rw [← hv] at g1
    simp [execOp, ho, resolve, hc0, hargs, hargT, invoke, builtin, g1]
  · rw [look_two]; exact hx'
  · rw [look_two]; exact hH'
  · simp only [CRep, LRep]
    exact ⟨by simp, by rw [upd_same]⟩
end
end Go.AM

set_option linter.unusedVariables false
set_option linter.unusedSimpArgs false
namespace Go.AM

theorem explode_rep {ρ : Nat → Value} {U : Nat → Prop} {w : World} {Y : Nat → Prop} : ∀ {κ : Kind} {x : κ.T} {vs : List Value}, Rep w Y κ x vs → LReps ρ U w Y (explode κ x) vs
  | .int k, x, vs, h => by rw [show vs = [.int k x] from h]; exact ⟨_, [], rfl, (show Rep w Y (.int k) x [.int k x] from rfl), rfl⟩
  | .bool, x, vs, h => by rw [show vs = [.bool x] from h]; exact ⟨_, [], rfl, (show Rep w Y .bool x [.bool x] from rfl), rfl⟩
  | .str, x, vs, h => by rw [show vs = [.string (strOf x)] from h]; exact ⟨_, [], rfl, (show Rep w Y .str x [.string (strOf x)] from rfl), rfl⟩
  | .fn, x, vs, h => by rw [show vs = [.func (.func x) #[] #[]] from h]; exact ⟨_, [], rfl, (show Rep w Y .fn x [.func (.func x) #[] #[]] from rfl), rfl⟩
  | .own _ _, x, vs, h => h.elim
  | .cel _, x, vs, h => h.elim
  | .ownc _ _, x, vs, h => h.elim
  | .unit, x, vs, h => h
  | .list e, x, vs, h => by
    have h' := h
    obtain ⟨a, cap, h1, _⟩ := h
    subst h1
    exact ⟨_, [], rfl, h', rfl⟩
  | .ref e, x, vs, h => by
    have h' := h
    obtain ⟨b, o, h1, _⟩ := h
    subst h1
    exact ⟨_, [], rfl, h', rfl⟩
  | .pair p q, x, vs, h => by
    obtain ⟨us, us', h1, h2, h3⟩ := h
    subst h1
    exact LReps.append (explode_rep h2) (explode_rep h3)

section
variable {P : Program} {E : Env} {R : Type} {ρ : Nat → Value} {U : Nat → Prop} {hp : List (Nat × Option AObj)} {w : World} {X Z : Nat → Prop}
  {a : Act} {o : Oper} {m : Nat} {K : CV → Ups → Option R} {r : R} {Q : Exit → Act → World → Prop}

theorem rdK_at {κ : Kind} {l : List κ.T} {i : Int} (h0 : 0 ≤ i) (h1 : i < (l.length : Int)) : l[i.toNat]? = some (rdK l i) := by
  have : i.toNat < l.length := by omega
  simp [rdK, List.getD, this]

/-- loading cells that are there -/
theorem loadAt_cells {t : TypeId} {q : TR} {b off : Nat} {cs : List Value} {Y : Nat → Prop} {κ : Kind} {x : κ.T} (hE : EnvOk P E) (ht : E.tr t = some q)
    (hc : CellsAt w b off cs) (hr : Rep w Y κ x cs) {c : CV}
    (hcv : (q.agg = true ∧ κ.size = q.size ∧ c = .agg (explode κ x)) ∨ (q.agg = false ∧ ∃ l, explode κ x = [l] ∧ c = .one l)) :
    ∃ v, (Instr.loadAt t (.pointer (some ⟨b, off, none⟩))).run P w = .ok v w ∧ CRep ρ U w Y c v := by
  obtain ⟨h1, h2, i, h3, h4, _⟩ := hE.tr t q ht
  rcases hcv with ⟨hq, hs, rfl⟩ | ⟨hq, l, hl, rfl⟩
  · refine ⟨_, run_loadAt_mid (P := P) w b off t cs q.d hc h1 (by rw [← h2, hq]) (by simp [h3, h4, Rep.length hr, hs]), ?_⟩
    simp only [CRep]
    exact ⟨cs, rfl, explode_rep hr⟩
  · have := explode_rep (ρ := ρ) (U := U) hr
    rw [hl] at this
    obtain ⟨v, vs', h5, h6, h7⟩ := this
    refine ⟨v, run_loadAt_one (P := P) w b off t q.d v h1 (by rw [← h2, hq]) ?_, by simpa [CRep] using h6⟩
    have := hc 0 v (by rw [h5]; rfl)
    simpa using this

theorem op_index_list {t te : TypeId} {x y : Operand} {q : TR} {e : Kind} {l : List e.T} {k : IntKind} {i : Int} (hE : EnvOk P E) (ho : o.op = .indexAddr t x y)
    (hH : Hp Z ρ U (look none hp) w X) {c : CV} (hc : c = .one (.of (.list e) l) ∨ ∃ n, c = .one (.view n) ∧ look none hp n = some (.shr e l))
    (hx : CRep ρ U w (Own ρ (look none hp) X) c (a.eval x)) (hy : CRep ρ U w (Own ρ (look none hp) X) (.one (.of (.int k) i)) (a.eval y))
    (ht : E.tr t = some q) (hd : q.d = .slice te) {qe : TR} (hte : E.tr te = some qe) (hsz : qe.size = e.size) (h0 : 0 ≤ i) (hlt : i < (l.length : Int))
    (h : K (.one (.of (.ref e) (rdK l i))) [] = some r) : o.wp P a w (Post ρ U hp w X Z a o m K r) Q := by
  obtain ⟨h1, h2, _⟩ := hE.tr t q ht
  obtain ⟨h1e, h2e, ie, h3, h4, _⟩ := hE.tr te qe hte
  rw [hd] at h1
  have hrep : Rep w (Own ρ (look none hp) X) (.list e) l [a.eval x] := by
    rcases hc with rfl | ⟨n, rfl, hn⟩
    · exact of_one hx
    · simp only [CRep, LRep] at hx
      rw [hx.2]
      exact hH.objs n _ hn
  obtain ⟨A, cap, hv, hle, hat⟩ := hrep.list_at
  obtain ⟨g, off, rfl, hg, hY, cs, hr, hcs⟩ := hat i.toNat _ (rdK_at h0 hlt)
  refine stay hH h (v' := .pointer (some ⟨g, off + i.toNat * e.size, none⟩)) (one_of ⟨g, _, rfl, hg, hY, cs, hr, hcs⟩) ?_
  simp [execOp, ho, hv, int_of hy, Instr.indexAt, asIntOf, run_underlying h1, sizeOf, typeInfo, h3, h4, hsz, h0, hlt, addr_add]

theorem op_index_row {t te : TypeId} {x y : Operand} {n : Nat} {q : TR} {e : Kind} {l : List e.T} {k : IntKind} {i : Int} (hE : EnvOk P E) (ho : o.op = .indexAddr t x y)
    (hH : Hp Z ρ U (look none hp) w X) (hx : CRep ρ U w (Own ρ (look none hp) X) (.one (.view n)) (a.eval x)) {te' : TypeId} (hn : look none hp n = some (.row te' e l))
    (hy : CRep ρ U w (Own ρ (look none hp) X) (.one (.of (.int k) i)) (a.eval y))
    (ht : E.tr t = some q) (hd : q.d = .slice te) {qe : TR} (hte : E.tr te = some qe) (hsz : qe.size = e.size) (h0 : 0 ≤ i) (hlt : i < (l.length : Int))
    (h : K (.one (.rptr n i.toNat e.size)) [] = some r) : o.wp P a w (Post ρ U hp w X Z a o m K r) Q := by
  obtain ⟨h1, h2, _⟩ := hE.tr t q ht
  obtain ⟨h1e, h2e, ie, h3, h4, _⟩ := hE.tr te qe hte
  rw [hd] at h1
  simp only [CRep, LRep] at hx
  obtain ⟨hu, hv⟩ := hx
  obtain ⟨vs, hown, hel⟩ := hH.objs n _ hn
  rcases hown.2 with ⟨_, hl0⟩ | ⟨g, cap, cur, hvn, _, hg, _⟩
  · have : l = [] := List.eq_nil_of_length_eq_zero hl0
    subst this
    simp at hlt
    omega
  · refine stay hH h (v' := .pointer (some ⟨g, i.toNat * e.size, none⟩)) (by simp only [CRep, LRep]; exact ⟨hu, g, _, _, hvn, by omega, rfl⟩) ?_
    rw [hvn] at hv
    simp [execOp, ho, hv, int_of hy, Instr.indexAt, asIntOf, run_underlying h1, sizeOf, typeInfo, h3, h4, hsz, h0, hlt, addr_add]

theorem op_load_ref {t : TypeId} {x : Operand} {q : TR} {e : Kind} {x' : e.T} {c : CV} (hE : EnvOk P E) (ho : o.op = .load t x) (hH : Hp Z ρ U (look none hp) w X)
    (hx : CRep ρ U w (Own ρ (look none hp) X) (.one (.of (.ref e) x')) (a.eval x)) (ht : E.tr t = some q)
    (hcv : (q.agg = true ∧ e.size = q.size ∧ c = .agg (explode e x')) ∨ (q.agg = false ∧ ∃ l, explode e x' = [l] ∧ c = .one l))
    (h : K c [] = some r) : o.wp P a w (Post ρ U hp w X Z a o m K r) Q := by
  obtain ⟨b, off, hv, hb, hY, cs, hr, hcs⟩ := of_one hx
  simp only [List.cons.injEq, and_true] at hv
  obtain ⟨v, hrun, hrep⟩ := loadAt_cells (ρ := ρ) (U := U) hE ht hcs hr hcv
  exact stay hH h hrep (by simp [execOp, ho, hv, hrun])

theorem op_load_row {t : TypeId} {x : Operand} {n j : Nat} {te : TypeId} {q : TR} {e : Kind} {l : List e.T} {c : CV} (hE : EnvOk P E) (ho : o.op = .load t x) (hH : Hp Z ρ U (look none hp) w X)
    (hx : CRep ρ U w (Own ρ (look none hp) X) (.one (.rptr n j e.size)) (a.eval x)) (hn : look none hp n = some (.row te e l)) (ht : E.tr t = some q)
    (hcv : (q.agg = true ∧ e.size = q.size ∧ c = .agg (explode e (l.getD j e.dflt))) ∨ (q.agg = false ∧ ∃ l', explode e (l.getD j e.dflt) = [l'] ∧ c = .one l'))
    (h : K c [] = some r) : o.wp P a w (Post ρ U hp w X Z a o m K r) Q := by
  simp only [CRep, LRep] at hx
  obtain ⟨hu, g, len, cap, hvn, hj, hv⟩ := hx
  obtain ⟨A, cap', vs, hvn', hle, hel, hnil, hcells⟩ := (hH.objs n _ hn).row_cells
  rw [hvn] at hvn'
  simp only [Value.slice.injEq] at hvn'
  obtain ⟨hA, hlen, _⟩ := hvn'
  rw [hlen] at hj
  obtain ⟨us, hr, hus⟩ := hel.at j (l.getD j e.dflt) (by simp [List.getD, hj])
  have hcs : CellsAt w g (j * e.size) us := fun i u hi => by
    have := hcells _ hA.symm _ u (hus i u hi)
    rw [addr_add] at this
    simpa using this
  obtain ⟨v, hrun, hrep⟩ := loadAt_cells (ρ := ρ) (U := U) hE ht hcs hr hcv
  exact stay hH h hrep (by simp [execOp, ho, hv, hrun])
end
end Go.AM

set_option linter.unusedVariables false
set_option linter.unusedSimpArgs false
namespace Go.AM

section
variable {P : Program} {E : Env} {R : Type} {ρ : Nat → Value} {U : Nat → Prop} {hp : List (Nat × Option AObj)} {w : World} {X Z : Nat → Prop}
  {a : Act} {o : Oper} {m : Nat} {K : CV → Ups → Option R} {r : R} {Q : Exit → Act → World → Prop}

theorem op_move {x : Operand} {c : CV} (ho : o.op = .move x ∨ o.op = .assign x) (hH : Hp Z ρ U (look none hp) w X)
    (hx : CRep ρ U w (Own ρ (look none hp) X) c (a.eval x)) (h : K c [] = some r) : o.wp P a w (Post ρ U hp w X Z a o m K r) Q :=
  stay hH h hx (by rcases ho with ho | ho <;> simp [execOp, ho])

/-- an object that needs no memory: a nil slice -/
theorem new_nil {te : TypeId} {e : Kind} (hH : Hp Z ρ U (look none hp) w X) (hm : ¬ U m)
    (hrun : (execOp a.eval o).run P w = .ok (.value (.slice none 0 0)) w)
    (h : K (.one (.view m)) [(m, some (.row te e []))] = some r) : o.wp P a w (Post ρ U hp w X Z a o m K r) Q := by
  have hv : ∀ g, blk (.slice none 0 0) = some g → w.heap.size ≤ g := fun g hg => by cases hg
  have hx := hH.nx_new (w' := w) hm (.row te e []) (v := .slice none 0 0) Gr.refl (fun _ _ => rfl) hv
  have hH' := (hH.new (w' := w) hm (o := .row te e []) (v := .slice none 0 0) Gr.refl (fun _ _ => rfl) hv rfl
    ⟨[], World.ownsRow_nil w 0 te e.size, rfl⟩).2
  refine wp_value hrun ⟨_, _, _, upd ρ m (.slice none 0 0), fun n => U n ∨ n = m, h, rfl, ?_, ?_, ?_, fun n hn => hn.imp id fun h => ⟨by omega, by omega⟩⟩
  · rw [look_one]; exact hx
  · rw [look_one]; exact hH'
  · simp only [CRep, LRep]
    exact ⟨by simp, by rw [upd_same]⟩

theorem op_move_nil {x : Operand} {te : TypeId} {e : Kind} (ho : o.op = .move x ∨ o.op = .assign x) (hH : Hp Z ρ U (look none hp) w X) (hm : ¬ U m)
    (hx : CRep ρ U w (Own ρ (look none hp) X) (.one (.raw (.slice none 0 0))) (a.eval x))
    (h : K (.one (.view m)) [(m, some (.row te e []))] = some r) : o.wp P a w (Post ρ U hp w X Z a o m K r) Q := by
  simp only [CRep, LRep] at hx
  exact new_nil hH hm (by rcases ho with ho | ho <;> simp [execOp, ho, hx]) h

/-- a new row in a new block -/
theorem make_row {te : TypeId} {e : Kind} {l : List e.T} {vs : List Value} {cap : Nat} {cur : Array Value} (hH : Hp Z ρ U (look none hp) w X) (hm : ¬ U m)
    (hrun : (execOp a.eval o).run P w = .ok (.value (.slice (some ⟨w.heap.size, 0, none⟩) l.length cap)) (w.alloc (.cells cur te)))
    (hcap : l.length ≤ cap) (hmax : cap ≤ maxLen) (hcur : cur.size = cap * e.size) (htake : cur.toList.take (l.length * e.size) = vs)
    (hel : ∀ ρ' U' w' Y', Later ρ ρ' U U' w w' (Own ρ (look none hp) X) Y' → Elems w' Y' e l vs)
    (h : K (.one (.view m)) [(m, some (.row te e l))] = some r) : o.wp P a w (Post ρ U hp w X Z a o m K r) Q := by
  have hk : ∀ b, b < w.heap.size → (w.alloc (.cells cur te)).heap[b]? = w.heap[b]? := fun b hb => heap_alloc_old w _ b hb
  have hv : ∀ g, blk (.slice (some ⟨w.heap.size, 0, none⟩) l.length cap) = some g → w.heap.size ≤ g := fun g hg => by simp [blk] at hg; omega
  have hx := hH.nx_new (w' := w.alloc (.cells cur te)) hm (.row te e l) (v := .slice (some ⟨w.heap.size, 0, none⟩) l.length cap) Gr.alloc hk hv
  have hE := hel _ _ _ _ hx.later
  have hH' := (hH.new (w' := w.alloc (.cells cur te)) hm (o := .row te e l) (v := .slice (some ⟨w.heap.size, 0, none⟩) l.length cap) Gr.alloc hk hv rfl
    ⟨vs, ⟨hE.length, .inr ⟨w.heap.size, cap, cur, rfl, Nat.zero_le _, heap_alloc_new w _, hcap, hmax, hcur, htake⟩⟩, hE⟩).2
  refine wp_value hrun ⟨_, _, _, upd ρ m (.slice (some ⟨w.heap.size, 0, none⟩) l.length cap), fun n => U n ∨ n = m, h, rfl, ?_, ?_, ?_, fun n hn => hn.imp id fun h => ⟨by omega, by omega⟩⟩
  · rw [look_one]; exact hx
  · rw [look_one]; exact hH'
  · simp only [CRep, LRep]
    exact ⟨by simp, by rw [upd_same]⟩

theorem madeCells_at (z : Array Value) (n j : Nat) (hz : 0 < z.size) (hj : j < n) : (madeCells z n)[j]? = z[j % z.size]? := by
  have hlt : j % z.size < z.size := Nat.mod_lt _ hz
  simp [madeCells, hj, hlt]

/-- n zero values, one behind the other -/
theorem elems_zero {Y : Nat → Prop} {e : Kind} {x : e.T} {z : List Value} (hz : Rep w Y e x z) : ∀ (n : Nat) (vs : List Value), vs.length = n * e.size →
    (∀ j, j < n * e.size → vs[j]? = z[j % e.size]?) → Elems w Y e (List.replicate n x) vs
  | 0, vs, hl, _ => by rw [Nat.zero_mul] at hl; exact List.eq_nil_of_length_eq_zero hl
  | n + 1, vs, hl, h => by
    have hzl := Rep.length hz
    rw [Nat.add_mul, Nat.one_mul] at hl
    refine ⟨vs.take e.size, vs.drop e.size, (List.take_append_drop _ _).symm, ?_, ?_⟩
    · have : vs.take e.size = z := by
        apply List.ext_getElem?
        intro j
        rw [List.getElem?_take]
        split
        · rename_i hj
          rw [h j (by rw [Nat.add_mul]; omega), Nat.mod_eq_of_lt hj]
        · rename_i hj
          rw [List.getElem?_eq_none (by omega)]
      rw [this]; exact hz
    · refine elems_zero hz n (vs.drop e.size) (by rw [List.length_drop]; omega) fun j hj => ?_
      rw [List.getElem?_drop, h (e.size + j) (by rw [Nat.add_mul]; omega), Nat.add_mod_left]

theorem op_make {t te : TypeId} {x y : Operand} {q qe : TR} {e : Kind} {k k' : IntKind} {n c : Int} (hE : EnvOk P E) (ho : o.op = .makeSlice t x y) (hH : Hp Z ρ U (look none hp) w X) (hm : ¬ U m)
    (hx : CRep ρ U w (Own ρ (look none hp) X) (.one (.of (.int k) n)) (a.eval x)) (hy : CRep ρ U w (Own ρ (look none hp) X) (.one (.of (.int k') c)) (a.eval y))
    (ht : E.tr t = some q) (hd : q.d = .slice te) (hte : E.tr te = some qe) (hpos : 0 < e.size) (hsz : qe.size = e.size) (hzero : ∀ w Y z i, P.info? te = some i → i.zero = some z → Rep w Y e e.dflt z.cells.toList)
    (h0 : 0 ≤ n) (hnc : n ≤ c) (hby : c.toNat * qe.bytes ≤ 281474976710656) (hmx : c ≤ 9223372036854775807)
    (h : K (.one (.view m)) [(m, some (.row te e (List.replicate n.toNat e.dflt)))] = some r) : o.wp P a w (Post ρ U hp w X Z a o m K r) Q := by
  obtain ⟨h1, h2, _⟩ := hE.tr t q ht
  obtain ⟨h1e, h2e, i, h3, h4, h5, z, h6, h7, h8, h9⟩ := hE.tr te qe hte
  rw [hd] at h1
  have hc : ((c.toNat : Nat) : Int) = c := by omega
  have hbytes : (i.bytes : Int) * c ≤ 281474976710656 := by
    rw [← hc, h5, ← Int.natCast_mul, Nat.mul_comm]
    exact Int.ofNat_le.2 hby
  have hmk := run_make (P := P) w t te i z h1 h3 h6 k k' n c h0 hnc hbytes hmx
  have hlen : (List.replicate n.toNat e.dflt).length = n.toNat := List.length_replicate
  have his : i.size = e.size := h4.trans hsz
  have hzs : z.cells.size = e.size := h8.trans hsz
  have hnm : n.toNat * e.size ≤ c.toNat * e.size := Nat.mul_le_mul_right _ (by omega)
  refine make_row (l := List.replicate n.toNat e.dflt) (cap := c.toNat) (cur := madeCells z.cells (c.toNat * i.size)) hH hm ?_ (by rw [hlen]; omega) (by simp only [maxLen]; omega)
    (by rw [size_madeCells, his]) rfl (fun ρ' U' w' Y' _ => ?_) h
  · rw [hlen]
    simp only [execOp, ho, int_of hx, int_of hy]
    simp only [Sem.run_bind, hmk, Result.andThen_ok, Sem.run_pure]
  · rw [hlen, his]
    refine elems_zero (hzero w' Y' z i h3 h6) n.toNat _ ?_ fun j hj => ?_
    · rw [List.length_take, Array.length_toList, size_madeCells]; omega
    · rw [List.getElem?_take, if_pos hj]
      have := madeCells_at z.cells (c.toNat * e.size) j (by omega) (by omega)
      rw [hzs] at this
      simpa using this
end
end Go.AM

set_option linter.unusedVariables false
set_option linter.unusedSimpArgs false
namespace Go.AM

section
variable {P : Program} {E : Env} {R : Type} {ρ : Nat → Value} {U : Nat → Prop} {hp : List (Nat × Option AObj)} {w : World} {X Z : Nat → Prop}
  {a : Act} {o : Oper} {m : Nat} {K : CV → Ups → Option R} {r : R} {Q : Exit → Act → World → Prop}

theorem op_nilCheck_ptr {x : Operand} {n off : Nat} (ho : o.op = .nilCheck x) (hH : Hp Z ρ U (look none hp) w X)
    (hx : CRep ρ U w (Own ρ (look none hp) X) (.one (.ptr n off)) (a.eval x)) (h : K (.one (.ptr n off)) [] = some r) : o.wp P a w (Post ρ U hp w X Z a o m K r) Q := by
  have hx' := hx
  simp only [CRep, LRep] at hx
  obtain ⟨_, b, _, hv⟩ := hx
  exact stay hH h hx' (by simp [execOp, ho, hv])

theorem op_nilCheck_ref {x : Operand} {e : Kind} {x' : e.T} (ho : o.op = .nilCheck x) (hH : Hp Z ρ U (look none hp) w X)
    (hx : CRep ρ U w (Own ρ (look none hp) X) (.one (.of (.ref e) x')) (a.eval x)) (h : K (.one (.of (.ref e) x')) [] = some r) : o.wp P a w (Post ρ U hp w X Z a o m K r) Q := by
  obtain ⟨b, off, hv, _⟩ := of_one hx
  simp only [List.cons.injEq, and_true] at hv
  exact stay hH h hx (by simp [execOp, ho, hv])

theorem op_fieldAddr {t : TypeId} {x : Operand} {j n off : Nat} {q qf : TR} {fs : Array Field} {f : Field} (hE : EnvOk P E) (ho : o.op = .fieldAddr t x j) (hH : Hp Z ρ U (look none hp) w X)
    (hx : CRep ρ U w (Own ρ (look none hp) X) (.one (.ptr n off)) (a.eval x)) (ht : E.tr t = some q) (hd : q.d = .struct fs) (hf : fs[j]? = some f)
    (htf : E.tr f.type = some qf) (hpos : qf.size ≠ 0)
    (h : K (.one (.ptr n (off + f.offset))) [] = some r) : o.wp P a w (Post ρ U hp w X Z a o m K r) Q := by
  obtain ⟨h1, h2, _⟩ := hE.tr t q ht
  obtain ⟨h1f, h2f, i, h3, h4, _⟩ := hE.tr f.type qf htf
  rw [hd] at h1
  simp only [CRep, LRep] at hx
  obtain ⟨hu, b, hb, hv⟩ := hx
  refine stay hH h (v' := .pointer (some ⟨b, off + f.offset, none⟩)) (by simp only [CRep, LRep]; exact ⟨hu, b, hb, rfl⟩) ?_
  simp [execOp, ho, hv, Instr.fieldAt, run_underlying h1, hf, Instr.sureAddr, fieldPlace, sizeOf, typeInfo, h3, h4, hpos, addr_add]

theorem op_field {t : TypeId} {x : Operand} {j : Nat} {q qf : TR} {fs : Array Field} {f : Field} {ls : List LV} {c : CV} (hE : EnvOk P E) (ho : o.op = .field t x j) (hH : Hp Z ρ U (look none hp) w X)
    (hx : CRep ρ U w (Own ρ (look none hp) X) (.agg ls) (a.eval x)) (ht : E.tr t = some q) (hd : q.d = .struct fs) (hf : fs[j]? = some f)
    (htf : E.tr f.type = some qf) (hc : partCV qf ls f.offset = some c) (h : K c [] = some r) : o.wp P a w (Post ρ U hp w X Z a o m K r) Q := by
  obtain ⟨h1, h2, _⟩ := hE.tr t q ht
  obtain ⟨h1f, h2f, i, h3, h4, _⟩ := hE.tr f.type qf htf
  rw [hd] at h1
  simp only [CRep] at hx
  obtain ⟨vs, hv, hr⟩ := hx
  have hagg : (isAgg f.type).run P w = .ok qf.agg w := by
    unfold isAgg
    rw [Sem.run_bind, run_underlying h1f w, h2f]
    cases qf.d <;> rfl
  rcases part_rep hr hc with ⟨hq, hlen, hcr⟩ | ⟨hq, v, hv', hcr⟩
  · refine stay hH h hcr ?_
    have hext : vs.toArray.extract f.offset (f.offset + qf.size) = ((vs.drop f.offset).take qf.size).toArray := by
      apply Array.ext'
      simp [List.extract_eq_take_drop]
    simp only [execOp, ho, hv, Instr.field, Sem.run_bind, run_underlying h1, Result.andThen_ok, hf, asAgg, Sem.run_pure, part, hagg, hq, if_true, sizeOf, typeInfo, run_program, h3, h4, hext]
  · refine stay hH h hcr ?_
    simp [execOp, ho, hv, Instr.field, run_underlying h1, hf, asAgg, part, hagg, hq, hv']

theorem op_len {x : Operand} {t : TypeId} {q : TR} {c : CV} {c0 : Call} (hE : EnvOk P E) (ho : o.op = .call c0) (hc0 : c0.callee = .builtin .len) (ha : c0.args.toList = [x]) (hat : c0.argTypes.toList = [t])
    (ht : E.tr t = some q) (hd : q.d = .string ∨ ∃ te, q.d = .slice te) (hH : Hp Z ρ U (look none hp) w X)
    (hx : CRep ρ U w (Own ρ (look none hp) X) c (a.eval x)) (hs : q.d = .string → ∃ s, c = .one (.of .str s)) (hs' : (∃ te, q.d = .slice te) → ∀ s, c ≠ .one (.of .str s))
    (h : lenCV (look none hp) c (fun v => K v []) = some r) : o.wp P a w (Post ρ U hp w X Z a o m K r) Q := by
  obtain ⟨h1, h2, _⟩ := hE.tr t q ht
  have hargs : c0.args = #[x] := by rw [← Array.toArray_toList (xs := c0.args), ha]
  have hargT : c0.argTypes = #[t] := by rw [← Array.toArray_toList (xs := c0.argTypes), hat]
  rcases hd with hd | ⟨te, hd⟩
  · obtain ⟨s, rfl⟩ := hs hd
    rw [hd] at h1
    simp only [lenCV] at h
    exact stay hH h (one_of (show Rep _ _ (.int _) _ [.int .i64 (s.length : Int)] from rfl))
      (by simp [execOp, ho, resolve, hc0, hargs, hargT, invoke, builtin, Builtin.len_, run_underlying h1, str_of hx, goInt]; rfl)
  · rw [hd] at h1
    have fin : ∀ (A : Option Addr) (n cap : Nat), a.eval x = .slice A n cap → K (.one (.of (.int .i64) (n : Int))) [] = some r → o.wp P a w (Post ρ U hp w X Z a o m K r) Q := fun A n cap hv hk =>
      stay hH hk (one_of (show Rep _ _ (.int _) _ [.int .i64 (n : Int)] from rfl))
        (by simp [execOp, ho, resolve, hc0, hargs, hargT, invoke, builtin, Builtin.len_, run_underlying h1, hv, goInt])
    unfold lenCV at h
    split at h
    · simp only [CRep, LRep] at hx
      exact fin _ _ _ hx h
    · rename_i s
      exact absurd rfl (hs' ⟨te, hd⟩ s)
    · split at h
      · rename_i e l hl
        obtain ⟨A, cap, vs, hv, _⟩ := listOf_cells hH hx hl
        exact fin _ _ _ hv h
      · cases h

theorem op_binBool {op : BinOp} {t u : TypeId} {x y : Operand} {p q : Bool} {c : Bool} {qt : TR} (hE : EnvOk P E) (ho : o.op = .binOp op t x y u) (hH : Hp Z ρ U (look none hp) w X)
    (ht : E.tr t = some qt) (hd : qt.d = .bool)
    (hx : CRep ρ U w (Own ρ (look none hp) X) (.one (.of .bool p)) (a.eval x)) (hy : CRep ρ U w (Own ρ (look none hp) X) (.one (.of .bool q)) (a.eval y))
    (h : binCV op (.one (.of .bool p)) (.one (.of .bool q)) c (fun c => K c []) = some r) : o.wp P a w (Post ρ U hp w X Z a o m K r) Q := by
  obtain ⟨h1, h2, _⟩ := hE.tr t qt ht
  rw [hd] at h1
  have heq : (Op.equal t (.bool p) (.bool q)).run P w = .ok (p == q) w := by
    have key : ∀ d, (Op.equalIn (d + 1) t (.bool p) (.bool q)).run P w = .ok (p == q) w := fun d => by
      simp only [Op.equalIn, Sem.run_bind, run_underlying h1, Result.andThen_ok, Sem.run_pure]
    exact key 9999
  unfold binCV at h
  simp only at h
  split at h
  · exact stay hH h (one_of (show Rep _ _ .bool _ [.bool _] from rfl)) (by simp [execOp, ho, bool_of hx, bool_of hy, eqGuard_bool, Go.binOp, heq])
  · exact stay hH h (one_of (show Rep _ _ .bool _ [.bool _] from rfl)) (by simp [execOp, ho, bool_of hx, bool_of hy, eqGuard_bool, Go.binOp, heq])
  · cases h
end
end Go.AM

set_option linter.unusedVariables false
set_option linter.unusedSimpArgs false
namespace Go.AM

def applyU (u : Ups) (f : Nat → Option AObj) : Nat → Option AObj := u.foldr (fun p g => upd g p.1 p.2) f

theorem look_app (u : Ups) (hp : List (Nat × Option AObj)) : look none (u ++ hp) = applyU u (look none hp) := by
  induction u with
  | nil => rfl
  | cons p u ih =>
    rw [List.cons_append, show p = (p.1, p.2) from rfl, look_cons, ih]
    rfl

theorem applyU_append (u u' : Ups) (f : Nat → Option AObj) : applyU (u ++ u') f = applyU u (applyU u' f) := by simp [applyU, List.foldr_append]

/-- some rows have been given up -/
def Sharing (ob ob1 : Nat → Option AObj) : Prop := ∀ n, ob1 n = ob n ∨ ∃ te e l, ob n = some (.row te e l) ∧ ob1 n = some (.shr e l)

theorem Sharing.refl (ob : Nat → Option AObj) : Sharing ob ob := fun _ => .inl rfl

section
variable {R : Type} {ρ : Nat → Value} {U : Nat → Prop} {ob ob1 : Nat → Option AObj} {w : World} {X Z : Nat → Prop}

theorem shareLeaf_ok {κ : Kind} {l : LV} {v : Value} {K : κ.T → List (Nat × Option AObj) → Option R} {r : R} (h : shareLeaf ob κ l K = some r) (hs : Sharing ob ob1)
    (H : Hp Z ρ U ob1 w X) (hl : LRep ρ U w (Own ρ ob1 X) l v) :
    ∃ x u, K x u = some r ∧ Sharing ob (applyU u ob1) ∧ Nx ρ ρ U U ob1 (applyU u ob1) w w ∧ Hp Z ρ U (applyU u ob1) w X ∧ Rep w (Own ρ (applyU u ob1) X) κ x [v] := by
  unfold shareLeaf at h
  split at h
  · rename_i κ' x
    split at h
    · rename_i hk _
      subst hk
      exact ⟨x, [], h, hs, Nx.refl, H, hl⟩
    · cases h
  · rw [show v = .slice none 0 0 from hl]
    split at h
    · rename_i e K'
      exact ⟨[], [], h, hs, Nx.refl, H, none, 0, rfl, Nat.le_refl _, fun _ => rfl, fun a' ha => by cases ha⟩
    · cases h
  · rename_i n
    obtain ⟨hu, rfl⟩ := hl
    split at h
    · rename_i te e l hn
      split at h
      · rename_i hk _
        subst hk
        rcases hs n with h1 | ⟨te', e', l', h1, h2⟩
        · rw [hn] at h1
          obtain ⟨hx, hH⟩ := H.share h1
          refine ⟨l, _, h, fun k => ?_, hx, hH, hH.objs n (.shr e l) (by simp [applyU, upd])⟩
          by_cases e' : k = n
          · subst e'; exact .inr ⟨te, e, l, hn, by simp [applyU, upd]⟩
          · have : applyU [(n, some (AObj.shr e l))] ob1 k = ob1 k := by simp [applyU, upd, e']
            rw [this]; exact hs k
        · rw [hn] at h1
          simp only [Option.some.injEq, AObj.row.injEq] at h1
          obtain ⟨rfl, rfl, h1⟩ := h1
          simp only [heq_eq_eq] at h1
          subst h1
          have hid : applyU [(n, some (AObj.shr e l))] ob1 = ob1 := by
            funext k
            by_cases e' : k = n
            · subst e'; simp [applyU, upd, h2]
            · simp [applyU, upd, e']
          exact ⟨l, _, h, by rw [hid]; exact hs, by rw [hid]; exact Nx.refl, by rw [hid]; exact H, by rw [hid]; exact H.objs n _ h2⟩
      · cases h
    · rename_i e l hn
      split at h
      · rename_i hk _
        subst hk
        have h2 : ob1 n = some (.shr e l) := by
          rcases hs n with h1 | ⟨te', e', l', h1, h2⟩
          · rw [h1, hn]
          · rw [hn] at h1; cases h1
        exact ⟨l, [], h, hs, Nx.refl, H, H.objs n _ h2⟩
      · cases h
    · cases h
  · cases h

theorem share_ok : ∀ {κ : Kind} {ls : List LV} {vs : List Value} {K : κ.T → List LV → List (Nat × Option AObj) → Option R} {r : R} {ob1 : Nat → Option AObj}, share ob κ ls K = some r → Sharing ob ob1 →
    Hp Z ρ U ob1 w X → LReps ρ U w (Own ρ ob1 X) ls vs →
    ∃ x ls' u vs1 vs2, K x ls' u = some r ∧ vs = vs1 ++ vs2 ∧ Sharing ob (applyU u ob1) ∧ Nx ρ ρ U U ob1 (applyU u ob1) w w ∧ Hp Z ρ U (applyU u ob1) w X ∧
      Rep w (Own ρ (applyU u ob1) X) κ x vs1 ∧ LReps ρ U w (Own ρ (applyU u ob1) X) ls' vs2 := by
  intro κ
  have leaf : ∀ {κ : Kind} {l : LV} {ls : List LV} {vs : List Value} {K : κ.T → List LV → List (Nat × Option AObj) → Option R} {r : R} {ob1 : Nat → Option AObj},
      shareLeaf ob κ l (fun x u => K x ls u) = some r → Sharing ob ob1 → Hp Z ρ U ob1 w X → LReps ρ U w (Own ρ ob1 X) (l :: ls) vs →
      ∃ x ls' u vs1 vs2, K x ls' u = some r ∧ vs = vs1 ++ vs2 ∧ Sharing ob (applyU u ob1) ∧ Nx ρ ρ U U ob1 (applyU u ob1) w w ∧ Hp Z ρ U (applyU u ob1) w X ∧
        Rep w (Own ρ (applyU u ob1) X) κ x vs1 ∧ LReps ρ U w (Own ρ (applyU u ob1) X) ls' vs2 := by
    intro κ l ls vs K r ob1 h hs H hl
    obtain ⟨v, vs', rfl, h2, h3⟩ := hl
    obtain ⟨x, u, h4, h5, h6, h7, h8⟩ := shareLeaf_ok h hs H h2
    exact ⟨x, ls, u, [v], vs', h4, rfl, h5, h6, h7, h8, LReps.later h6.later h3⟩
  induction κ with
  | pair p q ihp ihq =>
    intro ls vs K r ob1 h hs H hl
    simp only [share] at h
    obtain ⟨x, ls1, u, vs1, vs2, h1, rfl, h3, h4, h5, h6, h7⟩ := ihp h hs H hl
    obtain ⟨y, ls2, u', vs3, vs4, g1, rfl, g3, g4, g5, g6, g7⟩ := ihq h1 h3 h5 h7
    refine ⟨(x, y), ls2, u' ++ u, vs1 ++ vs3, vs4, g1, by rw [List.append_assoc], ?_, ?_, ?_, ?_, ?_⟩
    · rw [applyU_append]; exact g3
    · rw [applyU_append]; exact h4.trans g4
    · rw [applyU_append]; exact g5
    · rw [applyU_append]; exact ⟨vs1, vs3, rfl, g4.later.rep h6, g6⟩
    · rw [applyU_append]; exact g7
  | unit =>
    intro ls vs K r ob1 h hs H hl
    simp only [share] at h
    exact ⟨(), ls, [], [], vs, h, rfl, hs, Nx.refl, H, rfl, hl⟩
  | int k =>
    intro ls vs K r ob1 h hs H hl
    cases ls with
    | nil => simp [share] at h
    | cons l ls => exact leaf (by simpa only [share] using h) hs H hl
  | bool =>
    intro ls vs K r ob1 h hs H hl
    cases ls with
    | nil => simp [share] at h
    | cons l ls => exact leaf (by simpa only [share] using h) hs H hl
  | str =>
    intro ls vs K r ob1 h hs H hl
    cases ls with
    | nil => simp [share] at h
    | cons l ls => exact leaf (by simpa only [share] using h) hs H hl
  | fn =>
    intro ls vs K r ob1 h hs H hl
    cases ls with
    | nil => simp [share] at h
    | cons l ls => exact leaf (by simpa only [share] using h) hs H hl
  | own _ _ _ =>
    intro ls vs K r ob1 h hs H hl
    cases ls with
    | nil => simp [share] at h
    | cons l ls => simp [share] at h
  | ownc _ _ _ =>
    intro ls vs K r ob1 h hs H hl
    cases ls with
    | nil => simp [share] at h
    | cons l ls => simp [share] at h
  | cel _ _ =>
    intro ls vs K r ob1 h hs H hl
    cases ls with
    | nil => simp [share] at h
    | cons l ls => simp [share] at h
  | list e _ =>
    intro ls vs K r ob1 h hs H hl
    cases ls with
    | nil => simp [share] at h
    | cons l ls => exact leaf (by simpa only [share] using h) hs H hl
  | ref e _ =>
    intro ls vs K r ob1 h hs H hl
    cases ls with
    | nil => simp [share] at h
    | cons l ls => exact leaf (by simpa only [share] using h) hs H hl
end
end Go.AM

set_option linter.unusedVariables false
set_option linter.unusedSimpArgs false
namespace Go.AM

/-- a row of our own, by itself -/
def RowRep (w : World) (Y : Nat → Prop) (te : TypeId) (e : Kind) (l : List e.T) (v : Value) : Prop :=
  ∃ vs, w.ownsRow 0 te e.size v l.length vs ∧ Elems w Y e l vs

/-- a cell of our own, by itself, or none -/
def CelRep (w : World) (Y : Nat → Prop) (e : Kind) (x : Option e.T) (v : Value) : Prop :=
  match x with
  | none => v = .pointer none
  | some y => ∃ b t cs, v = .pointer (some ⟨b, 0, none⟩) ∧ w.heap[b]? = some (.cells (List.toArray cs) t (0, 0)) ∧ Rep w Y e y cs

/-- kinds whose leaves are values themselves -/
def Kind.lit : Kind → Bool
  | .pair a b => a.lit && b.lit
  | .unit => false
  | .own _ _ => false
  | .cel _ => false
  | .ownc _ _ => false
  | _ => true

/-- cells of a kind, with the blocks that are handed over -/
def GRep (w : World) (Y : Nat → Prop) : (κ : Kind) → κ.T → List Value → List Nat → Prop
  | .pair a b, x, vs, bs => ∃ us us' bs1 bs2, vs = us ++ us' ∧ bs = bs1 ++ bs2 ∧ GRep w Y a x.1 us bs1 ∧ GRep w Y b x.2 us' bs2
  | .own te e, l, vs, bs => ∃ v, vs = [v] ∧ bs = (blk v).toList ∧ RowRep w Y te e l v
  | .cel e, x, vs, bs => ∃ v, vs = [v] ∧ bs = (blk v).toList ∧ CelRep w Y e x v
  | .ownc te e, l, vs, bs => ∃ v, vs = [v] ∧ ((l = [] ∧ bs = [] ∧ Rep w Y (.list e) [] [v]) ∨ (l ≠ [] ∧ bs = (blk v).toList ∧ RowRep w Y te e l v))
  | .unit, x, vs, bs => Rep w Y .unit x vs ∧ bs = []
  | .int k, x, vs, bs => Rep w Y (.int k) x vs ∧ bs = []
  | .bool, x, vs, bs => Rep w Y .bool x vs ∧ bs = []
  | .str, x, vs, bs => Rep w Y .str x vs ∧ bs = []
  | .fn, x, vs, bs => Rep w Y .fn x vs ∧ bs = []
  | .list e, x, vs, bs => Rep w Y (.list e) x vs ∧ bs = []
  | .ref e, x, vs, bs => Rep w Y (.ref e) x vs ∧ bs = []

/-- the same by the names of our objects -/
def SRep (ρ : Nat → Value) (ob : Nat → Option AObj) (w : World) (Y : Nat → Prop) : (κ : Kind) → κ.T → List Value → List Nat → Prop
  | .pair a b, x, vs, ns => ∃ us us' ns1 ns2, vs = us ++ us' ∧ ns = ns1 ++ ns2 ∧ SRep ρ ob w Y a x.1 us ns1 ∧ SRep ρ ob w Y b x.2 us' ns2
  | .own te e, l, vs, ns => ∃ v, vs = [v] ∧ ((∃ n, ns = [n] ∧ v = ρ n ∧ ob n = some (.row te e l)) ∨ (ns = [] ∧ v = .slice none 0 0 ∧ l = []))
  | .ownc _ _, _, _, _ => False
  | .cel e, x, vs, ns => ∃ v, vs = [v] ∧ ((∃ n y, x = some y ∧ e.lit = true ∧ ns = [n] ∧ v = ρ n ∧ ob n = some (.cell (explode e y))) ∨ (ns = [] ∧ v = .pointer none ∧ x = none))
  | .unit, x, vs, ns => Rep w Y .unit x vs ∧ ns = []
  | .int k, x, vs, ns => Rep w Y (.int k) x vs ∧ ns = []
  | .bool, x, vs, ns => Rep w Y .bool x vs ∧ ns = []
  | .str, x, vs, ns => Rep w Y .str x vs ∧ ns = []
  | .fn, x, vs, ns => Rep w Y .fn x vs ∧ ns = []
  | .list e, x, vs, ns => Rep w Y (.list e) x vs ∧ ns = []
  | .ref e, x, vs, ns => Rep w Y (.ref e) x vs ∧ ns = []

def bl (ρ : Nat → Value) (n : Nat) : List Nat := (blk (ρ n)).toList

section
variable {R : Type} {ρ ρ' : Nat → Value} {U U' : Nat → Prop} {ob ob1 : Nat → Option AObj} {w w' : World} {X Z Y Y' : Nat → Prop}

theorem SRep.later (h : Later ρ ρ' U U' w w' Y Y') (hu : ∀ n o, ob n = some o → U n) : ∀ {κ : Kind} {x : κ.T} {vs : List Value} {ns : List Nat}, SRep ρ ob w Y κ x vs ns → SRep ρ' ob w' Y' κ x vs ns
  | .pair a b, x, vs, ns, hr => by
    obtain ⟨us, us', ns1, ns2, h1, h2, h3, h4⟩ := hr
    exact ⟨us, us', ns1, ns2, h1, h2, SRep.later h hu h3, SRep.later h hu h4⟩
  | .own te e, x, vs, ns, hr => by
    obtain ⟨v, h1, h2⟩ := hr
    refine ⟨v, h1, h2.imp (fun ⟨n, g1, g2, g3⟩ => ⟨n, g1, g2.trans (h.same n (hu _ _ g3)).symm, g3⟩) id⟩
  | .ownc _ _, x, vs, ns, hr => hr.elim
  | .cel e, x, vs, ns, hr => by
    obtain ⟨v, h1, h2⟩ := hr
    refine ⟨v, h1, h2.imp (fun ⟨n, y, g0, gl, g1, g2, g3⟩ => ⟨n, y, g0, gl, g1, g2.trans (h.same n (hu _ _ g3)).symm, g3⟩) id⟩
  | .unit, x, vs, ns, hr => ⟨h.rep hr.1, hr.2⟩
  | .int k, x, vs, ns, hr => ⟨h.rep hr.1, hr.2⟩
  | .bool, x, vs, ns, hr => ⟨h.rep hr.1, hr.2⟩
  | .str, x, vs, ns, hr => ⟨h.rep hr.1, hr.2⟩
  | .fn, x, vs, ns, hr => ⟨h.rep hr.1, hr.2⟩
  | .list e, x, vs, ns, hr => ⟨h.rep hr.1, hr.2⟩
  | .ref e, x, vs, ns, hr => ⟨h.rep hr.1, hr.2⟩

theorem Elems.less (h : ∀ b, Y' b → Y b) {e : Kind} {l : List e.T} {vs : List Value} (hr : Elems w Y e l vs) : Elems w Y' e l vs :=
  Elems.later (ρ := fun _ => undef) (ρ' := fun _ => undef) (U := fun _ => True) (U' := fun _ => True) ⟨Nat.le_refl _, fun b _ hb => h b hb, fun _ _ _ => rfl, fun _ h => h, fun _ _ => rfl⟩ hr

theorem Rep.less (h : ∀ b, Y' b → Y b) {κ : Kind} {x : κ.T} {vs : List Value} (hr : Rep w Y κ x vs) : Rep w Y' κ x vs :=
  Rep.keep (Nat.le_refl _) (fun b _ => h b) (fun _ _ _ => rfl) hr

theorem RowRep.less (h : ∀ b, Y' b → Y b) {te : TypeId} {e : Kind} {l : List e.T} {v : Value} (hr : RowRep w Y te e l v) : RowRep w Y' te e l v := by
  obtain ⟨vs, h1, h2⟩ := hr
  exact ⟨vs, h1, Elems.less h h2⟩

theorem GRep.less (h : ∀ b, Y' b → Y b) : ∀ {κ : Kind} {x : κ.T} {vs : List Value} {bs : List Nat}, GRep w Y κ x vs bs → GRep w Y' κ x vs bs
  | .pair a b, x, vs, ns, hr => by
    obtain ⟨us, us', ns1, ns2, h1, h2, h3, h4⟩ := hr
    exact ⟨us, us', ns1, ns2, h1, h2, h3.less h, h4.less h⟩
  | .own te e, x, vs, ns, hr => by
    obtain ⟨v, h1, h2, h3⟩ := hr
    exact ⟨v, h1, h2, h3.less h⟩
  | .ownc te e, x, vs, ns, hr => by
    obtain ⟨v, h1, h2⟩ := hr
    exact ⟨v, h1, h2.imp (fun ⟨g1, g2, g3⟩ => ⟨g1, g2, g3.less h⟩) fun ⟨g1, g2, g3⟩ => ⟨g1, g2, g3.less h⟩⟩
  | .cel e, x, vs, ns, hr => by
    obtain ⟨v, h1, h2, h3⟩ := hr
    refine ⟨v, h1, h2, ?_⟩
    cases x with
    | none => exact h3
    | some y => obtain ⟨b, t, cs, g1, g2, g3⟩ := h3; exact ⟨b, t, cs, g1, g2, g3.less h⟩
  | .unit, x, vs, ns, hr => ⟨hr.1.less h, hr.2⟩
  | .int k, x, vs, ns, hr => ⟨hr.1.less h, hr.2⟩
  | .bool, x, vs, ns, hr => ⟨hr.1.less h, hr.2⟩
  | .str, x, vs, ns, hr => ⟨hr.1.less h, hr.2⟩
  | .fn, x, vs, ns, hr => ⟨hr.1.less h, hr.2⟩
  | .list e, x, vs, ns, hr => ⟨hr.1.less h, hr.2⟩
  | .ref e, x, vs, ns, hr => ⟨hr.1.less h, hr.2⟩

theorem lit_rep : ∀ {κ : Kind} {x : κ.T} {ls : List LV} {vs : List Value}, κ.lit = true → LReps ρ U w Y (explode κ x ++ ls) vs → ∃ vs1 vs2, vs = vs1 ++ vs2 ∧ Rep w Y κ x vs1 ∧ LReps ρ U w Y ls vs2
  | .pair a b, x, ls, vs, hl, h => by
    simp only [Kind.lit, Bool.and_eq_true] at hl
    simp only [explode, List.append_assoc] at h
    obtain ⟨v1, v2, rfl, h1, h2⟩ := lit_rep hl.1 h
    obtain ⟨v3, v4, rfl, h3, h4⟩ := lit_rep hl.2 h2
    exact ⟨v1 ++ v3, v4, by rw [List.append_assoc], ⟨v1, v3, rfl, h1, h3⟩, h4⟩
  | .int k, x, ls, vs, hl, h => by obtain ⟨v, vs', rfl, h1, h2⟩ := h; exact ⟨[v], vs', rfl, h1, h2⟩
  | .bool, x, ls, vs, hl, h => by obtain ⟨v, vs', rfl, h1, h2⟩ := h; exact ⟨[v], vs', rfl, h1, h2⟩
  | .str, x, ls, vs, hl, h => by obtain ⟨v, vs', rfl, h1, h2⟩ := h; exact ⟨[v], vs', rfl, h1, h2⟩
  | .fn, x, ls, vs, hl, h => by obtain ⟨v, vs', rfl, h1, h2⟩ := h; exact ⟨[v], vs', rfl, h1, h2⟩
  | .list e, x, ls, vs, hl, h => by obtain ⟨v, vs', rfl, h1, h2⟩ := h; exact ⟨[v], vs', rfl, h1, h2⟩
  | .ref e, x, ls, vs, hl, h => by obtain ⟨v, vs', rfl, h1, h2⟩ := h; exact ⟨[v], vs', rfl, h1, h2⟩

theorem litLeaf_ok {κ : Kind} {l : LV} {K : κ.T → Option R} {r : R} (h : litLeaf κ l K = some r) : ∃ x, l = .of κ x ∧ K x = some r ∧ ∀ (R' : Type) (K' : κ.T → Option R'), litLeaf κ l K' = K' x := by
  unfold litLeaf at h
  split at h
  · rename_i κ' x
    split at h
    · rename_i hk _
      subst hk
      exact ⟨x, rfl, h, fun R' K' => by simp only [litLeaf, *]⟩
    · cases h
  · cases h

theorem litK_ok {r : R} : ∀ {κ : Kind} {ls : List LV} {K : κ.T → List LV → Option R}, litK κ ls K = some r →
    ∃ x ls', ls = explode κ x ++ ls' ∧ κ.lit = true ∧ K x ls' = some r ∧ ∀ (R' : Type) (K' : κ.T → List LV → Option R'), litK κ ls K' = K' x ls' := by
  intro κ
  induction κ with
  | pair p q ihp ihq =>
    intro ls K h
    simp only [litK] at h
    obtain ⟨x, ls1, rfl, hl1, h1, h2⟩ := ihp h
    obtain ⟨y, ls2, rfl, hl2, h3, h4⟩ := ihq h1
    exact ⟨(x, y), ls2, by simp only [explode, List.append_assoc], by simp only [Kind.lit, hl1, hl2]; rfl, h3, fun R' K' => by simp only [litK, h2, h4]⟩
  | unit => intro ls K h; simp [litK] at h
  | own te e _ => intro ls K h; simp [litK] at h
  | cel e _ => intro ls K h; simp [litK] at h
  | ownc te e _ => intro ls K h; simp [litK] at h
  | _ =>
    intro ls K h
    cases ls with
    | nil => simp [litK] at h
    | cons l ls =>
      obtain ⟨x, rfl, h1, h2⟩ := litLeaf_ok (by simpa only [litK] using h)
      exact ⟨x, ls, rfl, rfl, h1, fun R' K' => by simp only [litK, h2]⟩

theorem SRep.grep (H : Hp Z ρ U ob1 w X) : ∀ {κ : Kind} {x : κ.T} {vs : List Value} {ns : List Nat}, SRep ρ ob w (Own ρ ob1 X) κ x vs ns → (∀ n ∈ ns, ob1 n = ob n) →
    GRep w (Own ρ ob1 X) κ x vs (ns.flatMap (bl ρ))
  | .pair a b, x, vs, ns, hr, hn => by
    obtain ⟨us, us', ns1, ns2, h1, h2, h3, h4⟩ := hr
    subst h2
    exact ⟨us, us', _, _, h1, List.flatMap_append, SRep.grep H h3 fun n hm => hn n (by simp [hm]), SRep.grep H h4 fun n hm => hn n (by simp [hm])⟩
  | .own te e, x, vs, ns, hr, hn => by
    obtain ⟨v, h1, ⟨n, rfl, rfl, h3⟩ | ⟨rfl, rfl, rfl⟩⟩ := hr
    · rw [← hn n (by simp)] at h3
      exact ⟨_, h1, by simp [bl], H.objs n _ h3⟩
    · refine ⟨_, h1, rfl, [], ⟨?_, .inl ⟨rfl, rfl⟩⟩, rfl⟩
      simp
  | .ownc _ _, x, vs, ns, hr, _ => hr.elim
  | .cel e, x, vs, ns, hr, hn => by
    obtain ⟨v, h1, ⟨n, y, rfl, hl, rfl, rfl, h3⟩ | ⟨rfl, rfl, rfl⟩⟩ := hr
    · rw [← hn n (by simp)] at h3
      obtain ⟨b, t, cs, g1, g2, g3⟩ := H.objs n _ h3
      obtain ⟨c1, c2, rfl, g4, g5⟩ := lit_rep (ls := []) hl (by rw [List.append_nil]; exact g3)
      rw [show c2 = [] from g5, List.append_nil] at g2
      exact ⟨_, h1, by simp [bl], b, t, c1, g1, g2, g4⟩
    · exact ⟨_, h1, rfl, rfl⟩
  | .unit, x, vs, ns, hr, _ => ⟨hr.1, by rw [hr.2]; rfl⟩
  | .int k, x, vs, ns, hr, _ => ⟨hr.1, by rw [hr.2]; rfl⟩
  | .bool, x, vs, ns, hr, _ => ⟨hr.1, by rw [hr.2]; rfl⟩
  | .str, x, vs, ns, hr, _ => ⟨hr.1, by rw [hr.2]; rfl⟩
  | .fn, x, vs, ns, hr, _ => ⟨hr.1, by rw [hr.2]; rfl⟩
  | .list e, x, vs, ns, hr, _ => ⟨hr.1, by rw [hr.2]; rfl⟩
  | .ref e, x, vs, ns, hr, _ => ⟨hr.1, by rw [hr.2]; rfl⟩

/-- names are handed over only as rows -/
theorem SRep.rows : ∀ {κ : Kind} {x : κ.T} {vs : List Value} {ns : List Nat}, SRep ρ ob w Y κ x vs ns → ∀ n ∈ ns, ∃ o, ob n = some o ∧ o.owned = true
  | .pair a b, x, vs, ns, hr => by
    obtain ⟨us, us', ns1, ns2, h1, h2, h3, h4⟩ := hr
    subst h2
    intro n hn
    rcases List.mem_append.1 hn with hn | hn
    · exact SRep.rows h3 n hn
    · exact SRep.rows h4 n hn
  | .own te e, x, vs, ns, hr => by
    obtain ⟨v, h1, ⟨n, rfl, rfl, h3⟩ | ⟨rfl, rfl, rfl⟩⟩ := hr
    · intro m hm; simp at hm; subst hm; exact ⟨_, h3, rfl⟩
    · intro m hm; cases hm
  | .ownc _ _, x, vs, ns, hr => hr.elim
  | .cel e, x, vs, ns, hr => by
    obtain ⟨v, h1, ⟨n, y, rfl, hl, rfl, rfl, h3⟩ | ⟨rfl, rfl, rfl⟩⟩ := hr
    · intro m hm; simp at hm; subst hm; exact ⟨_, h3, rfl⟩
    · intro m hm; cases hm
  | .unit, x, vs, ns, hr => by rw [hr.2]; intro n hn; cases hn
  | .int k, x, vs, ns, hr => by rw [hr.2]; intro n hn; cases hn
  | .bool, x, vs, ns, hr => by rw [hr.2]; intro n hn; cases hn
  | .str, x, vs, ns, hr => by rw [hr.2]; intro n hn; cases hn
  | .fn, x, vs, ns, hr => by rw [hr.2]; intro n hn; cases hn
  | .list e, x, vs, ns, hr => by rw [hr.2]; intro n hn; cases hn
  | .ref e, x, vs, ns, hr => by rw [hr.2]; intro n hn; cases hn

theorem shareO_ok (hu : ∀ n o, ob n = some o → U n) : ∀ {κ : Kind} {ls : List LV} {vs : List Value} {K : κ.T → List LV → List (Nat × Option AObj) → List Nat → Option R} {r : R} {ob1 : Nat → Option AObj},
    shareO ob κ ls K = some r → Sharing ob ob1 → Hp Z ρ U ob1 w X → LReps ρ U w (Own ρ ob1 X) ls vs →
    ∃ x ls' u ns vs1 vs2, K x ls' u ns = some r ∧ vs = vs1 ++ vs2 ∧ Sharing ob (applyU u ob1) ∧ Nx ρ ρ U U ob1 (applyU u ob1) w w ∧ Hp Z ρ U (applyU u ob1) w X ∧
      SRep ρ ob w (Own ρ (applyU u ob1) X) κ x vs1 ns ∧ LReps ρ U w (Own ρ (applyU u ob1) X) ls' vs2 := by
  intro κ
  induction κ with
  | pair p q ihp ihq =>
    intro ls vs K r ob1 h hs H hl
    simp only [shareO] at h
    obtain ⟨x, ls1, u, ns, vs1, vs2, h1, rfl, h3, h4, h5, h6, h7⟩ := ihp h hs H hl
    obtain ⟨y, ls2, u', ns', vs3, vs4, g1, rfl, g3, g4, g5, g6, g7⟩ := ihq h1 h3 h5 h7
    refine ⟨(x, y), ls2, u' ++ u, ns ++ ns', vs1 ++ vs3, vs4, g1, by rw [List.append_assoc], ?_, ?_, ?_, ?_, ?_⟩
    · rw [applyU_append]; exact g3
    · rw [applyU_append]; exact h4.trans g4
    · rw [applyU_append]; exact g5
    · rw [applyU_append]; exact ⟨vs1, vs3, ns, ns', rfl, rfl, SRep.later g4.later hu h6, g6⟩
    · rw [applyU_append]; exact g7
  | own te e _ =>
    intro ls vs K r ob1 h hs H hl
    cases ls with
    | nil => simp [shareO] at h
    | cons l ls =>
      simp only [shareO] at h
      obtain ⟨v, vs', rfl, h2, h3⟩ := hl
      split at h
      · rename_i n
        obtain ⟨hu', rfl⟩ := h2
        split at h
        · rename_i te' e' l' hn
          split at h
          · rename_i h6 h5 _
            obtain rfl := Nat.eq_of_beq_eq_true h5
            subst h6
            exact ⟨l', ls, [], [n], [ρ n], vs', h, rfl, hs, Nx.refl, H, ⟨_, rfl, .inl ⟨n, rfl, rfl, hn⟩⟩, h3⟩
          · cases h
        · cases h
      · rw [show v = .slice none 0 0 from h2]
        exact ⟨[], ls, [], [], [.slice none 0 0], vs', h, rfl, hs, Nx.refl, H, ⟨_, rfl, .inr ⟨rfl, rfl, rfl⟩⟩, h3⟩
      · cases h
  | ownc te e _ => intro ls vs K r ob1 h hs H hl; cases ls <;> simp [shareO] at h
  | cel e _ =>
    intro ls vs K r ob1 h hs H hl
    cases ls with
    | nil => simp [shareO] at h
    | cons l ls =>
      simp only [shareO] at h
      obtain ⟨v, vs', rfl, h2, h3⟩ := hl
      split at h
      · rename_i n
        split at h
        · rename_i ls' hn
          obtain ⟨y, rest, rfl, hlit, h4, h5⟩ := litK_ok h
          split at h4
          · rw [List.append_nil] at hn
            exact ⟨some y, ls, [], [n], [v], vs', h4, rfl, hs, Nx.refl, H, ⟨_, rfl, .inl ⟨n, y, rfl, hlit, rfl, (by obtain ⟨_, b, e1, e2⟩ := h2; exact e2.trans e1.symm), hn⟩⟩, h3⟩
          · cases h4
        · cases h
      · rw [show v = .pointer none from h2]
        exact ⟨none, ls, [], [], [.pointer none], vs', h, rfl, hs, Nx.refl, H, ⟨_, rfl, .inr ⟨rfl, rfl, rfl⟩⟩, h3⟩
      · cases h
  | unit =>
    intro ls vs K r ob1 h hs H hl
    obtain ⟨x, ls', u, vs1, vs2, h1, h2, h3, h4, h5, h6, h7⟩ := share_ok h hs H hl
    exact ⟨x, ls', u, [], vs1, vs2, h1, h2, h3, h4, h5, ⟨h6, rfl⟩, h7⟩
  | int k =>
    intro ls vs K r ob1 h hs H hl
    obtain ⟨x, ls', u, vs1, vs2, h1, h2, h3, h4, h5, h6, h7⟩ := share_ok h hs H hl
    exact ⟨x, ls', u, [], vs1, vs2, h1, h2, h3, h4, h5, ⟨h6, rfl⟩, h7⟩
  | bool =>
    intro ls vs K r ob1 h hs H hl
    obtain ⟨x, ls', u, vs1, vs2, h1, h2, h3, h4, h5, h6, h7⟩ := share_ok h hs H hl
    exact ⟨x, ls', u, [], vs1, vs2, h1, h2, h3, h4, h5, ⟨h6, rfl⟩, h7⟩
  | str =>
    intro ls vs K r ob1 h hs H hl
    obtain ⟨x, ls', u, vs1, vs2, h1, h2, h3, h4, h5, h6, h7⟩ := share_ok h hs H hl
    exact ⟨x, ls', u, [], vs1, vs2, h1, h2, h3, h4, h5, ⟨h6, rfl⟩, h7⟩
  | fn =>
    intro ls vs K r ob1 h hs H hl
    obtain ⟨x, ls', u, vs1, vs2, h1, h2, h3, h4, h5, h6, h7⟩ := share_ok h hs H hl
    exact ⟨x, ls', u, [], vs1, vs2, h1, h2, h3, h4, h5, ⟨h6, rfl⟩, h7⟩
  | list e _ =>
    intro ls vs K r ob1 h hs H hl
    obtain ⟨x, ls', u, vs1, vs2, h1, h2, h3, h4, h5, h6, h7⟩ := share_ok h hs H hl
    exact ⟨x, ls', u, [], vs1, vs2, h1, h2, h3, h4, h5, ⟨h6, rfl⟩, h7⟩
  | ref e _ =>
    intro ls vs K r ob1 h hs H hl
    obtain ⟨x, ls', u, vs1, vs2, h1, h2, h3, h4, h5, h6, h7⟩ := share_ok h hs H hl
    exact ⟨x, ls', u, [], vs1, vs2, h1, h2, h3, h4, h5, ⟨h6, rfl⟩, h7⟩
end
end Go.AM

set_option linter.unusedVariables false
set_option linter.unusedSimpArgs false
namespace Go.AM

/-- objects are taken over: blocks of X become ours -/
structure Ad (ρ ρ' : Nat → Value) (U U' : Nat → Prop) (ob ob' : Nat → Option AObj) (X X' : Nat → Prop) (w : World) (N : Nat → Prop) : Prop where
  later : Later ρ ρ' U U' w w (Own ρ ob X) (Own ρ' ob' X')
  loc : ∀ b, Local ρ' ob' b → Local ρ ob b ∨ (X b ∧ ¬ X' b)
  xx : ∀ b, X' b → X b
  fresh : ∀ n, U' n → U n ∨ N n
  objs : ∀ n, ¬ N n → ob' n = ob n

section
variable {R : Type} {ρ ρ' ρ'' : Nat → Value} {U U' U'' : Nat → Prop} {ob ob' ob'' : Nat → Option AObj} {w w' : World} {X X' X'' Z Y Y' : Nat → Prop} {N N' : Nat → Prop}

theorem Later.trans {w'' : World} {Y'' : Nat → Prop} (h : Later ρ ρ' U U' w w' Y Y') (h' : Later ρ' ρ'' U' U'' w' w'' Y' Y'') : Later ρ ρ'' U U'' w w'' Y Y'' :=
  ⟨Nat.le_trans h.size h'.size, fun b hb hY => h.own b hb (h'.own b (Nat.lt_of_lt_of_le hb h.size) hY),
    fun b hb hY => (h'.keep b (Nat.lt_of_lt_of_le hb h.size) fun h1 => hY (h.own b hb h1)).trans (h.keep b hb hY),
    fun n hn => h'.used n (h.used n hn), fun n hn => (h'.same n (h.used n hn)).trans (h.same n hn)⟩

theorem Ad.refl : Ad ρ ρ U U ob ob X X w N := ⟨Later.refl, fun _ h => .inl h, fun _ h => h, fun _ h => .inl h, fun _ _ => rfl⟩

theorem Ad.trans (h : Ad ρ ρ' U U' ob ob' X X' w N) (h' : Ad ρ' ρ'' U' U'' ob' ob'' X' X'' w N') : Ad ρ ρ'' U U'' ob ob'' X X'' w (fun n => N n ∨ N' n) := by
  refine ⟨h.later.trans h'.later, fun b hb => ?_, fun b hb => h.xx b (h'.xx b hb), fun n hn => ?_, fun n hn => ?_⟩
  · rcases h'.loc b hb with h1 | ⟨h1, h2⟩
    · rcases h.loc b h1 with h3 | ⟨h3, h4⟩
      · exact .inl h3
      · exact .inr ⟨h3, fun h5 => h4 (h'.xx b h5)⟩
    · exact .inr ⟨h.xx b h1, h2⟩
  · rcases h'.fresh n hn with h1 | h1
    · exact (h.fresh n h1).imp id .inl
    · exact .inr (.inr h1)
  · rw [h'.objs n fun h1 => hn (.inr h1), h.objs n fun h1 => hn (.inl h1)]

theorem Ad.mono (h : Ad ρ ρ' U U' ob ob' X X' w N) (hN : ∀ n, N n → N' n) : Ad ρ ρ' U U' ob ob' X X' w N' :=
  ⟨h.later, h.loc, h.xx, fun n hn => (h.fresh n hn).imp id (hN n), fun n hn => h.objs n fun h1 => hn (hN n h1)⟩

theorem Hp.adopt (h : Hp Z ρ U ob w X) {m : Nat} {o : AObj} {v : Value} (hm : ob m = none) (hU : ¬ U m ∨ ρ m = v) (hX : ∀ b, X b ↔ X' b ∨ blk v = some b)
    (hn : ∀ b, blk v = some b → ¬ X' b) (hZ : ∀ b, blk v = some b → Z b) (hv1 : v.oneCell' = true) (hown : o.owned = true)
    (ho : ORep ρ U w (Own ρ ob X) o v) :
    Ad ρ (upd ρ m v) U (fun n => U n ∨ n = m) ob (upd ob m (some o)) X X' w (· = m) ∧ Hp Z (upd ρ m v) (fun n => U n ∨ n = m) (upd ob m (some o)) w X' := by
  have hne : ∀ n o', ob n = some o' → n ≠ m := fun n o' hn' e => by rw [e, hm] at hn'; cases hn'
  have at' : ∀ k o', upd ob m (some o) k = some o' → (k = m ∧ o' = o) ∨ (k ≠ m ∧ ob k = some o' ∧ upd ρ m v k = ρ k) := fun k o' hk' => by
    by_cases e : k = m
    · subst e; rw [upd_same] at hk'; simp only [Option.some.injEq] at hk'; exact .inl ⟨rfl, hk'.symm⟩
    · rw [upd_other _ _ e] at hk'; exact .inr ⟨e, hk', upd_other _ _ e⟩
  have hloc : ∀ b, Local (upd ρ m v) (upd ob m (some o)) b → Local ρ ob b ∨ blk v = some b := fun b hb => by
    obtain ⟨n, o', h1, h2, h3⟩ := hb
    rcases at' n o' h1 with ⟨rfl, rfl⟩ | ⟨h4, h5, h6⟩
    · rw [upd_same] at h3; exact .inr h3
    · exact .inl ⟨n, o', h5, h2, h6 ▸ h3⟩
  have hlater : Later ρ (upd ρ m v) U (fun n => U n ∨ n = m) w w (Own ρ ob X) (Own (upd ρ m v) (upd ob m (some o)) X') := by
    refine ⟨Nat.le_refl _, fun b _ hb => ?_, fun _ _ _ => rfl, fun n hn => .inl hn, fun n hn => ?_⟩
    · rcases hb with hb | hb
      · exact .inl ((hX b).2 (.inl hb))
      · rcases hloc b hb with hb | hb
        · exact .inr hb
        · exact .inl ((hX b).2 (.inr hb))
    · by_cases e : n = m
      · subst e; rw [upd_same]; rcases hU with hU | hU
        · exact absurd hn hU
        · exact hU.symm
      · exact upd_other _ _ e
  refine ⟨⟨hlater, fun b hb => ?_, fun b hb => (hX b).2 (.inl hb), fun n hn => hn, fun n hn => upd_other _ _ hn⟩, ⟨fun n o' hn' => ?_, fun n1 n2 o1 o2 g h1 h2 ho1 ho2 hb1 hb2 => ?_, fun n o' hn' => ?_, fun b hb => h.xlt b ((hX b).2 (.inl hb)), fun b hb hX' => ?_, fun b hb => ?_, h.znew, fun n hn' => ?_⟩⟩
  · rcases hloc b hb with h1 | h1
    · exact .inl h1
    · exact .inr ⟨(hX b).2 (.inr h1), hn b h1⟩
  · rcases at' n o' hn' with ⟨rfl, rfl⟩ | ⟨h4, h5, h6⟩
    · exact .inr rfl
    · exact .inl (h.used _ _ h5)
  · rcases at' n1 o1 h1 with ⟨rfl, rfl⟩ | ⟨h4, h5, h6⟩ <;> rcases at' n2 o2 h2 with ⟨rfl, h7⟩ | ⟨h7, h8, h9⟩
    · rfl
    · rw [upd_same] at hb1
      exact absurd ((hX g).2 (.inr hb1)) (h.apart g ⟨n2, o2, h8, ho2, h9 ▸ hb2⟩)
    · rw [upd_same] at hb2
      exact absurd ((hX g).2 (.inr hb2)) (h.apart g ⟨n1, o1, h5, ho1, h6 ▸ hb1⟩)
    · exact h.inj _ _ _ _ g h5 h8 ho1 ho2 (h6 ▸ hb1) (h9 ▸ hb2)
  · rcases at' n o' hn' with ⟨rfl, rfl⟩ | ⟨h4, h5, h6⟩
    · rw [upd_same]; exact ORep.later hlater (fun _ _ _ => rfl) ho
    · rw [h6]; exact ORep.later hlater (fun _ _ _ => rfl) (h.objs _ _ h5)
  · rcases hloc b hb with h1 | h1
    · exact h.apart b h1 ((hX b).2 (.inl hX'))
    · exact hn b h1 hX'
  · rcases hloc b hb with h1 | h1
    · exact h.ours b h1
    · exact hZ b h1
  · by_cases e : n = m
    · subst e; rw [upd_same]; exact hv1
    · rw [upd_other _ _ e]; exact h.plain n (hn'.resolve_right e)

theorem RowRep.oneCell {te : TypeId} {e : Kind} {l : List e.T} {v : Value} (h : RowRep w Y te e l v) : v.oneCell' = true := by
  obtain ⟨vs, h1, _⟩ := h
  rcases h1.2 with ⟨rfl, _⟩ | ⟨g, cap, cur, rfl, _⟩ <;> rfl

abbrev minus (X : Nat → Prop) (bs : List Nat) : Nat → Prop := fun b => X b ∧ b ∉ bs

theorem minus_nil : minus X [] = X := by funext b; simp [minus]
theorem minus_append (bs bs' : List Nat) : minus (minus X bs) bs' = minus X (bs ++ bs') := by funext b; simp [minus, and_assoc]

abbrev rng (m m' : Nat) : Nat → Prop := fun n => m ≤ n ∧ n < m'

theorem explodeO_ok : ∀ {κ : Kind} {x : κ.T} {m : Nat} {K : List LV → List (Nat × Option AObj) → Nat → Option R} {r : R} {ρ : Nat → Value} {U : Nat → Prop} {ob : Nat → Option AObj} {X : Nat → Prop} {vs : List Value} {bs : List Nat},
    explodeO κ x m K = some r → Hp Z ρ U ob w X → (∀ n, m ≤ n → ¬ U n) → GRep w (Own ρ ob X) κ x vs bs → bs.Nodup → (∀ b ∈ bs, X b ∧ Z b) →
    ∃ ls u m' ρ' U', K ls u m' = some r ∧ m ≤ m' ∧ Hp Z ρ' U' (applyU u ob) w (minus X bs) ∧ Ad ρ ρ' U U' ob (applyU u ob) X (minus X bs) w (rng m m') ∧
      LReps ρ' U' w (Own ρ' (applyU u ob) (minus X bs)) ls vs := by
  intro κ
  have base : ∀ {κ : Kind} {x : κ.T} {m : Nat} {K : List LV → List (Nat × Option AObj) → Nat → Option R} {r : R} {ρ : Nat → Value} {U : Nat → Prop} {ob : Nat → Option AObj} {X : Nat → Prop} {vs : List Value} {bs : List Nat},
      K (explode κ x) [] m = some r → Hp Z ρ U ob w X → Rep w (Own ρ ob X) κ x vs → bs = [] →
      ∃ ls u m' ρ' U', K ls u m' = some r ∧ m ≤ m' ∧ Hp Z ρ' U' (applyU u ob) w (minus X bs) ∧ Ad ρ ρ' U U' ob (applyU u ob) X (minus X bs) w (rng m m') ∧
        LReps ρ' U' w (Own ρ' (applyU u ob) (minus X bs)) ls vs := by
    intro κ x m K r ρ U ob X vs bs h H hr hb
    subst hb
    rw [minus_nil]
    exact ⟨_, [], m, ρ, U, h, Nat.le_refl _, H, Ad.refl, explode_rep hr⟩
  induction κ with
  | pair p q ihp ihq =>
    intro x m K r ρ U ob X vs bs h H hU hr hd hX
    simp only [explodeO] at h
    obtain ⟨us, us', bs1, bs2, rfl, rfl, hr1, hr2⟩ := hr
    rw [List.nodup_append] at hd
    obtain ⟨hd1, hd2, hd3⟩ := hd
    obtain ⟨ls, u, m1, ρ1, U1, g1, g2, g3, g4, g5⟩ := ihp h H hU hr1 hd1 fun b hb => hX b (by simp [hb])
    obtain ⟨ls', u', m2, ρ2, U2, k1, k2, k3, k4, k5⟩ := ihq g1 g3 (fun n hn hu => by
        rcases g4.fresh n hu with h1 | h1
        · exact hU n (by omega) h1
        · exact absurd h1.2 (by omega)) (GRep.less (fun b hb => g4.later.own b (by
          rcases hb with hb | ⟨n, o, h1, h2, h3⟩
          · exact g3.xlt b hb
          · exact (g3.objs _ _ h1).lt h2 h3) hb) hr2) hd2 fun b hb => ⟨⟨(hX b (by simp [hb])).1, fun h1 => hd3 b h1 b hb rfl⟩, (hX b (by simp [hb])).2⟩
    refine ⟨ls ++ ls', u' ++ u, m2, ρ2, U2, k1, by omega, ?_, ?_, ?_⟩
    · rw [applyU_append, ← minus_append]; exact k3
    · rw [applyU_append, ← minus_append]
      exact (g4.trans k4).mono fun n hn => by rcases hn with hn | hn <;> exact ⟨by omega, by omega⟩
    · rw [applyU_append, ← minus_append]
      exact LReps.append (LReps.later k4.later g5) k5
  | own te e _ =>
    intro x m K r ρ U ob X vs bs h H hU hr hd hX
    simp only [explodeO] at h
    obtain ⟨v, rfl, rfl, hrow⟩ := hr
    have hm : ob m = none := by
      cases hh : ob m with
      | none => rfl
      | some o => exact absurd (H.used m o hh) (hU m (Nat.le_refl _))
    obtain ⟨g1, g2⟩ := H.adopt (m := m) (o := .row te e x) (v := v) (X' := minus X (blk v).toList) hm (.inl (hU m (Nat.le_refl _)))
      (fun b => ⟨fun hb => by by_cases e : blk v = some b <;> simp [minus, e, hb], fun hb => by
        rcases hb with hb | hb
        · exact hb.1
        · exact (hX b (by simp [hb])).1⟩) (fun b hb h1 => h1.2 (by simp [hb])) (fun b hb => (hX b (by simp [hb])).2) hrow.oneCell rfl hrow
    refine ⟨[.view m], [(m, some (.row te e x))], m + 1, _, _, h, by omega, g2, g1.mono (fun n hn => ⟨by omega, by omega⟩), ⟨v, [], rfl, ⟨.inr rfl, by rw [upd_same]⟩, rfl⟩⟩
  | ownc te e _ =>
    intro x m K r ρ U ob X vs bs h H hU hr hd hX
    simp only [explodeO] at h
    obtain ⟨v, rfl, ⟨rfl, rfl, hr⟩ | ⟨hne, rfl, hrow⟩⟩ := hr
    · rw [minus_nil]
      exact ⟨_, [], m, ρ, U, h, Nat.le_refl _, H, Ad.refl, ⟨_, [], rfl, hr, rfl⟩⟩
    replace h : K [.view m] [(m, some (.row te e x))] (m + 1) = some r := by
      cases x with
      | nil => exact absurd rfl hne
      | cons y l => exact h
    have hm : ob m = none := by
      cases hh : ob m with
      | none => rfl
      | some o => exact absurd (H.used m o hh) (hU m (Nat.le_refl _))
    obtain ⟨g1, g2⟩ := H.adopt (m := m) (o := .row te e x) (v := v) (X' := minus X (blk v).toList) hm (.inl (hU m (Nat.le_refl _)))
      (fun b => ⟨fun hb => by by_cases e : blk v = some b <;> simp [minus, e, hb], fun hb => by
        rcases hb with hb | hb
        · exact hb.1
        · exact (hX b (by simp [hb])).1⟩) (fun b hb h1 => h1.2 (by simp [hb])) (fun b hb => (hX b (by simp [hb])).2) hrow.oneCell rfl hrow
    refine ⟨[.view m], [(m, some (.row te e x))], m + 1, _, _, h, by omega, g2, g1.mono (fun n hn => ⟨by omega, by omega⟩), ⟨v, [], rfl, ⟨.inr rfl, by rw [upd_same]⟩, rfl⟩⟩
  | cel e _ =>
    intro x m K r ρ U ob X vs bs h H hU hr hd hX
    simp only [explodeO] at h
    obtain ⟨v, rfl, rfl, hrow⟩ := hr
    cases x with
    | none =>
      rw [show v = .pointer none from hrow]
      simp only [blk, Option.toList]
      rw [minus_nil]
      exact ⟨_, [], m, ρ, U, h, Nat.le_refl _, H, Ad.refl, ⟨_, [], rfl, rfl, rfl⟩⟩
    | some y =>
      have hm : ob m = none := by
        cases hh : ob m with
        | none => rfl
        | some o => exact absurd (H.used m o hh) (hU m (Nat.le_refl _))
      obtain ⟨b, t, cs, hv, hb, hr⟩ := hrow
      obtain ⟨g1, g2⟩ := H.adopt (m := m) (o := .cell (explode e y)) (v := v) (X' := minus X (blk v).toList) hm (.inl (hU m (Nat.le_refl _)))
        (fun b => ⟨fun hb => by by_cases e : blk v = some b <;> simp [minus, e, hb], fun hb => by
          rcases hb with hb | hb
          · exact hb.1
          · exact (hX b (by simp [hb])).1⟩) (fun b hb h1 => h1.2 (by simp [hb])) (fun b hb => (hX b (by simp [hb])).2) (by rw [hv]; rfl) rfl ⟨b, t, cs, hv, hb, explode_rep hr⟩
      refine ⟨[.ptr m 0], [(m, some (.cell (explode e y)))], m + 1, _, _, h, by omega, g2, g1.mono (fun n hn => ⟨by omega, by omega⟩), ⟨v, [], rfl, ?_, rfl⟩⟩
      exact ⟨.inr rfl, b, by rw [upd_same]; exact hv, hv⟩
  | unit => intro x m K r ρ U ob X vs bs h H hU hr hd hX; exact base (κ := .unit) (x := x) h H hr.1 hr.2
  | int k => intro x m K r ρ U ob X vs bs h H hU hr hd hX; exact base (κ := .int k) (x := x) h H hr.1 hr.2
  | bool => intro x m K r ρ U ob X vs bs h H hU hr hd hX; exact base (κ := .bool) (x := x) h H hr.1 hr.2
  | str => intro x m K r ρ U ob X vs bs h H hU hr hd hX; exact base (κ := .str) (x := x) h H hr.1 hr.2
  | fn => intro x m K r ρ U ob X vs bs h H hU hr hd hX; exact base (κ := .fn) (x := x) h H hr.1 hr.2
  | list e _ => intro x m K r ρ U ob X vs bs h H hU hr hd hX; exact base (κ := .list e) (x := x) h H hr.1 hr.2
  | ref e _ => intro x m K r ρ U ob X vs bs h H hU hr hd hX; exact base (κ := .ref e) (x := x) h H hr.1 hr.2
end
end Go.AM
