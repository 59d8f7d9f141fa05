/- The abstract machine, part 2: its operations do what the program's do. Conditions: those of each lemma. -/
import Derived.Test.YthkmjjdpfcghcaaDoorPSA1
import Derived.Laws.Strings
import Derived.Laws.Tables
import Derived.Laws.StructEq
import Derived.Laws.BytesString
import Derived.Laws.Cover4
import Derived.Lib.ConvBytes
import Derived.Laws.IdiomStrings
set_option linter.unusedVariables false
set_option linter.unusedSimpArgs false
namespace Go.AM

section
variable {P : Program} {E : Env} {R : Type} {ρ : Nat → Value} {U : Nat → Prop} {hp : List (Nat × Option AObj)} {w : World} {X Z : Nat → Prop}
  {a : Act} {o : Oper} {m : Nat} {K : CV → Ups → Option R} {r : R} {Q : Exit → Act → World → Prop}

theorem Elems.set {Y : Nat → Prop} {e : Kind} : ∀ {l : List e.T} {vs : List Value} {j : Nat} {x : e.T} {us : List Value}, Elems w Y e l vs → Rep w Y e x us → j < l.length →
    Elems w Y e (l.set j x) (vs.take (j * e.size) ++ us ++ vs.drop (j * e.size + e.size))
  | [], _, j, _, _, _, _, hj => by simp at hj
  | y :: l, vs, 0, x, us, h, hx, hj => by
    obtain ⟨us', vs', rfl, h2, h3⟩ := h
    have hl := Rep.length h2
    refine ⟨us, vs', ?_, hx, h3⟩
    simp only [Nat.zero_mul, Nat.zero_add, List.take_zero, List.nil_append]
    rw [← hl, List.drop_left]
  | y :: l, vs, j + 1, x, us, h, hx, hj => by
    obtain ⟨us', vs', rfl, h2, h3⟩ := h
    have hl := Rep.length h2
    have ih := Elems.set (j := j) h3 hx (by simpa using hj)
    refine ⟨us', _, ?_, h2, ih⟩
    have e1 : (j + 1) * e.size = us'.length + j * e.size := by rw [hl, Nat.add_mul]; omega
    rw [e1, List.take_length_add_append, Nat.add_assoc, List.drop_length_add_append]
    simp [List.append_assoc]

theorem op_store_row {t : TypeId} {x y : Operand} {n j : Nat} {te : TypeId} {q : TR} {e : Kind} {l : List e.T} {c : CV} {new : List LV} (hE : EnvOk P E) (ho : o.op = .store t x y) (hH : Hp Z ρ U (look none hp) w X)
    (hx : CRep ρ U w (Own ρ (look none hp) X) (.one (.rptr n j e.size)) (a.eval x)) (hy : CRep ρ U w (Own ρ (look none hp) X) c (a.eval y)) (hl : leavesOf c = some new) (hok : okLs new = true)
    (hn : look none hp n = some (.row te e l)) (ht : E.tr t = some q) (hsz : e.size = q.size) (hpos : 0 < e.size)
    (h : share (look none hp) e new (fun x ls u => match ls with
          | [] => match applyU u (look none hp) n with
            | some (.row te' e' l') => K .undef ((n, some (.row te e (l.set j x))) :: u)
            | _ => none
          | _ => none) = some r) : o.wp P a w (Post ρ U hp w X Z a o m K r) Q := by
  obtain ⟨h1, h2, i, h3, h4, _⟩ := hE.tr t q ht
  obtain ⟨hn1, hn2⟩ := leavesOf_rep hH.plain hl hok hy
  obtain ⟨x', ls', u, vs1, vs2, hk, hvs, hsh, hnx, hH1, hr, hls⟩ := share_ok h (Sharing.refl _) hH hn1
  have hx1 := CRep.later hnx.later hx
  simp only [CRep, LRep] at hx1
  obtain ⟨hu, g, len, cap, hvn, hj, hv⟩ := hx1
  split at hk
  case h_2 => cases hk
  split at hk
  case h_2 => cases hk
  rename_i te' e' l' hn'
  -- the row is still ours
  have hrow : applyU u (look none hp) n = some (.row te e l) := by
    rcases hsh n with h5 | ⟨_, _, _, h5, h6⟩
    · rw [h5, hn]
    · rw [h6] at hn'; cases hn'
  obtain rfl : vs2 = [] := hls
  rw [List.append_nil] at hvs
  obtain ⟨vs, hown, hel⟩ := hH1.objs n _ hrow
  rcases hown.2 with ⟨hnil, _⟩ | ⟨g', cap', cur, hvn', _, hg, hle, hmax, hcur, htake⟩
  · rw [hvn] at hnil; cases hnil
  rw [hvn] at hvn'
  simp only [Value.slice.injEq, Option.some.injEq, Addr.mk.injEq, and_true] at hvn'
  obtain ⟨rfl, rfl, rfl⟩ := hvn'
  have hcs : (a.eval y).cells.size = e.size := by have := hr.length; rw [← hvs] at this; simpa using this
  have hjn : j * e.size + e.size ≤ l.length * e.size := by
    have := Nat.mul_le_mul_right e.size (show j + 1 ≤ l.length by omega)
    rw [Nat.add_mul] at this
    omega
  have hcl : l.length * e.size ≤ cur.size := by rw [hcur]; exact Nat.mul_le_mul_right _ hle
  have hst := run_storeAt (P := P) w g (j * e.size) te t cur (a.eval y) hg (by simp [h3, h4, hcs, hsz]) (by rw [hcs]; omega) hn2
  rw [hcs, hvs] at hst
  have hbn : blk (ρ n) = some g := by rw [hvn]; rfl
  have hk' : ∀ b, b < w.heap.size → blk (ρ n) ≠ some b → (w.setRow g (cur.toList.take (j * e.size) ++ vs1 ++ cur.toList.drop (j * e.size + e.size)).toArray).heap[b]? = w.heap[b]? :=
    fun b _ hne => setRow_other w g b _ (fun e => hne (e ▸ hbn))
  have hx' := hH1.nx_set (w' := w.setRow g (cur.toList.take (j * e.size) ++ vs1 ++ cur.toList.drop (j * e.size + e.size)).toArray) (.row te e (l.set j x')) hrow rfl Gr.setRow hk'
  have hv1 := hr.length
  have hH' := (hH1.set (w' := w.setRow g (cur.toList.take (j * e.size) ++ vs1 ++ cur.toList.drop (j * e.size + e.size)).toArray) (o1 := .row te e (l.set j x')) hrow rfl Gr.setRow hk'
    ⟨vs.take (j * e.size) ++ vs1 ++ vs.drop (j * e.size + e.size), ⟨?_, .inr ⟨g, cap, _, by rw [List.length_set]; exact hvn, Nat.zero_le _, setRow_heap w g cur _ te (0, 0) hg, by rw [List.length_set]; exact hle, hmax, ?_, ?_⟩⟩,
      Elems.later hx'.later (hel.set hr hj)⟩).2
  · refine wp_skip' (w' := w.setRow g (cur.toList.take (j * e.size) ++ vs1 ++ cur.toList.drop (j * e.size + e.size)).toArray) ?_ ⟨_, _, _, ρ, U, hk, rfl, ?_, ?_, ?_, fun n hn => .inl hn⟩
    · simp only [execOp, ho, hv]
      simp only [Sem.run_bind, hst]
      rfl
    · rw [look_app]; exact hnx.trans hx'
    · rw [look_app]; exact hH'
    · simp [CRep]
  · have := hel.length
    simp only [List.length_append, List.length_take, List.length_drop, List.length_set, hv1]
    omega
  · simp only [List.size_toArray, List.length_append, List.length_take, List.length_drop, Array.length_toList, hv1]
    omega
  · rw [List.length_set]
    simp only [List.append_assoc]
    rw [← htake]
    have a1 : (cur.toList.take (j * e.size)).length = j * e.size := by rw [List.length_take, Array.length_toList]; omega
    rw [List.take_append, a1, List.take_append, hv1]
    congr 1
    · rw [List.take_take, List.take_take]; congr 1; omega
    congr 1
    · rw [List.take_of_length_le (by omega)]
    · rw [List.drop_take]
      congr 1
      omega
end
end Go.AM

set_option linter.unusedVariables false
set_option linter.unusedSimpArgs false
namespace Go.AM

section
variable {P : Program} {E : Env} {R : Type} {ρ : Nat → Value} {U : Nat → Prop} {hp : List (Nat × Option AObj)} {w : World} {X Z : Nat → Prop}
  {a : Act} {o : Oper} {m : Nat} {K : CV → Ups → Option R} {r : R} {Q : Exit → Act → World → Prop}

theorem run_bound (z : Int) (k : IntKind) (y : Nat) (code : BoundsCode) (h0 : 0 ≤ z) (h1 : z ≤ y) : (Instr.sliceBound (.int k z) y code).run P w = .ok z.toNat w := by
  simp [Instr.sliceBound, asIntOf, h0, h1]

theorem run_sliceAt {t te : TypeId} {ie : TypeInfo} (h1 : P.underlying t = some (.slice te)) (h3 : P.info? te = some ie) (A : Option Addr) (n cap : Nat) (lo hi : Option Value) (i j : Nat)
    (hlo : (lo = none ∧ i = 0) ∨ ∃ k z, lo = some (.int k z) ∧ 0 ≤ z ∧ z.toNat = i) (hhi : (hi = none ∧ j = n) ∨ ∃ k z, hi = some (.int k z) ∧ 0 ≤ z ∧ z.toNat = j)
    (hij : i ≤ j) (hj : j ≤ n) (hn : n ≤ cap) :
    (Instr.sliceAt t (.slice A n cap) lo hi none).run P w = .ok (.slice (if cap = i then A else A.map (·.add (i * ie.size))) (j - i) (cap - i)) w := by
  have hh : (match hi, (none : Option Value) with
      | some v, some _ => Instr.sliceBound v cap .slice3B
      | some v, none => Instr.sliceBound v cap .sliceAcap
      | none, none => pure n
      | none, some _ => stuck "Slice: max without high").run P w = .ok j w := by
    rcases hhi with ⟨rfl, rfl⟩ | ⟨k, z, rfl, h0, rfl⟩
    · rfl
    · exact run_bound z k cap _ h0 (by omega)
  have hl : (match lo with
      | some v => Instr.sliceBound v j .sliceB
      | none => pure 0).run P w = .ok i w := by
    rcases hlo with ⟨rfl, rfl⟩ | ⟨k, z, rfl, h0, rfl⟩
    · rfl
    · exact run_bound z k j _ h0 (by omega)
  have hb : (Instr.sliceBounds true n cap lo hi none).run P w = .ok (i, j, cap) w := by
    unfold Instr.sliceBounds
    simp only [Sem.run_bind, Sem.run_pure, Result.andThen_ok, Option.isSome_none, Bool.false_eq_true, if_false]
    rcases hhi with ⟨rfl, rfl⟩ | ⟨k, z, rfl, h0, rfl⟩ <;> rcases hlo with ⟨rfl, rfl⟩ | ⟨k', z', rfl, h0', rfl⟩ <;>
      simp_all [run_bound]
  simp [Instr.sliceAt, Instr.slice, run_underlying h1, hb, sizeOf, typeInfo, h3]

theorem Rep.slice {Y : Nat → Prop} {e : Kind} {l : List e.T} {A : Option Addr} {n cap : Nat} (h : Rep w Y (.list e) l [.slice A n cap]) {i j : Nat} (hij : i ≤ j) (hj : j ≤ l.length) :
    Rep w Y (.list e) ((l.take j).drop i) [.slice (if cap = i then A else A.map (·.add (i * e.size))) (j - i) (cap - i)] := by
  obtain ⟨A', cap', h1, h2, h3, h4⟩ := h
  simp only [List.cons.injEq, Value.slice.injEq, and_true] at h1
  obtain ⟨rfl, rfl, rfl⟩ := h1
  have hlen : ((l.take j).drop i).length = j - i := by simp; omega
  refine ⟨_, cap - i, by rw [hlen], by rw [hlen]; omega, fun hA => ?_, fun a' ha => ?_⟩
  · have : A = none := by
      by_cases e : cap = i
      · simpa [e] using hA
      · simpa [e] using hA
    rw [h3 this]; simp
  · by_cases hci : cap = i
    · rw [if_pos hci] at ha
      obtain ⟨h5, h6, h7, h8⟩ := h4 a' ha
      refine ⟨h5, h6, h7, fun k x hk => ?_⟩
      have : k < ((l.take j).drop i).length := (List.getElem?_eq_some_iff.1 hk).1
      omega
    · rw [if_neg hci] at ha
      cases A with
      | none => cases ha
      | some b =>
        simp only [Option.map_some, Option.some.injEq] at ha
        obtain ⟨h5, h6, h7, h8⟩ := h4 b rfl
        obtain ⟨g, off, sp⟩ := b
        simp only at h5
        subst h5
        rw [addr_add] at ha
        subst ha
        refine ⟨rfl, h6, h7, fun k x hk => ?_⟩
        have hk' : l[i + k]? = some x := by
          rw [List.getElem?_drop, List.getElem?_take] at hk
          split at hk
          · exact hk
          · cases hk
        obtain ⟨cs, h9, h10⟩ := h8 _ _ hk'
        refine ⟨cs, h9, ?_⟩
        rw [Nat.add_mul, ← Nat.add_assoc] at h10
        exact h10

/-- a slice of a shared list -/
theorem op_slice {t te : TypeId} {x : Operand} {lo hi : Option Operand} {q qe : TR} {e : Kind} {l : List e.T} {A : Option Addr} {n cap : Nat} (hE : EnvOk P E) (ho : o.op = .slice t x lo hi none)
    {u : Ups} (hnx : Nx ρ ρ U U (look none hp) (look none (u ++ hp)) w w) (hH : Hp Z ρ U (look none (u ++ hp)) w X)
    (hv : a.eval x = .slice A n cap) (hrep : Rep w (Own ρ (look none (u ++ hp)) X) (.list e) l [a.eval x])
    (ht : E.tr t = some q) (hd : q.d = .slice te) (hte : E.tr te = some qe) (hsz : qe.size = e.size) {i j : Nat}
    (hlo : (lo = none ∧ i = 0) ∨ ∃ y k z, lo = some y ∧ a.eval y = .int k z ∧ 0 ≤ z ∧ z.toNat = i) (hhi : (hi = none ∧ j = l.length) ∨ ∃ y k z, hi = some y ∧ a.eval y = .int k z ∧ 0 ≤ z ∧ z.toNat = j)
    (hij : i ≤ j) (hj : j ≤ l.length) (h : K (.one (.of (.list e) ((l.take j).drop i))) u = some r) : o.wp P a w (Post ρ U hp w X Z a o m K r) Q := by
  obtain ⟨h1, h2, _⟩ := hE.tr t q ht
  obtain ⟨h1e, h2e, ie, h3, h4, _⟩ := hE.tr te qe hte
  rw [hd] at h1
  rw [hv] at hrep
  have hn : n = l.length ∧ l.length ≤ cap := by
    obtain ⟨A', cap', g1, g2, _⟩ := hrep
    simp only [List.cons.injEq, Value.slice.injEq, and_true] at g1
    exact ⟨g1.2.1, g1.2.2 ▸ g2⟩
  have hrun := run_sliceAt (P := P) (w := w) h1 h3 A n cap (lo.map a.eval) (hi.map a.eval) i j
    (by rcases hlo with ⟨rfl, h⟩ | ⟨y, k, z, rfl, g1, g2, g3⟩
        · exact .inl ⟨rfl, h⟩
        · exact .inr ⟨k, z, by simp [g1], g2, g3⟩)
    (by rcases hhi with ⟨rfl, h⟩ | ⟨y, k, z, rfl, g1, g2, g3⟩
        · exact .inl ⟨rfl, by omega⟩
        · exact .inr ⟨k, z, by simp [g1], g2, g3⟩) hij (by omega) (by omega)
  rw [h4, hsz] at hrun
  have hr' := Rep.slice hrep hij hj
  refine wp_value (v' := .slice (if cap = i then A else A.map (·.add (i * e.size))) (j - i) (cap - i)) (w' := w) ?_ ⟨_, _, _, ρ, U, h, rfl, hnx, hH, one_of hr', fun n hn => .inl hn⟩
  simp only [execOp, ho, hv, Option.map_none]
  simp only [Sem.run_bind, hrun, Result.andThen_ok, Sem.run_pure]
end
end Go.AM

set_option linter.unusedVariables false
set_option linter.unusedSimpArgs false
namespace Go.AM

/-! ### calls -/

def VRep (w : World) (Y : Nat → Prop) (κ : Kind) (agg : Bool) (x : κ.T) (v : Value) (bs : List Nat) : Prop :=
  match agg with
  | false => GRep w Y κ x [v] bs
  | true => ∃ vs, v = .agg vs.toArray ∧ GRep w Y κ x vs bs

/-- cs: the blocks of the cells handed in; bs: the blocks handed over -/
def ArgsRep (w : World) (Y : Nat → Prop) : (ps : List PM) → (argK ps).T → List Value → List Nat → List Nat → Prop
  | [], _, vs, cs, bs => vs = [] ∧ cs = [] ∧ bs = []
  | .val κ agg :: ps, x, vs, cs, bs => ∃ v vs' bs1 bs2, vs = v :: vs' ∧ bs = bs1 ++ bs2 ∧ VRep w Y κ agg x.1 v bs1 ∧ ArgsRep w Y ps x.2 vs' cs bs2
  | .io κ :: ps, x, vs, cs, bs => ∃ b vs' cs' t us bs1 bs2, vs = .pointer (some ⟨b, 0, none⟩) :: vs' ∧ cs = b :: cs' ∧ bs = bs1 ++ bs2 ∧
      w.heap[b]? = some (.cells (List.toArray us) t (0, 0)) ∧ GRep w Y κ x.1 us bs1 ∧ ArgsRep w Y ps x.2 vs' cs' bs2

def OutRep (w : World) (Y : Nat → Prop) : (ps : List PM) → (outK ps).T → List Nat → List Nat → Prop
  | [], _, cs, bs => cs = [] ∧ bs = []
  | .val _ _ :: ps, x, cs, bs => OutRep w Y ps x cs bs
  | .io κ :: ps, x, cs, bs => ∃ b cs' t us bs1 bs2, cs = b :: cs' ∧ bs = bs1 ++ bs2 ∧ w.heap[b]? = some (.cells (List.toArray us) t (0, 0)) ∧ GRep w Y κ x.1 us bs1 ∧ OutRep w Y ps x.2 cs' bs2

def ResReps (w : World) (Y : Nat → Prop) : (rs : List (Kind × Bool)) → (resK rs).T → List Value → List Nat → Prop
  | [], _, vs, bs => vs = [] ∧ bs = []
  | p :: rs, x, vs, bs => ∃ v vs' bs1 bs2, vs = v :: vs' ∧ bs = bs1 ++ bs2 ∧ VRep w Y p.1 p.2 x.1 v bs1 ∧ ResReps w Y rs x.2 vs' bs2

def tupV : List Value → Value
  | [v] => v
  | vs => .tuple vs.toArray

/-- what a function of the machine promises of the program's -/
def CallsOk (P : Program) (E : Env) (C : CallT E) : Prop :=
  ∀ f x r, C f x = some r → ∀ (w : World) (X : Nat → Prop) (vs : List Value) (cs bs : List Nat), (∀ b, X b → b < w.heap.size) → (cs ++ bs).Nodup → (∀ b ∈ cs ++ bs, ¬ X b ∧ b < w.heap.size) →
    ArgsRep w (fun b => X b ∨ b ∈ cs ++ bs) (E.sig f).ps x vs cs bs →
    Calls P f vs.toArray w fun e w' => ∃ vr bs1 bs2, e = .returned (tupV vr) ∧ Gr w w' ∧ (∀ b, b < w.heap.size → b ∉ cs ++ bs → w'.heap[b]? = w.heap[b]?) ∧
      (cs ++ (bs1 ++ bs2)).Nodup ∧ (∀ b ∈ bs1 ++ bs2, b ∈ bs ∨ w.heap.size ≤ b) ∧ (∀ b ∈ bs1 ++ bs2, b < w'.heap.size) ∧
      ResReps w' (fun b => X b ∨ b ∈ cs ++ (bs1 ++ bs2)) (E.sig f).rs r.1 vr bs1 ∧ OutRep w' (fun b => X b ∨ b ∈ cs ++ (bs1 ++ bs2)) (E.sig f).ps r.2 cs bs2

section
variable {R : Type} {ρ : Nat → Value} {U : Nat → Prop} {ob ob1 : Nat → Option AObj} {w : World} {X Z Y : Nat → Prop}

def SVRep (ρ : Nat → Value) (ob : Nat → Option AObj) (w : World) (Y : Nat → Prop) (κ : Kind) (agg : Bool) (x : κ.T) (v : Value) (ns : List Nat) : Prop :=
  match agg with
  | false => SRep ρ ob w Y κ x [v] ns
  | true => ∃ vs, v = .agg vs.toArray ∧ SRep ρ ob w Y κ x vs ns

theorem shareCVO_ok (hu : ∀ n o, ob n = some o → U n) {κ : Kind} {agg : Bool} {c : CV} {v : Value} {K : κ.T → List (Nat × Option AObj) → List Nat → Option R} {r : R} (h : shareCVO ob κ agg c K = some r) (hs : Sharing ob ob1)
    (H : Hp Z ρ U ob1 w X) (hc : CRep ρ U w (Own ρ ob1 X) c v) :
    ∃ x u ns, K x u ns = some r ∧ Sharing ob (applyU u ob1) ∧ Nx ρ ρ U U ob1 (applyU u ob1) w w ∧ Hp Z ρ U (applyU u ob1) w X ∧ SVRep ρ ob w (Own ρ (applyU u ob1) X) κ agg x v ns := by
  unfold shareCVO at h
  split at h
  · rename_i l
    have hl : LReps ρ U w (Own ρ ob1 X) [l] [v] := ⟨v, [], rfl, by simpa [CRep] using hc, rfl⟩
    obtain ⟨x, ls', u, ns, vs1, vs2, h1, h2, h3, h4, h5, h6, h7⟩ := shareO_ok hu h hs H hl
    split at h1
    · obtain rfl : vs2 = [] := h7
      rw [List.append_nil] at h2
      exact ⟨x, u, ns, h1, h3, h4, h5, by rw [← h2] at h6; exact h6⟩
    · cases h1
  · rename_i ls
    simp only [CRep] at hc
    obtain ⟨vs, rfl, hl⟩ := hc
    obtain ⟨x, ls', u, ns, vs1, vs2, h1, h2, h3, h4, h5, h6, h7⟩ := shareO_ok hu h hs H hl
    split at h1
    · obtain rfl : vs2 = [] := h7
      rw [List.append_nil] at h2
      exact ⟨x, u, ns, h1, h3, h4, h5, vs, rfl, by rw [h2]; exact h6⟩
    · cases h1
  · cases h

theorem SVRep.later {ρ' : Nat → Value} {U' : Nat → Prop} {w' : World} {Y Y' : Nat → Prop} (h : Later ρ ρ' U U' w w' Y Y') (hu : ∀ n o, ob n = some o → U n) {κ : Kind} {agg : Bool} {x : κ.T} {v : Value} {ns : List Nat}
    (hr : SVRep ρ ob w Y κ agg x v ns) : SVRep ρ' ob w' Y' κ agg x v ns := by
  cases agg
  · exact SRep.later h hu (show SRep ρ ob w Y κ x [v] ns from hr)
  · obtain ⟨vs, h1, h2⟩ := hr
    exact ⟨vs, h1, SRep.later h hu h2⟩

theorem SVRep.grep (H : Hp Z ρ U ob1 w X) {κ : Kind} {agg : Bool} {x : κ.T} {v : Value} {ns : List Nat} (hr : SVRep ρ ob w (Own ρ ob1 X) κ agg x v ns) (hn : ∀ n ∈ ns, ob1 n = ob n) :
    VRep w (Own ρ ob1 X) κ agg x v (ns.flatMap (bl ρ)) := by
  cases agg
  · exact SRep.grep H (show SRep ρ ob w _ κ x [v] ns from hr) hn
  · obtain ⟨vs, h1, h2⟩ := hr
    exact ⟨vs, h1, SRep.grep H h2 hn⟩

theorem SVRep.rows {κ : Kind} {agg : Bool} {x : κ.T} {v : Value} {ns : List Nat} (hr : SVRep ρ ob w Y κ agg x v ns) : ∀ n ∈ ns, ∃ o, ob n = some o ∧ o.owned = true := by
  cases agg
  · exact SRep.rows (show SRep ρ ob w Y κ x [v] ns from hr)
  · obtain ⟨vs, h1, h2⟩ := hr
    exact SRep.rows h2

theorem VRep.less {Y Y' : Nat → Prop} (h : ∀ b, Y' b → Y b) {κ : Kind} {agg : Bool} {x : κ.T} {v : Value} {bs : List Nat} (hr : VRep w Y κ agg x v bs) : VRep w Y' κ agg x v bs := by
  cases agg
  · exact GRep.less h (show GRep w Y κ x [v] bs from hr)
  · obtain ⟨vs, h1, h2⟩ := hr
    exact ⟨vs, h1, GRep.less h h2⟩

theorem ArgsRep.less {Y Y' : Nat → Prop} (h : ∀ b, Y' b → Y b) : ∀ {ps : List PM} {x : (argK ps).T} {vs : List Value} {cs bs : List Nat}, ArgsRep w Y ps x vs cs bs → ArgsRep w Y' ps x vs cs bs
  | [], _, _, _, _, hr => hr
  | .val κ agg :: ps, x, vs, cs, bs, hr => by
    obtain ⟨v, vs', bs1, bs2, h1, h2, h3, h4⟩ := hr
    exact ⟨v, vs', bs1, bs2, h1, h2, h3.less h, h4.less h⟩
  | .io κ :: ps, x, vs, cs, bs, hr => by
    obtain ⟨b, vs', cs', t, us, bs1, bs2, h1, h2, h3, h4, h5, h6⟩ := hr
    exact ⟨b, vs', cs', t, us, bs1, bs2, h1, h2, h3, h4, h5.less h, h6.less h⟩

theorem ResReps.less {Y Y' : Nat → Prop} (h : ∀ b, Y' b → Y b) : ∀ {rs : List (Kind × Bool)} {x : (resK rs).T} {vs : List Value} {bs : List Nat}, ResReps w Y rs x vs bs → ResReps w Y' rs x vs bs
  | [], _, _, _, hr => hr
  | p :: rs, x, vs, bs, hr => by
    obtain ⟨v, vs', bs1, bs2, h1, h2, h3, h4⟩ := hr
    exact ⟨v, vs', bs1, bs2, h1, h2, h3.less h, h4.less h⟩

theorem OutRep.less {Y Y' : Nat → Prop} (h : ∀ b, Y' b → Y b) : ∀ {ps : List PM} {x : (outK ps).T} {cs bs : List Nat}, OutRep w Y ps x cs bs → OutRep w Y' ps x cs bs
  | [], _, _, _, hr => hr
  | .val κ agg :: ps, x, cs, bs, hr => OutRep.less (ps := ps) h hr
  | .io κ :: ps, x, cs, bs, hr => by
    obtain ⟨b, cs', t, us, bs1, bs2, h2, h3, h4, h5, h6⟩ := hr
    exact ⟨b, cs', t, us, bs1, bs2, h2, h3, h4, h5.less h, h6.less h⟩

/-- the arguments by the names of our objects -/
def ArgsS (ρ : Nat → Value) (ob : Nat → Option AObj) (w : World) (Y : Nat → Prop) : (ps : List PM) → (argK ps).T → List Value → List Nat → List Nat → Prop
  | [], _, vs, cn, ns => vs = [] ∧ cn = [] ∧ ns = []
  | .val κ agg :: ps, x, vs, cn, ns => ∃ v vs' ns1 ns2, vs = v :: vs' ∧ ns = ns1 ++ ns2 ∧ SVRep ρ ob w Y κ agg x.1 v ns1 ∧ ArgsS ρ ob w Y ps x.2 vs' cn ns2
  | .io κ :: ps, x, vs, cn, ns => ∃ n vs' cn' t us ns1 ns2 b ls, vs = .pointer (some ⟨b, 0, none⟩) :: vs' ∧ cn = n :: cn' ∧ ns = ns1 ++ ns2 ∧ ρ n = .pointer (some ⟨b, 0, none⟩) ∧ ob n = some (.cell ls) ∧
      w.heap[b]? = some (.cells (List.toArray us) t (0, 0)) ∧ SRep ρ ob w Y κ x.1 us ns1 ∧ ArgsS ρ ob w Y ps x.2 vs' cn' ns2

theorem Own.of_nx {ob1 ob2 : Nat → Option AObj} (H : Hp Z ρ U ob2 w X) (h : Nx ρ ρ U U ob1 ob2 w w) : ∀ b, Own ρ ob2 X b → Own ρ ob1 X b := fun b hb => hb.imp id fun hl => by
  obtain ⟨n, o, h1, h2, h3⟩ := hl
  exact h.own b ((H.objs _ _ h1).lt h2 h3) ⟨n, o, h1, h2, h3⟩

theorem Sharing.cell {ob1 : Nat → Option AObj} (hs : Sharing ob ob1) {n : Nat} {ls : List LV} (h : ob n = some (.cell ls)) : ob1 n = some (.cell ls) := by
  rcases hs n with h1 | ⟨_, _, _, h1, _⟩
  · rw [h1, h]
  · rw [h] at h1; cases h1

theorem shareArgs_ok (hu : ∀ n o, ob n = some o → U n) : ∀ {ps : List PM} {cs : List CV} {vs : List Value} {K : (argK ps).T → List Nat → List Nat → List (Nat × Option AObj) → Option R} {r : R} {ob1 : Nat → Option AObj},
    shareArgs ob ps cs K = some r → Sharing ob ob1 → Hp Z ρ U ob1 w X → CReps ρ U w (Own ρ ob1 X) cs vs →
    ∃ x cn ns u, K x cn ns u = some r ∧ Sharing ob (applyU u ob1) ∧ Nx ρ ρ U U ob1 (applyU u ob1) w w ∧ Hp Z ρ U (applyU u ob1) w X ∧
      ArgsS ρ ob w (Own ρ (applyU u ob1) X) ps x vs cn ns := by
  intro ps
  induction ps with
  | nil =>
    intro cs vs K r ob1 h hs H hc
    cases cs with
    | nil =>
      simp only [shareArgs] at h
      simp only [CReps] at hc
      exact ⟨(), [], [], [], h, hs, Nx.refl, H, hc, rfl, rfl⟩
    | cons c cs => simp [shareArgs] at h
  | cons p ps ih =>
    intro cs vs K r ob1 h hs H hc
    cases cs with
    | nil => cases p <;> simp [shareArgs] at h
    | cons c cs =>
      simp only [CReps] at hc
      obtain ⟨v, vs', rfl, hc1, hc2⟩ := hc
      cases p with
      | val κ agg =>
        simp only [shareArgs] at h
        obtain ⟨x, u, ns, h1, h2, h3, h4, h5⟩ := shareCVO_ok hu h hs H hc1
        obtain ⟨xs, cn, ns', u', g1, g2, g3, g4, g5⟩ := ih h1 h2 h4 (CReps.later h3.later hc2)
        refine ⟨(x, xs), cn, ns ++ ns', u' ++ u, g1, ?_, ?_, ?_, ?_⟩
        · rw [applyU_append]; exact g2
        · rw [applyU_append]; exact h3.trans g3
        · rw [applyU_append]; exact g4
        · rw [applyU_append]; exact ⟨v, vs', ns, ns', rfl, rfl, h5.later g3.later hu, g5⟩
      | io κ =>
        have hform : ∃ n, c = .one (.ptr n 0) := by
          cases c with
          | one l =>
            cases l with
            | ptr n off =>
              cases off with
              | zero => exact ⟨n, rfl⟩
              | succ k => simp [shareArgs] at h
            | _ => simp [shareArgs] at h
          | _ => simp [shareArgs] at h
        obtain ⟨n, rfl⟩ := hform
        simp only [shareArgs] at h
        split at h
        · rename_i ls hn
          have hn1 := hs.cell hn
          simp only [CRep, LRep] at hc1
          obtain ⟨_, b, hb, hv⟩ := hc1
          obtain ⟨b', t, cs', hb', hg, hl⟩ := H.objs n _ hn1
          rw [hb] at hb'
          simp only [Value.pointer.injEq, Option.some.injEq, Addr.mk.injEq, and_true] at hb'
          subst hb'
          obtain ⟨x, ls', u, ns, vs1, vs2, h1, h2, h3, h4, h5, h6, h7⟩ := shareO_ok hu h hs H hl
          split at h1
          · obtain rfl : vs2 = [] := h7
            rw [List.append_nil] at h2
            subst h2
            obtain ⟨xs, cn, ns', u', g1, g2, g3, g4, g5⟩ := ih h1 h3 h5 (CReps.later h4.later hc2)
            refine ⟨(x, xs), n :: cn, ns ++ ns', u' ++ u, g1, ?_, ?_, ?_, ?_⟩
            · rw [applyU_append]; exact g2
            · rw [applyU_append]; exact h4.trans g3
            · rw [applyU_append]; exact g4
            · rw [applyU_append]; exact ⟨n, vs', cn, t, cs', ns, ns', b, ls, by rw [hv], rfl, rfl, hb, hn, hg, SRep.later g3.later hu h6, g5⟩
          · cases h1
        · cases h

theorem ArgsS.rows : ∀ {ps : List PM} {x : (argK ps).T} {vs : List Value} {cn ns : List Nat}, ArgsS ρ ob w Y ps x vs cn ns → (∀ n ∈ ns, ∃ o, ob n = some o ∧ o.owned = true) ∧ ∀ n ∈ cn, ∃ ls, ob n = some (.cell ls)
  | [], x, vs, cn, ns, h => by
    obtain ⟨_, rfl, rfl⟩ := h
    exact ⟨fun n hn => (by cases hn), fun n hn => (by cases hn)⟩
  | .val κ agg :: ps, x, vs, cn, ns, h => by
    obtain ⟨v, vs', ns1, ns2, h1, rfl, h3, h4⟩ := h
    obtain ⟨g1, g2⟩ := ArgsS.rows (ps := ps) h4
    refine ⟨fun n hn => ?_, g2⟩
    rcases List.mem_append.1 hn with hn | hn
    · exact h3.rows n hn
    · exact g1 n hn
  | .io κ :: ps, x, vs, cn, ns, h => by
    obtain ⟨m, vs', cn', t, us, ns1, ns2, b, ls, h1, rfl, rfl, h4, h5, h6, h7, h8⟩ := h
    obtain ⟨g1, g2⟩ := ArgsS.rows (ps := ps) h8
    refine ⟨fun n hn => ?_, fun n hn => ?_⟩
    · rcases List.mem_append.1 hn with hn | hn
      · exact SRep.rows h7 n hn
      · exact g1 n hn
    · rcases List.mem_cons.1 hn with rfl | hn
      · exact ⟨ls, h5⟩
      · exact g2 n hn

theorem ArgsS.args (H : Hp Z ρ U ob1 w X) : ∀ {ps : List PM} {x : (argK ps).T} {vs : List Value} {cn ns : List Nat}, ArgsS ρ ob w (Own ρ ob1 X) ps x vs cn ns → (∀ n ∈ ns, ob1 n = ob n) →
    ArgsRep w (Own ρ ob1 X) ps x vs (cn.flatMap (bl ρ)) (ns.flatMap (bl ρ))
  | [], x, vs, cn, ns, h, _ => by
    obtain ⟨rfl, rfl, rfl⟩ := h
    exact ⟨rfl, rfl, rfl⟩
  | .val κ agg :: ps, x, vs, cn, ns, h, hn => by
    obtain ⟨v, vs', ns1, ns2, rfl, rfl, h3, h4⟩ := h
    exact ⟨v, vs', _, _, rfl, List.flatMap_append, h3.grep H fun n hm => hn n (by simp [hm]), ArgsS.args H h4 fun n hm => hn n (by simp [hm])⟩
  | .io κ :: ps, x, vs, cn, ns, h, hn => by
    obtain ⟨m, vs', cn', t, us, ns1, ns2, b, ls, rfl, rfl, rfl, h4, h5, h6, h7, h8⟩ := h
    exact ⟨b, vs', cn'.flatMap (bl ρ), t, us, _, _, rfl, by simp [bl, h4, blk], List.flatMap_append, h6, SRep.grep H h7 fun n hm => hn n (by simp [hm]), ArgsS.args H h8 fun n hm => hn n (by simp [hm])⟩

theorem flatMap_bl_nodup (H : Hp Z ρ U ob w X) : ∀ {ns : List Nat}, ns.Nodup → (∀ n ∈ ns, ∃ o, ob n = some o ∧ o.owned = true) → (ns.flatMap (bl ρ)).Nodup
  | [], _, _ => List.nodup_nil
  | n :: ns, hd, ho => by
    rw [List.nodup_cons] at hd
    rw [List.flatMap_cons, List.nodup_append]
    refine ⟨?_, flatMap_bl_nodup H hd.2 fun m hm => ho m (by simp [hm]), fun b hb b' hb' e => ?_⟩
    · unfold bl; cases blk (ρ n) <;> simp
    · subst e
      obtain ⟨m, hm, hbm⟩ := List.mem_flatMap.1 hb'
      obtain ⟨o, h1, h2⟩ := ho n (by simp)
      obtain ⟨o', h3, h4⟩ := ho m (by simp [hm])
      simp only [bl, Option.mem_toList] at hb hbm
      have := H.inj n m o o' b h1 h3 h2 h4 hb hbm
      exact hd.1 (this ▸ hm)

theorem mem_flatMap_bl {ns : List Nat} {b : Nat} (h : b ∈ ns.flatMap (bl ρ)) : ∃ n ∈ ns, blk (ρ n) = some b := by
  obtain ⟨n, h1, h2⟩ := List.mem_flatMap.1 h
  exact ⟨n, h1, by simpa [bl] using h2⟩
end
end Go.AM

set_option linter.unusedVariables false
set_option linter.unusedSimpArgs false
namespace Go.AM

section
variable {R : Type} {w : World} {Z : Nat → Prop}

theorem cvLs_rep {ρ : Nat → Value} {U : Nat → Prop} {Y : Nat → Prop} {agg : Bool} {ls : List LV} {c : CV} (h : cvLs agg ls = some c) :
    (agg = false → ∀ v, LReps ρ U w Y ls [v] → CRep ρ U w Y c v) ∧ (agg = true → ∀ vs, LReps ρ U w Y ls vs → CRep ρ U w Y c (.agg vs.toArray)) := by
  unfold cvLs at h
  cases agg
  · refine ⟨fun _ v hr => ?_, fun e => (by cases e)⟩
    simp only at h
    split at h
    · simp only [Option.some.injEq] at h
      subst h
      obtain ⟨v', vs', h1, h2, h3⟩ := hr
      simp only [List.cons.injEq] at h1
      obtain ⟨rfl, rfl⟩ := h1
      simpa [CRep] using h2
    · cases h
  · refine ⟨fun e => (by cases e), fun _ vs hr => ?_⟩
    simp only [Option.some.injEq] at h
    subst h
    simp only [CRep]
    exact ⟨vs, rfl, hr⟩

theorem VRep.leaves {κ : Kind} {agg : Bool} {x : κ.T} {v : Value} {bs : List Nat} {Y : Nat → Prop} (h : VRep w Y κ agg x v bs) :
    ∃ vs, GRep w Y κ x vs bs ∧ ((agg = false ∧ vs = [v]) ∨ (agg = true ∧ v = .agg vs.toArray)) := by
  cases agg
  · exact ⟨_, h, .inl ⟨rfl, rfl⟩⟩
  · obtain ⟨vs, h1, h2⟩ := h
    exact ⟨vs, h2, .inr ⟨rfl, h1⟩⟩

/-- a value that is taken over -/
theorem valO_ok {κ : Kind} {agg : Bool} {x : κ.T} {m : Nat} {K : CV → List (Nat × Option AObj) → Nat → Option R} {r : R} {ρ : Nat → Value} {U : Nat → Prop} {ob : Nat → Option AObj} {X : Nat → Prop} {v : Value} {bs : List Nat}
    (h : explodeO κ x m (fun ls u m => match cvLs agg ls with
      | some c => K c u m
      | none => none) = some r) (H : Hp Z ρ U ob w X) (hU : ∀ n, m ≤ n → ¬ U n) (hr : VRep w (Own ρ ob X) κ agg x v bs) (hd : bs.Nodup) (hX : ∀ b ∈ bs, X b ∧ Z b) :
    ∃ c u m' ρ' U', K c u m' = some r ∧ m ≤ m' ∧ Hp Z ρ' U' (applyU u ob) w (minus X bs) ∧ Ad ρ ρ' U U' ob (applyU u ob) X (minus X bs) w (rng m m') ∧
      CRep ρ' U' w (Own ρ' (applyU u ob) (minus X bs)) c v := by
  obtain ⟨vs, hr', hv⟩ := hr.leaves
  obtain ⟨ls, u, m', ρ', U', h1, h2, h3, h4, h5⟩ := explodeO_ok h H hU hr' hd hX
  split at h1
  · rename_i c hc
    refine ⟨c, u, m', ρ', U', h1, h2, h3, h4, ?_⟩
    obtain ⟨g1, g2⟩ := cvLs_rep (ρ := ρ') (U := U') (w := w) (Y := Own ρ' (applyU u ob) (minus X bs)) hc
    rcases hv with ⟨rfl, rfl⟩ | ⟨rfl, rfl⟩
    · exact g1 rfl v h5
    · exact g2 rfl vs h5
  · cases h1

theorem own_lt {ρ : Nat → Value} {U : Nat → Prop} {ob : Nat → Option AObj} {X : Nat → Prop} (H : Hp Z ρ U ob w X) {b : Nat} (hb : Own ρ ob X b) : b < w.heap.size := by
  rcases hb with hb | ⟨n, o, h1, h2, h3⟩
  · exact H.xlt b hb
  · exact (H.objs _ _ h1).lt h2 h3

theorem Ad.own {ρ ρ' : Nat → Value} {U U' : Nat → Prop} {ob ob' : Nat → Option AObj} {X X' N : Nat → Prop} (h : Ad ρ ρ' U U' ob ob' X X' w N) (H : Hp Z ρ' U' ob' w X') : ∀ b, Own ρ' ob' X' b → Own ρ ob X b :=
  fun b hb => h.later.own b (own_lt H hb) hb

theorem resCVs_ok : ∀ {rs : List (Kind × Bool)} {x : (resK rs).T} {m : Nat} {K : List CV → List (Nat × Option AObj) → Nat → Option R} {r : R} {ρ : Nat → Value} {U : Nat → Prop} {ob : Nat → Option AObj} {X : Nat → Prop} {vs : List Value} {bs : List Nat},
    resCVs rs x m K = some r → Hp Z ρ U ob w X → (∀ n, m ≤ n → ¬ U n) → ResReps w (Own ρ ob X) rs x vs bs → bs.Nodup → (∀ b ∈ bs, X b ∧ Z b) →
    ∃ cs u m' ρ' U', K cs u m' = some r ∧ m ≤ m' ∧ Hp Z ρ' U' (applyU u ob) w (minus X bs) ∧ Ad ρ ρ' U U' ob (applyU u ob) X (minus X bs) w (rng m m') ∧
      CReps ρ' U' w (Own ρ' (applyU u ob) (minus X bs)) cs vs := by
  intro rs
  induction rs with
  | nil =>
    intro x m K r ρ U ob X vs bs h H hU hr hd hX
    obtain ⟨rfl, rfl⟩ := hr
    simp only [resCVs] at h
    rw [minus_nil]
    exact ⟨[], [], m, ρ, U, h, Nat.le_refl _, H, Ad.refl, by simp [CReps]⟩
  | cons p rs ih =>
    intro x m K r ρ U ob X vs bs h H hU hr hd hX
    obtain ⟨v, vs', bs1, bs2, rfl, rfl, hr1, hr2⟩ := hr
    rw [List.nodup_append] at hd
    obtain ⟨hd1, hd2, hd3⟩ := hd
    simp only [resCVs] at h
    obtain ⟨c, u, m1, ρ1, U1, g1, g2, g3, g4, g5⟩ := valO_ok h H hU hr1 hd1 fun b hb => hX b (by simp [hb])
    obtain ⟨cs, u', m2, ρ2, U2, k1, k2, k3, k4, k5⟩ := ih g1 g3 (fun n hn hu => by
        rcases g4.fresh n hu with h1 | h1
        · exact hU n (by omega) h1
        · exact absurd h1.2 (by omega)) (ResReps.less (g4.own g3) hr2) hd2 fun b hb => ⟨⟨(hX b (by simp [hb])).1, fun h1 => hd3 b h1 b hb rfl⟩, (hX b (by simp [hb])).2⟩
    refine ⟨c :: cs, u' ++ u, m2, ρ2, U2, k1, by omega, ?_, ?_, ?_⟩
    · rw [applyU_append, ← minus_append]; exact k3
    · rw [applyU_append, ← minus_append]
      exact (g4.trans k4).mono fun n hn => by rcases hn with hn | hn <;> exact ⟨by omega, by omega⟩
    · rw [applyU_append, ← minus_append]
      simp only [CReps]
      exact ⟨v, vs', rfl, CRep.later k4.later g5, k5⟩

/-- a cell that is taken over, under its old name or a new one -/
theorem cell_ok {ρ : Nat → Value} {U : Nat → Prop} {ob : Nat → Option AObj} {X : Nat → Prop} (H : Hp Z ρ U ob w X) {n b t : Nat} {us : List Value} {ls : List LV} (hm : ob n = none) (hU : ¬ U n ∨ ρ n = .pointer (some ⟨b, 0, none⟩))
    (hX : X b ∧ Z b) (hg : w.heap[b]? = some (.cells us.toArray t (0, 0))) (hr : LReps ρ U w (Own ρ ob X) ls us) :
    Ad ρ (upd ρ n (.pointer (some ⟨b, 0, none⟩))) U (fun k => U k ∨ k = n) ob (upd ob n (some (.cell ls))) X (minus X [b]) w (· = n) ∧
      Hp Z (upd ρ n (.pointer (some ⟨b, 0, none⟩))) (fun k => U k ∨ k = n) (upd ob n (some (.cell ls))) w (minus X [b]) :=
  H.adopt (o := .cell ls) (v := .pointer (some ⟨b, 0, none⟩)) hm hU
    (fun b' => by
      by_cases e : b' = b
      · subst e; simp [minus, blk, hX.1]
      · simp [minus, blk, e]; exact fun e' => absurd e'.symm e) (fun b' hb h1 => by simp [blk] at hb; subst hb; exact h1.2 (by simp)) (fun b' hb => by simp [blk] at hb; subst hb; exact hX.2) rfl rfl ⟨b, t, us, rfl, hg, hr⟩

theorem outCells_ok : ∀ {ps : List PM} {x : (outK ps).T} {cn : List Nat} {m : Nat} {K : List (Nat × Option AObj) → Nat → Option R} {r : R} {ρ : Nat → Value} {U : Nat → Prop} {ob : Nat → Option AObj} {X : Nat → Prop} {cs bs : List Nat},
    outCells ps x cn m K = some r → Hp Z ρ U ob w X → (∀ n, m ≤ n → ¬ U n) → OutRep w (Own ρ ob X) ps x cs bs → (cs ++ bs).Nodup → (∀ b ∈ cs ++ bs, X b ∧ Z b) →
    cs = cn.flatMap (bl ρ) → (∀ n ∈ cn, ob n = none ∧ U n ∧ ∃ b, ρ n = .pointer (some ⟨b, 0, none⟩)) →
    ∃ u m' ρ' U', K u m' = some r ∧ m ≤ m' ∧ Hp Z ρ' U' (applyU u ob) w (minus X (cs ++ bs)) ∧ Ad ρ ρ' U U' ob (applyU u ob) X (minus X (cs ++ bs)) w (fun n => rng m m' n ∨ n ∈ cn) := by
  intro ps
  induction ps with
  | nil =>
    intro x cn m K r ρ U ob X cs bs h H hU hr hd hX hcs hcn
    obtain ⟨rfl, rfl⟩ := hr
    simp only [outCells] at h
    rw [List.nil_append, minus_nil]
    exact ⟨[], m, ρ, U, h, Nat.le_refl _, H, Ad.refl⟩
  | cons p ps ih =>
    intro x cn m K r ρ U ob X cs bs h H hU hr hd hX hcs hcn
    cases p with
    | val κ agg => exact ih (x := x) (by simpa only [outCells] using h) H hU hr hd hX hcs hcn
    | io κ =>
      obtain ⟨b, cs', t, us, bs1, bs2, rfl, rfl, hg, hr1, hr2⟩ := hr
      cases cn with
      | nil => simp at hcs
      | cons n cn =>
        obtain ⟨hn1, hn2, b', hn3⟩ := hcn n (by simp)
        rw [List.flatMap_cons, show bl ρ n = [b'] by simp [bl, hn3, blk]] at hcs
        simp only [List.cons_append, List.nil_append, List.cons.injEq] at hcs
        obtain ⟨rfl, hcs⟩ := hcs
        simp only [outCells] at h
        rw [List.cons_append, List.nodup_cons, List.nodup_append] at hd
        obtain ⟨hb, hd1, hd2, hd3⟩ := hd
        rw [List.nodup_append] at hd2
        obtain ⟨hd4, hd5, hd6⟩ := hd2
        -- the rows in the cell
        obtain ⟨ls, u, m1, ρ1, U1, g1, g2, g3, g4, g5⟩ := explodeO_ok h H hU hr1 hd4 fun b hb => hX b (by simp [hb])
        -- the cell
        have hU1 : U1 n := g4.later.used n hn2
        have hρ1 : ρ1 n = .pointer (some ⟨b, 0, none⟩) := (g4.later.same n hn2).trans hn3
        have hnm : n < m := Nat.lt_of_not_le fun hh => hU n hh hn2
        have hob1 : applyU u ob n = none := by rw [g4.objs n (fun hh => absurd hh.1 (by omega)), hn1]
        have hbX : minus X bs1 b ∧ Z b := ⟨⟨(hX b (by simp)).1, fun hh => hb (by simp [hh])⟩, (hX b (by simp)).2⟩
        obtain ⟨g6, g7⟩ := cell_ok g3 (n := n) (t := t) hob1 (.inr hρ1) hbX hg g5
        have g8 := g4.trans g6
        rw [minus_append] at g6 g7 g8
        have hsame : ∀ k, U k → upd ρ1 n (.pointer (some ⟨b, 0, none⟩)) k = ρ k := fun k hk => g8.later.same k hk
        have hfresh2 : ∀ k, m1 ≤ k → ¬ (fun k => U1 k ∨ k = n) k := fun k hk hu => by
          rcases hu with hu | rfl
          · rcases g4.fresh k hu with h1 | h1
            · exact hU k (by omega) h1
            · exact absurd h1.2 (by omega)
          · omega
        have hnotin : ∀ k ∈ cn, k ≠ n := fun k hk e => by
          subst e
          have : b ∈ cs' := by rw [hcs]; exact List.mem_flatMap.2 ⟨k, hk, by simp [bl, hn3, blk]⟩
          exact hb (by simp [this])
        obtain ⟨u', m2, ρ2, U2, k1, k2, k3, k4⟩ := ih (x := x.2) (cn := cn) (cs := cs') (bs := bs2) g1 g7 hfresh2 (OutRep.less (g8.own g7) hr2)
          (by rw [List.nodup_append]; exact ⟨hd1, hd5, fun a ha c hc e => hd3 a ha c (by simp [hc]) e⟩)
          (fun c hc => by
            refine ⟨⟨(hX c ?_).1, fun hh => ?_⟩, (hX c ?_).2⟩
            · rcases List.mem_append.1 hc with hc | hc <;> simp [hc]
            · rcases List.mem_append.1 hh with hh | hh
              · rcases List.mem_append.1 hc with hc | hc
                · exact hd3 c hc c (by simp [hh]) rfl
                · exact hd6 c hh c hc rfl
              · simp only [List.mem_singleton] at hh
                subst hh
                rcases List.mem_append.1 hc with hc | hc
                · exact hb (by simp [hc])
                · exact hb (by simp [hc])
            · rcases List.mem_append.1 hc with hc | hc <;> simp [hc])
          (by
            rw [hcs]
            have : ∀ (l : List Nat), (∀ k ∈ l, U k) → l.flatMap (bl ρ) = l.flatMap (bl (upd ρ1 n (.pointer (some ⟨b, 0, none⟩)))) := by
              intro l
              induction l with
              | nil => intro _; rfl
              | cons k l ih => intro hl; rw [List.flatMap_cons, List.flatMap_cons, ih fun k hk => hl k (by simp [hk])]; simp only [bl, hsame k (hl k (by simp))]
            exact this cn fun k hk => (hcn k (by simp [hk])).2.1)
          (fun k hk => by
            obtain ⟨q1, q2, q3⟩ := hcn k (by simp [hk])
            refine ⟨?_, .inl (g4.later.used k q2), ?_⟩
            · rw [upd_other _ _ (hnotin k hk), g4.objs k (fun hh => hU k hh.1 q2), q1]
            · rw [hsame k q2]; exact q3)
        have hmin : minus (minus X (bs1 ++ [b])) (cs' ++ bs2) = minus X (b :: cs' ++ (bs1 ++ bs2)) := by
          funext c
          simp only [minus, List.mem_append, List.mem_cons, List.not_mem_nil, or_false, eq_iff_iff, List.cons_append]
          constructor
          · rintro ⟨⟨h1, h2⟩, h3⟩
            exact ⟨h1, fun h4 => by
              rcases h4 with h4 | h4 | h4 | h4
              · exact h2 (.inr h4)
              · exact h3 (.inl h4)
              · exact h2 (.inl h4)
              · exact h3 (.inr h4)⟩
          · rintro ⟨h1, h2⟩
            exact ⟨⟨h1, fun h3 => h3.elim (fun h4 => h2 (.inr (.inr (.inl h4)))) fun h4 => h2 (.inl h4)⟩, fun h3 => h3.elim (fun h4 => h2 (.inr (.inl h4))) fun h4 => h2 (.inr (.inr (.inr h4)))⟩
        have happ : applyU (u' ++ ((n, some (.cell ls)) :: u)) ob = applyU u' (upd (applyU u ob) n (some (.cell ls))) := by rw [applyU_append]; rfl
        rw [hmin] at k3 k4
        refine ⟨_, m2, ρ2, U2, k1, by omega, by rw [happ]; exact k3, ?_⟩
        rw [happ]
        refine (g8.trans k4).mono fun k hk => ?_
        rcases hk with (hk | rfl) | hk | hk
        · exact .inl ⟨by omega, by omega⟩
        · exact .inr (by simp)
        · exact .inl ⟨by omega, by omega⟩
        · exact .inr (by simp [hk])
end
end Go.AM

set_option linter.unusedVariables false
set_option linter.unusedSimpArgs false
namespace Go.AM

def idxGo (n : Nat) : List Nat → Nat → Option Nat
  | [], _ => none
  | o :: os, i => match Nat.beq o n with
    | true => some i
    | false => idxGo n os (i + 1)

theorem idx_eq (n : Nat) (os : List Nat) : idx os n = idxGo n os 0 := by
  have : ∀ i, (List.rec (motive := fun _ => Nat → Option Nat) (fun _ => none) (fun o _ ih i => (match Nat.beq o n with
    | true => some i
    | false => ih (i + 1))) os : Nat → Option Nat) i = idxGo n os i := by
    induction os with
    | nil => intro i; rfl
    | cons o os ih =>
      intro i
      simp only [idxGo]
      cases Nat.beq o n with
      | true => rfl
      | false => exact ih (i + 1)
  exact this 0

theorem idxGo_none {n : Nat} : ∀ {os : List Nat} {i : Nat}, idxGo n os i = none → n ∉ os
  | [], _, _ => by simp
  | o :: os, i, h => by
    simp only [idxGo] at h
    split at h
    · cases h
    · rename_i hb
      intro hm
      rcases List.mem_cons.1 hm with rfl | hm
      · simp at hb
      · exact idxGo_none h hm

theorem nodupB_ok {os : List Nat} (h : nodupB os = true) : os.Nodup := by
  induction os with
  | nil => exact List.nodup_nil
  | cons o os ih =>
    have h' : (match idx os o with | none => nodupB os | some _ => false) = true := h
    cases hi : idx os o with
    | none =>
      rw [hi] at h'
      exact List.nodup_cons.2 ⟨idxGo_none (i := 0) (by rw [← idx_eq]; exact hi), ih h'⟩
    | some i => rw [hi] at h'; cases h'


theorem disjB_ok {ns : List Nat} : ∀ {u : Ups} {f : Nat → Option AObj}, disjB u ns = true → ∀ n ∈ ns, applyU u f n = f n
  | [], f, _, n, _ => rfl
  | p :: u, f, h, n, hn => by
    have h' : (match idx ns p.1 with | none => disjB u ns | some _ => false) = true := h
    cases hi : idx ns p.1 with
    | none =>
      rw [hi] at h'
      have : p.1 ∉ ns := idxGo_none (i := 0) (by rw [← idx_eq]; exact hi)
      have hne : n ≠ p.1 := fun e => this (e ▸ hn)
      show upd (applyU u f) p.1 p.2 n = f n
      rw [upd_other _ _ hne]
      exact disjB_ok h' n hn
    | some i => rw [hi] at h'; cases h'

theorem kills_at (ns : List Nat) (f : Nat → Option AObj) (n : Nat) : applyU (ns.map fun n => (n, none)) f n = if n ∈ ns then none else f n := by
  induction ns with
  | nil => rfl
  | cons k ns ih =>
    show upd (applyU (ns.map fun n => (n, none)) f) k none n = _
    by_cases e : n = k
    · subst e; rw [upd_same]; simp
    · rw [upd_other _ _ e, ih]; simp [e]

theorem tup_rep {ρ : Nat → Value} {U : Nat → Prop} {w : World} {Y : Nat → Prop} : ∀ {cs : List CV} {vs : List Value}, CReps ρ U w Y cs vs → CRep ρ U w Y (tupOf cs) (tupV vs)
  | [], vs, h => by
    have : vs = [] := by simpa [CReps] using h
    subst this
    simp only [tupOf, tupV, CRep]
    exact ⟨[], rfl, h⟩
  | [c], vs, h => by
    simp only [CReps] at h
    obtain ⟨v, vs', rfl, h2, rfl⟩ := h
    exact h2
  | c :: d :: cs, vs, h => by
    have h0 := h
    simp only [CReps] at h
    obtain ⟨v, vs', rfl, h2, v2, vs2, rfl, h3, h4⟩ := h
    simp only [tupOf, tupV, CRep]
    exact ⟨v :: v2 :: vs2, rfl, h0⟩

section
variable {P : Program} {E : Env} {C : CallT E} {R : Type} {ρ : Nat → Value} {U : Nat → Prop} {hp : List (Nat × Option AObj)} {w : World} {X Z : Nat → Prop}
  {a : Act} {o : Oper} {m : Nat} {K : CV → Ups → Option R} {r : R} {Q : Exit → Act → World → Prop}

theorem op_call {f : FuncId} {fn : Func} {c0 : Call} {y : Operand} {cs : List CV} (hC : CallsOk P E C) (ho : o.op = .call c0) (hc0 : c0.callee = .value y) (hy : a.eval y = .func (.func f) #[] #[])
    (hf : P.funcs[f]? = some fn) (hb : fn.body ≠ none) (hname : fn.name ≠ "runtime.NumGoroutine")
    (hH : Hp Z ρ U (look none hp) w X) (hm : ∀ n, m ≤ n → ¬ U n) (hcs : CReps ρ U w (Own ρ (look none hp) X) cs (c0.args.toList.map a.eval))
    (h : shareArgs (look none hp) (E.sig f).ps cs (fun x cn ns u => match nodupB (cn ++ ns), disjB u (cn ++ ns) with
          | true, true => (C f x).bind fun r => resCVs (E.sig f).rs r.1 m fun cs u1 m1 => outCells (E.sig f).ps r.2 cn m1 fun u2 m2 => match Nat.ble m2 (m + 16) with
            | true => K (tupOf cs) (u2 ++ (u1 ++ ((cn ++ ns).map (fun n => (n, none)) ++ u)))
            | false => none
          | _, _ => none) = some r) : o.wp P a w (Post ρ U hp w X Z a o m K r) Q := by
  obtain ⟨x, cn, ns, u, h1, hsh, hnx, hH1, hargs⟩ := shareArgs_ok hH.used h (Sharing.refl _) hH hcs
  split at h1
  case h_2 => cases h1
  rename_i hnd hdj
  have hnd := nodupB_ok hnd
  obtain ⟨r', hr', hk⟩ := Option.bind_eq_some_iff.1 h1
  have hsame : ∀ n ∈ cn ++ ns, applyU u (look none hp) n = look none hp n := disjB_ok hdj
  generalize hobu : applyU u (look none hp) = obu at *
  have hrows := hargs.rows
  have hobj : ∀ n ∈ cn ++ ns, ∃ o, obu n = some o ∧ o.owned = true := fun n hn => by
    rw [hsame n hn]
    rcases List.mem_append.1 hn with hn | hn
    · obtain ⟨ls, h2⟩ := hrows.2 n hn; exact ⟨_, h2, rfl⟩
    · exact hrows.1 n hn
  have hargs' := hargs.args hH1 (fun n hn => hsame n (by simp [hn]))
  generalize hcsd : cn.flatMap (bl ρ) = cb at *
  generalize hbsd : ns.flatMap (bl ρ) = bs at *
  have hall : (cn ++ ns).flatMap (bl ρ) = cb ++ bs := by rw [List.flatMap_append, hcsd, hbsd]
  have hndb : (cb ++ bs).Nodup := by rw [← hall]; exact flatMap_bl_nodup hH1 hnd hobj
  have hname' : ∀ b ∈ cb ++ bs, ∃ n ∈ cn ++ ns, blk (ρ n) = some b := fun b hb => mem_flatMap_bl (by rw [hall]; exact hb)
  have hback : ∀ n ∈ cn ++ ns, ∀ b, blk (ρ n) = some b → b ∈ cb ++ bs := fun n hn b hb => by
    rw [← hall]; exact List.mem_flatMap.2 ⟨n, hn, by simp [bl, hb]⟩
  have hlocal : ∀ b ∈ cb ++ bs, Local ρ obu b := fun b hb => by
    obtain ⟨n, hn, hbn⟩ := hname' b hb
    obtain ⟨o', h2, h3⟩ := hobj n hn
    exact ⟨n, o', h2, h3, hbn⟩
  have hXnot : ∀ b, X b → b ∉ cb ++ bs := fun b hX hb => hH1.apart b (hlocal b hb) hX
  have hlt : ∀ b, Own ρ obu X b → b < w.heap.size := fun b hb => own_lt hH1 hb
  have hiff : ∀ b, ((Own ρ obu X b ∧ b ∉ cb ++ bs) ∨ b ∈ cb ++ bs) ↔ Own ρ obu X b := fun b => by
    by_cases hb : b ∈ cb ++ bs
    · exact ⟨fun _ => .inr (hlocal b hb), fun _ => .inr hb⟩
    · exact ⟨fun g => g.elim And.left fun g => absurd g hb, fun g => .inl ⟨g, hb⟩⟩
  have hcall := hC f x r' hr' w (fun b => Own ρ obu X b ∧ b ∉ cb ++ bs) _ cb bs (fun b hb => hlt b hb.1) hndb (fun b hb => ⟨fun hX => hX.2 hb, hlt b (.inr (hlocal b hb))⟩)
    (hargs'.less fun b hb => (hiff b).1 hb)
  have hrun : (execOp a.eval o).run P w = .ok (.enter f (c0.args.map a.eval)) w := by
    simp [execOp, ho, resolve, hc0, hy, Deferred.ofValue, invoke, callFunc, hf, hname, hb]
  unfold Oper.wp
  rw [hrun]
  simp only [Oper.upon]
  have hv : (c0.args.toList.map a.eval).toArray = c0.args.map a.eval := by
    apply Array.ext'
    simp
  rw [hv] at hcall
  refine Calls.mono hcall fun e w' he => ?_
  obtain ⟨vr, bs1, bs2, rfl, hsz, hkeep, hnd', hsub, hlt', hres, hout⟩ := he
  simp only
  -- the names that are given away are dropped; what comes back lies in X1
  have hob0 : ∀ n, applyU ((cn ++ ns).map fun n => (n, none)) obu n = if n ∈ cn ++ ns then none else obu n := kills_at _ _
  generalize hob0d : applyU ((cn ++ ns).map fun n => (n, none)) obu = ob0 at *
  have h0 : ∀ n o', ob0 n = some o' → n ∉ cn ++ ns ∧ obu n = some o' := fun n o' hn => by
    rw [hob0] at hn
    split at hn
    · cases hn
    · rename_i hh; exact ⟨hh, hn⟩
  have hnotin : ∀ n o' b, ob0 n = some o' → o'.owned = true → blk (ρ n) = some b → b ∉ cb ++ bs := fun n o' b hn ho' hbn hb => by
    obtain ⟨h2, h3⟩ := h0 n o' hn
    obtain ⟨k, hk, hbk⟩ := hname' b hb
    obtain ⟨o2, h4, h5⟩ := hobj k hk
    have := hH1.inj n k _ _ b h3 h4 ho' h5 hbn hbk
    exact h2 (this ▸ hk)
  have hl0 : ∀ b, Local ρ ob0 b → Local ρ obu b ∧ b ∉ cb ++ bs := fun b hb => by
    obtain ⟨n, o', h2, h3, h4⟩ := hb
    exact ⟨⟨n, o', (h0 n o' h2).2, h3, h4⟩, hnotin n o' b h2 h3 h4⟩
  have hsub' : ∀ b ∈ bs1 ++ bs2, b < w.heap.size → b ∈ cb ++ bs := fun b hb hlt1 => by
    rcases hsub b hb with h2 | h2
    · simp [h2]
    · omega
  let X1 : Nat → Prop := fun b => X b ∨ b ∈ cb ++ (bs1 ++ bs2)
  have hlater : Later ρ ρ U U w w' (Own ρ obu X) (Own ρ ob0 X1) := by
    refine ⟨hsz.1, fun b hb hY => ?_, fun b hb hY => hkeep b hb fun h2 => hY (.inr (hlocal b h2)), fun _ h => h, fun _ _ => rfl⟩
    rcases hY with (hY | hY) | hY
    · exact .inl hY
    · rcases List.mem_append.1 hY with hY | hY
      · exact .inr (hlocal b (by simp [hY]))
      · exact .inr (hlocal b (hsub' b hY hb))
    · exact .inr (hl0 b hY).1
  have hH0 : Hp Z ρ U ob0 w' X1 := by
    refine ⟨fun n o' hn => hH1.used n o' (h0 n o' hn).2, fun n k o1 o2 g h2 h3 ho1 ho2 hb1 hb2 => hH1.inj n k o1 o2 g (h0 _ _ h2).2 (h0 _ _ h3).2 ho1 ho2 hb1 hb2,
      fun n o' hn => ?_, fun b hb => ?_, fun b hb hX => ?_, fun b hb => hH1.ours b (hl0 b hb).1, fun b hb => hH1.znew b (Nat.le_trans hsz.1 hb), hH1.plain⟩
    · exact ORep.later hlater (fun hown b hb => hkeep b ((hH1.objs _ _ (h0 n o' hn).2).lt hown hb) (hnotin n o' b hn hown hb)) (hH1.objs _ _ (h0 n o' hn).2)
    · rcases hb with hb | hb
      · exact Nat.lt_of_lt_of_le (hH1.xlt b hb) hsz.1
      · rcases List.mem_append.1 hb with hb | hb
        · exact Nat.lt_of_lt_of_le (hlt b (.inr (hlocal b (by simp [hb])))) hsz.1
        · exact hlt' b hb
    · obtain ⟨h2, h3⟩ := hl0 b hb
      have hbl := hlt b (.inr h2)
      rcases hX with hX | hX
      · exact hH1.apart b h2 hX
      · rcases List.mem_append.1 hX with hX | hX
        · exact h3 (by simp [hX])
        · exact h3 (hsub' b hX hbl)
  have hless : ∀ b, Own ρ ob0 X1 b → (Own ρ obu X b ∧ b ∉ cb ++ bs) ∨ b ∈ cb ++ (bs1 ++ bs2) := fun b hb => by
    rcases hb with (hb | hb) | hb
    · exact .inl ⟨.inl hb, hXnot b hb⟩
    · exact .inr hb
    · exact .inl ⟨.inr (hl0 b hb).1, (hl0 b hb).2⟩
  have hndp := hnd'
  rw [List.nodup_append] at hndp
  obtain ⟨hn1, hn2, hn3⟩ := hndp
  rw [List.nodup_append] at hn2
  obtain ⟨hn4, hn5, hn6⟩ := hn2
  have hZ1 : ∀ b ∈ cb ++ (bs1 ++ bs2), X1 b ∧ Z b := fun b hb => by
    refine ⟨.inr hb, ?_⟩
    rcases List.mem_append.1 hb with hb | hb
    · exact hH1.ours b (hlocal b (by simp [hb]))
    · rcases hsub b hb with h2 | h2
      · exact hH1.ours b (hlocal b (by simp [h2]))
      · exact hH1.znew b h2
  obtain ⟨cs', u1, m1, ρ1, U1, k1, k2, k3, k4, k5⟩ := resCVs_ok hk hH0 hm (hres.less hless) hn4 fun b hb => hZ1 b (by simp [hb])
  have hm1 : ∀ n, m1 ≤ n → ¬ U1 n := fun n hn hu => by
    rcases k4.fresh n hu with h2 | h2
    · exact hm n (by omega) h2
    · exact absurd h2.2 (by omega)
  have hcnU : ∀ n ∈ cn, U n := fun n hn => by
    obtain ⟨o', h2, _⟩ := hobj n (by simp [hn])
    exact hH1.used _ _ h2
  have hcnb : ∀ (l : List Nat), (∀ k ∈ l, U k) → l.flatMap (bl ρ) = l.flatMap (bl ρ1) := by
    intro l
    induction l with
    | nil => intro _; rfl
    | cons k l ih => intro hl; rw [List.flatMap_cons, List.flatMap_cons, ih fun j hj => hl j (by simp [hj])]; simp only [bl, k4.later.same k (hl k (by simp))]
  obtain ⟨u2, m2, ρ2, U2, g1, g2, g3, g4⟩ := outCells_ok (x := r'.2) (cn := cn) (cs := cb) (bs := bs2) k1 k3 hm1 (OutRep.less (fun b hb => hless b (k4.own k3 b hb)) hout)
    (by rw [List.nodup_append]; exact ⟨hn1, hn5, fun p hp q hq e => hn3 p hp q (by simp [hq]) e⟩)
    (fun b hb => by
      have hb' : b ∈ cb ++ (bs1 ++ bs2) := by
        rcases List.mem_append.1 hb with h2 | h2 <;> simp [h2]
      refine ⟨⟨(hZ1 b hb').1, fun h2 => ?_⟩, (hZ1 b hb').2⟩
      rcases List.mem_append.1 hb with h3 | h3
      · exact hn3 b h3 b (by simp [h2]) rfl
      · exact hn6 b h2 b h3 rfl)
    (by rw [← hcsd]; exact hcnb cn hcnU)
    (fun n hn => by
      have hU := hcnU n hn
      obtain ⟨ls, h2⟩ := hrows.2 n hn
      rw [← hsame n (by simp [hn])] at h2
      obtain ⟨b, t, us, h3, _⟩ := hH1.objs n _ h2
      refine ⟨?_, k4.later.used n hU, b, (k4.later.same n hU).trans h3⟩
      rw [k4.objs n (fun hh => hm n hh.1 hU), hob0, if_pos (by simp [hn])])
  split at g1
  case h_2 => cases g1
  rename_i hble
  have hble : m2 ≤ m + 16 := Nat.le_of_ble_eq_true hble
  have hX2 : minus (minus X1 bs1) (cb ++ bs2) = X := by
    funext b
    simp only [minus, eq_iff_iff]
    constructor
    · rintro ⟨⟨h2 | h2, h3⟩, h4⟩
      · exact h2
      · exfalso
        rcases List.mem_append.1 h2 with h2 | h2
        · exact h4 (by simp [h2])
        · rcases List.mem_append.1 h2 with h2 | h2
          · exact h3 h2
          · exact h4 (by simp [h2])
    · intro hX
      have h2 := hXnot b hX
      have h3 := hH1.xlt b hX
      refine ⟨⟨.inl hX, fun h4 => h2 (hsub' b (by simp [h4]) h3)⟩, fun h4 => ?_⟩
      rcases List.mem_append.1 h4 with h4 | h4
      · exact h2 (by simp [h4])
      · exact h2 (hsub' b (by simp [h4]) h3)
  rw [hX2] at g3 g4
  have happ : look none ((u2 ++ (u1 ++ ((cn ++ ns).map (fun n => (n, none)) ++ u))) ++ hp) = applyU u2 (applyU u1 ob0) := by
    rw [look_app, applyU_append, applyU_append, applyU_append, hobu, hob0d]
  refine ⟨tupOf cs', _, tupV vr, ρ2, U2, g1, rfl, ?_, ?_, ?_, fun n hn => ?_⟩
  · rw [happ]
    refine ⟨hsz, fun b hb hl => hkeep b hb fun h2 => ?_, fun b hb hl => ?_, fun n hn => g4.later.used n (k4.later.used n hn), fun n hn => (g4.later.same n (k4.later.used n hn)).trans (k4.later.same n hn)⟩
    · exact hl (hnx.own b hb (hlocal b h2))
    · refine hnx.own b hb ?_
      have hx : X1 b → ¬ X b → Local ρ obu b := fun h2 h3 => by
        rcases h2 with h2 | h2
        · exact absurd h2 h3
        · rcases List.mem_append.1 h2 with h2 | h2
          · exact hlocal b (by simp [h2])
          · exact hlocal b (hsub' b h2 hb)
      rcases g4.loc b hl with h2 | ⟨h2, h3⟩
      · rcases k4.loc b h2 with h4 | ⟨h4, h5⟩
        · exact (hl0 b h4).1
        · refine hx h4 fun h6 => h5 ⟨h4, fun h7 => hXnot b h6 (hsub' b (by simp [h7]) hb)⟩
      · exact hx h2.1 h3
  · rw [happ]; exact g3
  · rw [happ]; exact CRep.later g4.later (tup_rep k5)
  · rcases g4.fresh n hn with h2 | h2 | h2
    · rcases k4.fresh n h2 with h3 | h3
      · exact .inl h3
      · exact .inr ⟨h3.1, by omega⟩
    · exact .inr ⟨by omega, by omega⟩
    · exact .inl (hcnU n h2)
end
end Go.AM

set_option linter.unusedVariables false
set_option linter.unusedSimpArgs false
namespace Go.AM

theorem strOf_append (a b : List UInt8) : strOf a ++ strOf b = strOf (a ++ b) := by
  apply ByteArray.ext
  simp [strOf, ByteArray.data_append]

theorem strOf_toList (a : List UInt8) : (strOf a).toList = a := by simp [strOf]

theorem strOf_size (a : List UInt8) : (strOf a).size = a.length := rfl

theorem strOf_extract (s : List UInt8) (i j : Nat) : (strOf s).extract i j = strOf ((s.take j).drop i) := by
  apply ByteArray.ext
  rw [ByteArray.data_extract]
  simp only [strOf]
  apply Array.ext'
  simp [List.drop_take]

theorem strOf_get (s : List UInt8) (i : Nat) (h : i < s.length) : (strOf s)[i]? = some (s.getD i 0) := by
  have h' : i < (strOf s).size := h
  rw [getElem?_pos (strOf s) i h']
  congr 1
  simp only [List.getD, List.getElem?_eq_getElem h, Option.getD_some]
  rfl

section
variable {P : Program} {E : Env} {R : Type} {ρ : Nat → Value} {U : Nat → Prop} {hp : List (Nat × Option AObj)} {w : World} {X Z : Nat → Prop}
  {a : Act} {o : Oper} {m : Nat} {K : CV → Ups → Option R} {r : R} {Q : Exit → Act → World → Prop}

theorem one_str {Y : Nat → Prop} {s : List UInt8} : CRep ρ U w Y (.one (.of .str s)) (.string (strOf s)) := one_of (show Rep w Y .str s [.string (strOf s)] from rfl)
theorem one_bool {Y : Nat → Prop} {b : Bool} : CRep ρ U w Y (.one (.of .bool b)) (.bool b) := one_of (show Rep w Y .bool b [.bool b] from rfl)
theorem one_int {Y : Nat → Prop} {k : IntKind} {n : Int} : CRep ρ U w Y (.one (.of (.int k) n)) (.int k n) := one_of (show Rep w Y (.int k) n [.int k n] from rfl)

theorem eqGuard_str (op : BinOp) (t : TypeId) (x y : Operand) (p q : ByteArray) : (eqGuard op t x y (.string p) (.string q)).run P w = .ok () w := by
  unfold eqGuard; cases op <;> simp

theorem op_binStr {op : BinOp} {t u : TypeId} {x y : Operand} {p q : List UInt8} (ho : o.op = .binOp op t x y u) (hH : Hp Z ρ U (look none hp) w X)
    (hx : CRep ρ U w (Own ρ (look none hp) X) (.one (.of .str p)) (a.eval x)) (hy : CRep ρ U w (Own ρ (look none hp) X) (.one (.of .str q)) (a.eval y))
    (h : strOp op p q (fun c => K c []) = some r) : o.wp P a w (Post ρ U hp w X Z a o m K r) Q := by
  have hxs := str_of hx
  have hys := str_of hy
  unfold strOp at h
  split at h
  · split at h
    · rename_i hle
      refine stay hH h one_str ?_
      have : ¬ ((p.length : Int) + (q.length : Int) > 9223372036854775807) := by omega
      simp [execOp, ho, hxs, hys, eqGuard_str, Go.binOp, Op.stringOp, strOf_append, strOf_size, IntKind.max, IntKind.bits, IntKind.signed, this]
    · cases h
  · refine stay hH h one_bool ?_
    simp [execOp, ho, hxs, hys, eqGuard_str, Go.binOp, Op.stringOp, strOf_toList, Bool.beq_eq_decide_eq]
  · refine stay hH h one_bool ?_
    simp [execOp, ho, hxs, hys, eqGuard_str, Go.binOp, Op.stringOp, strOf_toList, Bool.beq_eq_decide_eq]
  · refine stay hH h one_bool ?_
    simp [execOp, ho, hxs, hys, eqGuard_str, Go.binOp, Op.stringOp, strOf_toList, Bool.beq_eq_decide_eq]
  · refine stay hH h one_bool ?_
    simp [execOp, ho, hxs, hys, eqGuard_str, Go.binOp, Op.stringOp, strOf_toList, Bool.beq_eq_decide_eq]
  · refine stay hH h one_bool ?_
    simp [execOp, ho, hxs, hys, eqGuard_str, Go.binOp, Op.stringOp, strOf_toList, Bool.beq_eq_decide_eq]
  · refine stay hH h one_bool ?_
    simp [execOp, ho, hxs, hys, eqGuard_str, Go.binOp, Op.stringOp, strOf_toList, Bool.beq_eq_decide_eq]
  · cases h

theorem op_index_str {t : TypeId} {x y : Operand} {q : TR} {s : List UInt8} {k : IntKind} {i : Int} (hE : EnvOk P E) (ho : o.op = .index t x y) (hH : Hp Z ρ U (look none hp) w X)
    (ht : E.tr t = some q) (hd : q.d = .string) (hx : CRep ρ U w (Own ρ (look none hp) X) (.one (.of .str s)) (a.eval x)) (hy : CRep ρ U w (Own ρ (look none hp) X) (.one (.of (.int k) i)) (a.eval y))
    (h0 : 0 ≤ i) (h1 : i < (s.length : Int)) (h : K (.one (.of (.int .u8) ((s.getD i.toNat 0).toNat : Int))) [] = some r) : o.wp P a w (Post ρ U hp w X Z a o m K r) Q := by
  obtain ⟨g1, g2, _⟩ := hE.tr t q ht
  rw [hd] at g1
  have hlt : i.toNat < s.length := by omega
  refine stay hH h one_int ?_
  simp [execOp, ho, str_of hx, int_of hy, Instr.index, asIntOf, run_underlying g1, h0, strOf_get s _ hlt]

theorem run_sliceStr {t : TypeId} (h1 : P.underlying t = some .string) (s : List UInt8) (lo hi : Option Value) (i j : Nat)
    (hlo : (lo = none ∧ i = 0) ∨ ∃ k z, lo = some (.int k z) ∧ 0 ≤ z ∧ z.toNat = i) (hhi : (hi = none ∧ j = s.length) ∨ ∃ k z, hi = some (.int k z) ∧ 0 ≤ z ∧ z.toNat = j)
    (hij : i ≤ j) (hj : j ≤ s.length) : (Instr.sliceAt t (.string (strOf s)) lo hi none).run P w = .ok (.string (strOf ((s.take j).drop i))) w := by
  have hbd : ∀ (k : IntKind) (z : Int) (y : Nat) (code : BoundsCode), 0 ≤ z → z ≤ y → (Instr.sliceBound (.int k z) y code).run P w = .ok z.toNat w := fun k z y code h0 h1 => by
    simp [Instr.sliceBound, asIntOf, h0, h1]
  have hb : (Instr.sliceBounds false s.length s.length lo hi none).run P w = .ok (i, j, s.length) w := by
    unfold Instr.sliceBounds
    rcases hhi with ⟨rfl, rfl⟩ | ⟨k, z, rfl, h0, rfl⟩ <;> rcases hlo with ⟨rfl, rfl⟩ | ⟨k', z', rfl, h0', rfl⟩
    · simp
    · simp [hbd k' z' s.length .sliceB h0' (by omega)]
    · simp [hbd k z s.length .sliceAlen h0 (by omega)]
    · simp [hbd k z s.length .sliceAlen h0 (by omega), hbd k' z' z.toNat .sliceB h0' (by omega)]
  simp [Instr.sliceAt, Instr.slice, run_underlying h1, strOf_size, hb, strOf_extract]

theorem op_slice_str {t : TypeId} {x : Operand} {lo hi : Option Operand} {q : TR} {s : List UInt8} (hE : EnvOk P E) (ho : o.op = .slice t x lo hi none) (hH : Hp Z ρ U (look none hp) w X)
    (hx : CRep ρ U w (Own ρ (look none hp) X) (.one (.of .str s)) (a.eval x)) (ht : E.tr t = some q) (hd : q.d = .string) {i j : Nat}
    (hlo : (lo = none ∧ i = 0) ∨ ∃ y k z, lo = some y ∧ a.eval y = .int k z ∧ 0 ≤ z ∧ z.toNat = i) (hhi : (hi = none ∧ j = s.length) ∨ ∃ y k z, hi = some y ∧ a.eval y = .int k z ∧ 0 ≤ z ∧ z.toNat = j)
    (hij : i ≤ j) (hj : j ≤ s.length) (h : K (.one (.of .str ((s.take j).drop i))) [] = some r) : o.wp P a w (Post ρ U hp w X Z a o m K r) Q := by
  obtain ⟨g1, g2, _⟩ := hE.tr t q ht
  rw [hd] at g1
  have hrun := run_sliceStr (P := P) (w := w) g1 s (lo.map a.eval) (hi.map a.eval) i j
    (by rcases hlo with ⟨rfl, h⟩ | ⟨y, k, z, rfl, g1, g2, g3⟩
        · exact .inl ⟨rfl, h⟩
        · exact .inr ⟨k, z, by simp [g1], g2, g3⟩)
    (by rcases hhi with ⟨rfl, h⟩ | ⟨y, k, z, rfl, g1, g2, g3⟩
        · exact .inl ⟨rfl, h⟩
        · exact .inr ⟨k, z, by simp [g1], g2, g3⟩) hij hj
  refine stay hH h one_str ?_
  simp only [execOp, ho, str_of hx, Option.map_none]
  simp only [Sem.run_bind, hrun, Result.andThen_ok, Sem.run_pure]

theorem minMax_run (mx : Bool) {cs : List CV} {vs : List Value} {Y : Nat → Prop} {K : CV → Option R} (h : minMax mx cs K = some r) (hc : CReps ρ U w Y cs vs) (ts : Array TypeId) (t : TypeId) :
    ∃ k n, K (.one (.of (.int k) n)) = some r ∧ (if mx then Builtin.max_ ts t vs.toArray else Builtin.min_ ts t vs.toArray).run P w = .ok (.int k n) w := by
  unfold minMax at h
  split at h
  · simp only [CReps] at hc
    obtain ⟨v1, vs1, rfl, h1, v2, vs2, rfl, h2, rfl⟩ := hc
    rw [int_of h1, int_of h2]
    split at h
    · rename_i hk _
      subst hk
      cases mx
      · exact ⟨_, _, h, by simp [Builtin.min_, Builtin.min2]⟩
      · exact ⟨_, _, h, by simp [Builtin.max_, Builtin.max2]⟩
    · cases h
  · simp only [CReps] at hc
    obtain ⟨v1, vs1, rfl, h1, v2, vs2, rfl, h2, v3, vs3, rfl, h3, rfl⟩ := hc
    rw [int_of h1, int_of h2, int_of h3]
    split at h
    · rename_i hk hk' _ _
      subst hk
      subst hk'
      cases mx
      · exact ⟨_, _, h, by simp [Builtin.min_, Builtin.min2]⟩
      · exact ⟨_, _, h, by simp [Builtin.max_, Builtin.max2]⟩
    · cases h
  · cases h

theorem op_minMax (mx : Bool) {c0 : Call} {cs : List CV} (ho : o.op = .call c0) (hc0 : c0.callee = .builtin (if mx then .max else .min)) (hH : Hp Z ρ U (look none hp) w X)
    (hcs : CReps ρ U w (Own ρ (look none hp) X) cs (c0.args.toList.map a.eval)) (h : minMax mx cs (fun c => K c []) = some r) : o.wp P a w (Post ρ U hp w X Z a o m K r) Q := by
  obtain ⟨k, n, hk, hrun⟩ := minMax_run (P := P) mx h hcs c0.argTypes o.type
  have hv : (c0.args.toList.map a.eval).toArray = c0.args.map a.eval := by apply Array.ext'; simp
  rw [hv] at hrun
  refine stay hH hk one_int ?_
  cases mx
  · simp only [Bool.false_eq_true, if_false] at hc0 hrun
    simp [execOp, ho, resolve, hc0, invoke, builtin, hrun]
  · simp only [if_true] at hc0 hrun
    simp [execOp, ho, resolve, hc0, invoke, builtin, hrun]
end
end Go.AM

set_option linter.unusedVariables false
set_option linter.unusedSimpArgs false
namespace Go.AM

section
variable {P : Program} {E : Env} {R : Type} {ρ : Nat → Value} {U : Nat → Prop} {hp : List (Nat × Option AObj)} {w : World} {X Z : Nat → Prop}
  {a : Act} {o : Oper} {m : Nat} {K : CV → Ups → Option R} {r : R} {Q : Exit → Act → World → Prop}

theorem run_part_one {t : TypeId} {d : TypeDesc} (hu : P.underlying t = some d) (hd : d.isRow = false) (xs : Array Value) (off : Nat) (v : Value) (h : xs[off]? = some v) :
    (part t xs off).run P w = .ok v w := by
  have hagg : (isAgg t).run P w = .ok false w := by
    unfold isAgg
    rw [Sem.run_bind, run_underlying hu w]
    cases d <;> simp_all
  simp [part, hagg, h]

theorem eqF_run {Y : Nat → Prop} (hE : EnvOk P E) : ∀ {fs : List Field} {i : Nat} {ls ls' : List LV} {vs vs' : List Value} {b : Bool} {xs ys : Array Value} {d : Nat},
    (∀ f : Field, f ∈ fs → f.name ≠ "_") → eqF E.tr fs i ls ls' = some b → LReps ρ U w Y ls vs → LReps ρ U w Y ls' vs' → (∀ (j : Nat) v, vs[j]? = some v → xs[i + j]? = some v) → (∀ (j : Nat) v, vs'[j]? = some v → ys[i + j]? = some v) →
    (Op.eqFields (d + 1) xs ys fs).run P w = .ok b w
  | [], i, [], [], vs, vs', b, xs, ys, d, _, he, h1, h2, hx, hy => by simp only [eqF, Option.some.injEq] at he; subst he; simp [Op.eqFields]
  | [], i, [], _ :: _, _, _, _, _, _, _, _, he, _, _, _, _ => by simp [eqF] at he
  | [], i, _ :: _, _, _, _, _, _, _, _, _, he, _, _, _, _ => by simp [eqF] at he
  | f :: fs, i, [], _, _, _, _, _, _, _, _, he, _, _, _, _ => by simp [eqF] at he
  | f :: fs, i, l :: ls, [], _, _, _, _, _, _, _, he, _, _, _, _ => by simp [eqF] at he
  | f :: fs, i, l :: ls, l' :: ls', vs, vs', b, xs, ys, d, hnm, he, h1, h2, hx, hy => by
    obtain ⟨v, vt, rfl, g1, g2⟩ := h1
    obtain ⟨v', vt', rfl, g3, g4⟩ := h2
    have hx0 := hx 0 v rfl
    have hy0 := hy 0 v' rfl
    rw [Nat.add_zero] at hx0 hy0
    simp only [eqF] at he
    split at he
    case h_2 => cases he
    rename_i q t hoff htr ht
    have hoff := Nat.eq_of_beq_eq_true hoff
    have hname : f.name ≠ "_" := hnm f (by simp)
    obtain ⟨hu, hrow, _⟩ := hE.tr _ _ htr
    have step : ∀ s, q.d.isRow = false → b = (s && t) → (Op.equalIn (d + 1) f.type v v').run P w = .ok s w → (Op.eqFields (d + 1) xs ys (f :: fs)).run P w = .ok b w := fun s hnr hb hs => by
      have hpa := run_part_one (P := P) (w := w) hu hnr xs f.offset v (by rw [hoff]; exact hx0)
      have hpb := run_part_one (P := P) (w := w) hu hnr ys f.offset v' (by rw [hoff]; exact hy0)
      have ih := eqF_run (d := d) hE (fun f hf => hnm f (by simp [hf])) ht g2 g4 (fun j u hj => by
        have := hx (j + 1) u (by simpa using hj)
        rw [show i + 1 + j = i + (j + 1) by omega]; exact this) (fun j u hj => by
        have := hy (j + 1) u (by simpa using hj)
        rw [show i + 1 + j = i + (j + 1) by omega]; exact this)
      simp only [Op.eqFields, if_pos hname, Sem.run_bind, hpa, hpb, hs, Result.andThen_ok]
      subst hb
      cases s
      · simp
      · simpa using ih
    split at he
    · rename_i k2 k x k' y hd
      split at he
      · rename_i hk _
        subst hk
        simp only [Option.some.injEq] at he
        have e1 : v = .int k x := by simpa [LRep, Rep] using g1
        have e2 : v' = .int k y := by simpa [LRep, Rep] using g3
        subst e1 e2
        rw [hd] at hu
        exact step _ (by rw [hd]) he.symm (run_equalIn_int w d f.type k k2 x y hu)
      · cases he
    · rename_i x y hd
      simp only [Option.some.injEq] at he
      have e1 : v = .bool x := by simpa [LRep, Rep] using g1
      have e2 : v' = .bool y := by simpa [LRep, Rep] using g3
      subst e1 e2
      rw [hd] at hu
      exact step _ (by rw [hd]) he.symm (by rw [run_equalIn_bool' w d f.type x y hu, Bool.beq_eq_decide_eq])
    · rename_i x y hd
      simp only [Option.some.injEq] at he
      have e1 : v = .string (strOf x) := by simpa [LRep, Rep] using g1
      have e2 : v' = .string (strOf y) := by simpa [LRep, Rep] using g3
      subst e1 e2
      rw [hd] at hu
      exact step _ (by rw [hd]) he.symm (by rw [run_equalIn_string w d f.type _ _ hu, strOf_toList, strOf_toList]; exact congrArg (Result.ok · w) (Bool.beq_eq_decide_eq (α := List UInt8) x y))
    · cases he

theorem op_eqStruct {op : BinOp} {t u : TypeId} {x y : Operand} {q : TR} {fs : Array Field} {ls ls' : List LV} {b : Bool} (hE : EnvOk P E) (ho : o.op = .binOp op t x y u) (hH : Hp Z ρ U (look none hp) w X)
    (heq : look false E.eqs t = true) (ht : E.tr t = some q) (hd : q.d = .struct fs)
    (hx : CRep ρ U w (Own ρ (look none hp) X) (.agg ls) (a.eval x)) (hy : CRep ρ U w (Own ρ (look none hp) X) (.agg ls') (a.eval y)) (hb : eqF E.tr fs.toList 0 ls ls' = some b)
    (h : eqRes op b (fun c => K c []) = some r) : o.wp P a w (Post ρ U hp w X Z a o m K r) Q := by
  obtain ⟨h1, h2, _⟩ := hE.tr t q ht
  obtain ⟨g1, g2, g3⟩ := hE.eqs t heq
  rw [hd] at h1
  simp only [CRep] at hx hy
  obtain ⟨vs, hvx, hlx⟩ := hx
  obtain ⟨vs', hvy, hly⟩ := hy
  have hf : P.fieldsOf t = fs := by simp [Program.fieldsOf, h1]
  have hrun := eqF_run (d := 9998) (xs := vs.toArray) (ys := vs'.toArray) hE (g3 fs h1) hb hlx hly (fun j v hj => by simpa using hj) (fun j v hj => by simpa using hj)
  have heqr : (Op.equalIn 10000 t (.agg vs.toArray) (.agg vs'.toArray)).run P w = .ok b w := by
    rw [run_equalIn_struct (P := P) w 9999 t vs.toArray vs'.toArray (by rw [hf]; exact h1) g1, hf]
    exact hrun
  cases op <;> first
    | (cases h; done)
    | (refine stay hH (show K _ [] = some r from h) one_bool ?_; simp [execOp, ho, hvx, hvy, run_eqGuard_agg, g2, run_eql_struct, run_neq_struct, heqr])

/-- a later state of an operation that begins with rows given up -/
theorem Post.pre {u0 : Ups} {a' : Act} {w' : World} (hnx : Nx ρ ρ U U (look none hp) (look none (u0 ++ hp)) w w)
    (h : Post ρ U (u0 ++ hp) w X Z a o m (fun v u => K v (u ++ u0)) r a' w') : Post ρ U hp w X Z a o m K r a' w' := by
  obtain ⟨v, u, v', ρ', U', h1, h2, h3, h4, h5, h6⟩ := h
  refine ⟨v, u ++ u0, v', ρ', U', h1, h2, ?_, ?_, ?_, h6⟩
  · rw [List.append_assoc]; exact hnx.trans h3
  · rw [List.append_assoc]; exact h4
  · rw [List.append_assoc]; exact h5

theorem CReps.cells_append {Y : Nat → Prop} : True := trivial

theorem shareAll_ok {ob : Nat → Option AObj} {e : Kind} : ∀ {cs : List CV} {vs : List Value} {K : List e.T → List (Nat × Option AObj) → Option R} {r : R} {ob1 : Nat → Option AObj},
    shareAll ob e cs K = some r → Sharing ob ob1 → Hp Z ρ U ob1 w X → CReps ρ U w (Own ρ ob1 X) cs vs →
    ∃ xs u, K xs u = some r ∧ Sharing ob (applyU u ob1) ∧ Nx ρ ρ U U ob1 (applyU u ob1) w w ∧ Hp Z ρ U (applyU u ob1) w X ∧ xs.length = vs.length ∧
      Elems w (Own ρ (applyU u ob1) X) e xs (vs.flatMap fun v => v.cells.toList) ∧ ∀ v ∈ vs, v.cells.size = e.size
  | [], vs, K, r, ob1, h, hs, H, hc => by
    simp only [shareAll] at h
    have : vs = [] := by simpa [CReps] using hc
    subst this
    exact ⟨[], [], h, hs, Nx.refl, H, rfl, rfl, fun v hv => by cases hv⟩
  | c :: cs, vs, K, r, ob1, h, hs, H, hc => by
    simp only [CReps] at hc
    obtain ⟨v, vs', rfl, hc1, hc2⟩ := hc
    simp only [shareAll] at h
    split at h
    case h_2 => cases h
    rename_i ls hl
    split at h
    case h_2 => cases h
    rename_i hok
    obtain ⟨hr, h1c⟩ := leavesOf_rep H.plain hl hok hc1
    obtain ⟨x, ls', u, vs1, vs2, h1, h2, h3, h4, h5, h6, h7⟩ := share_ok h hs H hr
    split at h1
    case h_2 => cases h1
    obtain rfl : vs2 = [] := h7
    rw [List.append_nil] at h2
    obtain ⟨xs, u', g1, g2, g3, g4, g5, g6, g7⟩ := shareAll_ok h1 h3 h5 (CReps.later h4.later hc2)
    refine ⟨x :: xs, u' ++ u, g1, ?_, ?_, ?_, by simp [g5], ?_, fun v' hv' => ?_⟩
    · rw [applyU_append]; exact g2
    · rw [applyU_append]; exact h4.trans g3
    · rw [applyU_append]; exact g4
    · rw [applyU_append]
      exact ⟨v.cells.toList, vs'.flatMap fun v => v.cells.toList, by simp, g3.later.rep (h2 ▸ h6), g6⟩
    · rcases List.mem_cons.1 hv' with rfl | hv'
      · have := h6.length; rw [← h2] at this; simpa using this
      · exact g7 v' hv'

theorem seqB_ok : ∀ {ps : List (Nat × Operand)} {i : Nat}, seqB ps i = true → ∀ j p, ps[j]? = some p → p.1 = i + j
  | [], i, _, j, p, h => by simp at h
  | q :: ps, i, h, j, p, hj => by
    simp only [seqB] at h
    split at h
    · rename_i hb
      cases j with
      | zero => simp only [List.getElem?_cons_zero, Option.some.injEq] at hj; subst hj; exact Nat.eq_of_beq_eq_true hb
      | succ j =>
        simp only [List.getElem?_cons_succ] at hj
        have := seqB_ok h j p hj
        omega
    · cases h

theorem foldl_set (cells : Array Value) (off : Nat) : ∀ (vs : List Value) (j : Nat), off + j + vs.length ≤ cells.size →
    ((vs.zipIdx j).foldl (fun cs (c, k) => cs.setIfInBounds (off + k) c) cells).toList = cells.toList.take (off + j) ++ vs ++ cells.toList.drop (off + j + vs.length)
  | [], j, h => by simp
  | v :: vs, j, h => by
    have hl0 : cells.toList.length = cells.size := Array.length_toList
    simp only [List.length_cons] at h
    simp only [List.zipIdx_cons, List.foldl_cons]
    rw [foldl_set (cells.setIfInBounds (off + j) v) off vs (j + 1) (by simp; omega)]
    have hlt : off + j < cells.toList.length := by simp; omega
    have e : off + (j + 1) = off + j + 1 := by omega
    simp only [Array.toList_setIfInBounds, e]
    rw [List.take_set, List.drop_set_of_lt (by omega)]
    rw [List.take_succ_eq_append_getElem hlt]
    have e2 : off + j + 1 + vs.length = off + j + (v :: vs).length := by simp; omega
    rw [e2, List.set_append_right _ _ (by simp; omega)]
    have e3 : off + j - (cells.toList.take (off + j)).length = 0 := by rw [List.length_take]; omega
    rw [e3]
    simp

theorem fill_seq (sz : Nat) : ∀ (parts : List (Nat × Value)) (i : Nat) (cells : Array Value), (∀ j p, parts[j]? = some p → p.1 = i + j) → (∀ p ∈ parts, p.2.cells.size = sz) → (i + parts.length) * sz ≤ cells.size →
    ∃ out, Instr.fill (fun i => some (i * sz, sz)) cells parts = some out ∧ out.toList = cells.toList.take (i * sz) ++ parts.flatMap (fun p => p.2.cells.toList) ++ cells.toList.drop ((i + parts.length) * sz)
  | [], i, cells, _, _, _ => ⟨cells, rfl, by simp⟩
  | p :: parts, i, cells, hi, hz, hle => by
    have h0 : p.1 = i := by simpa using hi 0 p rfl
    have hs : p.2.cells.size = sz := hz p (by simp)
    simp only [List.length_cons] at hle
    have hle' : i * sz + sz ≤ cells.size := by
      have : (i + 1) * sz ≤ (i + (parts.length + 1)) * sz := Nat.mul_le_mul_right _ (by omega)
      rw [Nat.add_mul, Nat.one_mul] at this; omega
    obtain ⟨pi, pv⟩ := p
    simp only at h0 hs
    subst h0
    have hf := foldl_set cells (pi * sz) pv.cells.toList 0 (by simp; omega)
    simp only [Nat.add_zero, Array.length_toList, hs] at hf
    let cells' : Array Value := pv.cells.zipIdx.foldl (fun cs (c, k) => cs.setIfInBounds (pi * sz + k) c) cells
    have hcells' : cells'.toList = cells.toList.take (pi * sz) ++ pv.cells.toList ++ cells.toList.drop (pi * sz + sz) := by
      rw [← hf]
      show (pv.cells.zipIdx.foldl (fun cs (c, k) => cs.setIfInBounds (pi * sz + k) c) cells).toList = _
      rw [← Array.foldl_toList, Array.toList_zipIdx]
    have hsize : cells'.size = cells.size := by
      rw [← Array.length_toList, hcells']
      simp [hs]; omega
    obtain ⟨out, h1, h2⟩ := fill_seq sz parts (pi + 1) cells' (fun j q hj => by
      have := hi (j + 1) q (by simpa using hj)
      omega) (fun q hq => hz q (by simp [hq])) (by rw [hsize]; have : pi + 1 + parts.length = pi + (parts.length + 1) := by omega
                                                   rw [this]; exact hle)
    refine ⟨out, ?_, ?_⟩
    · simp only [Instr.fill]
      have : ¬ (pv.cells.size ≠ sz ∨ pi * sz + pv.cells.size > cells.size) := by omega
      simp only [Bool.or_eq_true, decide_eq_true_eq, this, if_false]
      exact h1
    · rw [h2, hcells']
      have e1 : (cells.toList.take (pi * sz) ++ pv.cells.toList).length = (pi + 1) * sz := by
        rw [List.length_append, List.length_take, Array.length_toList, Array.length_toList, hs, Nat.add_mul]; omega
      have e2 : (pi + 1 + parts.length) * sz = (pi + 1) * sz + parts.length * sz := Nat.add_mul _ _ _
      rw [List.take_append_of_le_length (by omega), List.take_of_length_le (by omega), e2, ← e1, List.drop_length_add_append, List.drop_drop]
      simp only [List.flatMap_cons, List.append_assoc]
      congr 3
      rw [List.length_cons]
      congr 1
      rw [Nat.add_mul, Nat.add_mul, Nat.one_mul]
      omega
end
end Go.AM

set_option linter.unusedVariables false
set_option linter.unusedSimpArgs false
namespace Go.AM

section
variable {P : Program} {E : Env} {R : Type} {ρ : Nat → Value} {U : Nat → Prop} {hp : List (Nat × Option AObj)} {w w' : World} {X Z : Nat → Prop}
  {a : Act} {o : Oper} {m : Nat} {K : CV → Ups → Option R} {r : R} {Q : Exit → Act → World → Prop}

/-- new memory that is not ours -/
theorem freeze_io (w : World) (a : Addr) (k : Nat) : (w.freeze a k).os = w.os ∧ (w.freeze a k).output = w.output ∧ (w.freeze a k).tape = w.tape := by
  unfold World.freeze
  split <;> exact ⟨rfl, rfl, rfl⟩

theorem Hp.grow {ob : Nat → Option AObj} (h : Hp Z ρ U ob w X) (hs : Gr w w') (hk : ∀ b, b < w.heap.size → w'.heap[b]? = w.heap[b]?) :
    Nx ρ ρ U U ob ob w w' ∧ Hp Z ρ U ob w' X := by
  have hx : Nx ρ ρ U U ob ob w w' := ⟨hs, fun b hb _ => hk b hb, fun _ _ h => h, fun _ h => h, fun _ _ => rfl⟩
  refine ⟨hx, h.used, h.inj, fun n o hn => ORep.later hx.later (fun ho b hb => hk b ((h.objs _ _ hn).lt ho hb)) (h.objs _ _ hn), fun b hb => Nat.lt_of_lt_of_le (h.xlt b hb) hs.1, h.apart, h.ours, fun b hb => h.znew b (Nat.le_trans hs.1 hb), h.plain⟩

theorem grow_value {v : CV} {v' : Value} (hH : Hp Z ρ U (look none hp) w X) (hs : Gr w w') (hk : ∀ b, b < w.heap.size → w'.heap[b]? = w.heap[b]?)
    (h : K v [] = some r) (hr : CRep ρ U w' (Own ρ (look none hp) X) v v') (hrun : (execOp a.eval o).run P w = .ok (.value v') w') : o.wp P a w (Post ρ U hp w X Z a o m K r) Q := by
  obtain ⟨h1, h2⟩ := hH.grow hs hk
  exact wp_value hrun ⟨v, [], v', ρ, U, h, rfl, h1, h2, hr, fun n hn => .inl hn⟩

theorem Elems.ints {Y : Nat → Prop} {k : IntKind} : ∀ {l : List Int} {vs : List Value}, Elems w Y (.int k) l vs → vs = l.map (Value.int k)
  | [], vs, h => h
  | x :: l, vs, h => by
    obtain ⟨us, vs', rfl, h1, h2⟩ := h
    rw [show us = [.int k x] from h1, Elems.ints h2]
    rfl

theorem foldl_push (l : List Int) : ∀ s : List UInt8, l.foldl (fun (r : ByteArray) n => r.push (UInt8.ofNat n.toNat)) (strOf s) = strOf (s ++ bytesI l) := by
  induction l with
  | nil => intro s; simp [bytesI]
  | cons n l ih =>
    intro s
    simp only [List.foldl_cons]
    have : (strOf s).push (UInt8.ofNat n.toNat) = strOf (s ++ [UInt8.ofNat n.toNat]) := by
      apply ByteArray.ext
      simp [strOf, ByteArray.push]
    rw [this, ih]
    simp [bytesI]

theorem foldl_runes (l : List Int) : ∀ s : List UInt8, l.foldl (fun (r : ByteArray) n => r ++ Utf8.encode n) (strOf s) = strOf (s ++ runesB l) := by
  induction l with
  | nil => intro s; simp [runesB]
  | cons n l ih =>
    intro s
    simp only [List.foldl_cons]
    have : strOf s ++ Utf8.encode n = strOf (s ++ runeB n) := by
      apply ByteArray.ext
      simp [strOf, ByteArray.data_append, runeB]
    rw [this, ih]
    simp [runesB]

theorem empty_str : ByteArray.empty = strOf [] := rfl

theorem runesFrom_eq (s : List UInt8) : ∀ (k i : Nat) (acc : Array Value), Conv.runesFrom (strOf s) k i acc = acc ++ ((runesFrom s k i).map (Value.int .i32)).toArray
  | 0, i, acc => by simp [Conv.runesFrom, runesFrom]
  | k + 1, i, acc => by
    simp only [Conv.runesFrom, runesFrom]
    by_cases h : i < s.length
    · have h' : i < (strOf s).size := h
      rw [if_pos h, if_pos h', runesFrom_eq s k]
      apply Array.ext'
      simp [runeAt, widthAt]
    · have h' : ¬ i < (strOf s).size := h
      rw [if_neg h, if_neg h']; simp

theorem runesS_eq (s : List UInt8) : Conv.runesFrom (strOf s) (strOf s).size 0 #[] = ((runesS s).map (Value.int .i32)).toArray := by
  rw [runesFrom_eq]; simp [runesS, strOf_size]

/-- a list of integers in a new row -/
theorem ints_rep {Y : Nat → Prop} {k : IntKind} {l : List Int} {b cap : Nat} (hb : b < w.heap.size) (hY : ¬ Y b) (hcap : l.length ≤ cap) (hc : ∀ j x, l[j]? = some x → w.cell? ⟨b, j, none⟩ = some (.int k x)) :
    Rep w Y (.list (.int k)) l [.slice (some ⟨b, 0, none⟩) l.length cap] := by
  refine ⟨some ⟨b, 0, none⟩, cap, rfl, hcap, fun h => (by cases h), fun a' ha => ?_⟩
  simp only [Option.some.injEq] at ha
  subst ha
  refine ⟨rfl, hb, hY, fun i x hi => ⟨[.int k x], rfl, fun j c hj => ?_⟩⟩
  cases j with
  | zero =>
    simp only [List.getElem?_cons_zero, Option.some.injEq] at hj
    subst hj
    have := hc i x hi
    simpa [Kind.size] using this
  | succ j => simp at hj

theorem Rep.cells {Y : Nat → Prop} (hs : w.heap.size ≤ w'.heap.size) (hc : ∀ b o v, w.cell? ⟨b, o, none⟩ = some v → w'.cell? ⟨b, o, none⟩ = some v) : ∀ {κ : Kind} {x : κ.T} {vs : List Value}, Rep w Y κ x vs → Rep w' Y κ x vs
  | .int _, _, _, h => h
  | .bool, _, _, h => h
  | .str, _, _, h => h
  | .unit, _, _, h => h
  | .fn, _, _, h => h
  | .own _ _, _, _, h => h
  | .cel _, _, _, h => h
  | .ownc _ _, _, _, h => h
  | .list e, l, vs, h => by
    obtain ⟨a, cap, h1, h2, h3, h4⟩ := h
    refine ⟨a, cap, h1, h2, h3, fun a' ha => ?_⟩
    obtain ⟨h5, h6, h7, h8⟩ := h4 a' ha
    refine ⟨h5, by omega, h7, fun i x hi => ?_⟩
    obtain ⟨cs, hr, hcs⟩ := h8 i x hi
    exact ⟨cs, Rep.cells hs hc hr, fun j c hj => hc _ _ _ (hcs j c hj)⟩
  | .ref e, x, vs, h => by
    obtain ⟨b, o, h1, h2, h3, cs, hr, hcs⟩ := h
    exact ⟨b, o, h1, by omega, h3, cs, Rep.cells hs hc hr, fun j c hj => hc _ _ _ (hcs j c hj)⟩
  | .pair a b, x, vs, h => by
    obtain ⟨us, us', h1, h2, h3⟩ := h
    exact ⟨us, us', h1, Rep.cells hs hc h2, Rep.cells hs hc h3⟩

theorem op_conv {s d : TypeId} {x : Operand} {v : CV} (hE : EnvOk P E) (ho : o.op = .convert s d x) (hH : Hp Z ρ U (look none hp) w X)
    (hx : CRep ρ U w (Own ρ (look none hp) X) v (a.eval x)) (h : effConv E (look none hp) s d v K = some r) : o.wp P a w (Post ρ U hp w X Z a o m K r) Q := by
  unfold effConv at h
  split at h
  case h_2 => cases h
  rename_i qs qd hqs hqd
  obtain ⟨us, _⟩ := hE.tr _ _ hqs
  obtain ⟨ud, _⟩ := hE.tr _ _ hqd
  have hown : ∀ b, Own ρ (look none hp) X b → b < w.heap.size := fun b hb => own_lt hH hb
  split at h
  · -- to an integer
    rename_i k hd
    rw [hd] at ud
    split at h
    · refine stay hH h one_int ?_
      simp [execOp, ho, int_of hx, convert, run_underlying us, run_underlying ud, Conv.intToInt]
    · cases h
  · -- to a string
    rename_i hd
    rw [hd] at ud
    split at h
    · rename_i k n k' hsd
      rw [hsd] at us
      refine stay hH h (v' := .string (Utf8.encode n)) ?_ ?_
      · have : (Value.string (Utf8.encode n)) = .string (strOf (runeB n)) := by simp [strOf, runeB]
        rw [this]; exact one_str
      · simp [execOp, ho, int_of hx, convert, run_underlying us, run_underlying ud, Conv.intToString]
    · rename_i t hsd
      rw [hsd] at us
      refine stay hH h one_str ?_
      simp [execOp, ho, str_of hx, convert, run_underlying us, run_underlying ud]
    · rename_i es hsd
      rw [hsd] at us
      split at h
      case h_2 => cases h
      rename_i qe hqe
      obtain ⟨ue, _⟩ := hE.tr _ _ hqe
      split at h
      · rename_i l hqd' hl
        rw [hqd'] at ue
        obtain ⟨A, cap, vs, hv, hle, hel, hnil, hcells⟩ := listOf_cells hH hx hl
        have hvs := Elems.ints hel
        have hlen : vs.length = l.length := by rw [hvs]; simp
        refine stay hH h one_str ?_
        have key : (convert s d (.slice A l.length cap)).run P w = .ok (.string (strOf (bytesI l))) w := by
          rw [run_convert_bytes_string w s d es A l.length cap us ue ud]
          cases A with
          | none =>
            rw [hnil rfl]
            rfl
          | some A =>
            have hld := run_loadCells_list (P := P) w A vs (hcells A rfl)
            rw [hlen, hvs] at hld
            rw [run_bytesToString w A l.length cap l hld, empty_str, foldl_push]
            rfl
        simp [execOp, ho, hv, key]
      · rename_i l hqd' hl
        rw [hqd'] at ue
        obtain ⟨A, cap, vs, hv, hle, hel, hnil, hcells⟩ := listOf_cells hH hx hl
        have hvs := Elems.ints hel
        have hlen : vs.length = l.length := by rw [hvs]; simp
        refine stay hH h one_str ?_
        have key : (convert s d (.slice A l.length cap)).run P w = .ok (.string (strOf (runesB l))) w := by
          have e1 : (convert s d (.slice A l.length cap)).run P w = (Conv.runesToString (.slice A l.length cap)).run P w := by
            simp [convert, run_underlying us, run_underlying ud, run_underlying ue]
          rw [e1]
          cases A with
          | none =>
            rw [hnil rfl]
            rfl
          | some A =>
            have hld := run_loadCells_list (P := P) w A vs (hcells A rfl)
            rw [hlen, hvs] at hld
            rw [run_runesToString w A l.length cap l hld]
            unfold runesBytes
            rw [empty_str, foldl_runes]
            rfl
        simp [execOp, ho, hv, key]
      · cases h
    · cases h
  · -- to a slice
    rename_i ed hd
    rw [hd] at ud
    split at h
    case h_2 => cases h
    rename_i qe hqe
    obtain ⟨ue, _⟩ := hE.tr _ _ hqe
    split at h
    · rename_i t hqd'
      rw [hqd'] at ue
      have hrun := Lib.run_convert_string_bytes (P := P) w s d ed (strOf t) us ud ue
      refine grow_value hH (w' := Lib.bytesWorld w ed (strOf t)) ⟨by rw [Lib.bytesWorld_size]; omega, (freeze_io _ _ _).1, (freeze_io _ _ _).2.1, (freeze_io _ _ _).2.2⟩ (fun b hb => Lib.bytesWorld_at_old w ed _ b hb) h (v' := .slice (some ⟨w.heap.size, 0, none⟩) (strOf t).size (grownCap w (strOf t).size 0 ed)) (one_of ?_) ?_
      · have hl : (strOf t).size = (intsB t).length := by simp [strOf_size, intsB]
        rw [hl]
        refine ints_rep (by rw [Lib.bytesWorld_size]; omega) (fun hb => absurd (hown _ hb) (by omega)) ?_ fun j x hj => ?_
        · exact grownCap_ge w _ 0 ed
        · simp only [intsB, List.getElem?_map] at hj
          cases hh : t[j]? with
          | none => rw [hh] at hj; cases hj
          | some c =>
            rw [hh] at hj
            simp only [Option.map_some, Option.some.injEq] at hj
            subst hj
            have hlt : j < t.length := (List.getElem?_eq_some_iff.1 hh).1
            rw [Lib.bytesWorld_cell w ed (strOf t) j (by rw [strOf_size]; exact hlt)]
            simp [strOf, List.getD, hh]
      · simp [execOp, ho, str_of hx, hrun]
    · rename_i t hqd'
      rw [hqd'] at ue
      split at h
      case isFalse => cases h
      rename_i hle
      have hsz : (Conv.runesFrom (strOf t) (strOf t).size 0 #[]).size = (runesS t).length := by rw [runesS_eq]; simp
      have hrun : (convert s d (.string (strOf t))).run P w = .ok (.slice (some ⟨w.heap.size, 0, none⟩) (runesS t).length (grownCap w (runesS t).length 0 ed))
          (w.drew.alloc (.cells (((runesS t).map (Value.int .i32)).toArray ++ Array.replicate (grownCap w (runesS t).length 0 ed - (runesS t).length) (.int .i32 0)) ed)) := by
        have e0 : ((runesS t).map (Value.int .i32)).toArray.size = (runesS t).length := by simp
        simp [convert, run_underlying us, run_underlying ud, run_underlying ue, Conv.stringToRunes, runesS_eq, Nat.not_lt.2 hle, Question.forced, newRow, grownCap]
      generalize hcap : grownCap w (runesS t).length 0 ed = cap at hrun
      have hge : (runesS t).length ≤ cap := hcap ▸ grownCap_ge w _ 0 ed
      generalize hcells : ((runesS t).map (Value.int .i32)).toArray ++ Array.replicate (cap - (runesS t).length) (.int .i32 0) = cells at hrun
      have hdrew : (w.drew).heap = w.heap := rfl
      refine grow_value hH (w' := w.drew.alloc (.cells cells ed)) ⟨by simp [World.alloc], rfl, rfl, rfl⟩ (fun b hb => heap_alloc_old w.drew _ b hb) h (v' := .slice (some ⟨w.heap.size, 0, none⟩) (runesS t).length cap) (one_of ?_) ?_
      · refine ints_rep (by simp [World.alloc]) (fun hb => absurd (hown _ hb) (by omega)) hge fun j x hj => ?_
        have hnew := heap_alloc_new w.drew (.cells cells ed)
        rw [hdrew] at hnew
        simp only [World.cell?, hnew]
        rw [← hcells]
        have hlt : j < (runesS t).length := (List.getElem?_eq_some_iff.1 hj).1
        rw [Array.getElem?_append_left (by simpa using hlt)]
        simp [hj]
      · simp [execOp, ho, str_of hx, hrun]
    · rename_i n hqd'
      split at h
      case h_2 => cases h
      rename_i te e c l hsd hn
      obtain rfl := Nat.eq_of_beq_eq_true hsd
      rw [hqd'] at ue
      simp only [CRep, LRep] at hx
      obtain ⟨hu, hv⟩ := hx
      have hobj := hH.objs n _ hn
      obtain ⟨A, cap, vs, hvn, hle, hel, hnil, hcells⟩ := hobj.row_cells
      obtain ⟨vs', hrow, hel'⟩ := hobj
      rcases hrow.2 with ⟨_, h0⟩ | ⟨g, cap', cur, hvg, _, hg, hn', hmx, hsz, htake⟩
      · simp at h0
      have hw' : ((w.freeze ⟨g, cur.size, none⟩ 1).heap[g]? = some (.cells cur te (cur.size, cur.size + 1))) ∧ (∀ b, b ≠ g → (w.freeze ⟨g, cur.size, none⟩ 1).heap[b]? = w.heap[b]?) ∧ (w.freeze ⟨g, cur.size, none⟩ 1).heap.size = w.heap.size := by
        refine ⟨?_, fun b hb => ?_, ?_⟩
        · have hlt := (Array.getElem?_eq_some_iff.1 hg).1
          have hv2 := (Array.getElem?_eq_some_iff.1 hg).2
          simp [World.freeze, Array.getElem?_modify, hg]
        · simp [World.freeze, Array.getElem?_modify, Ne.symm hb]
        · simp [World.freeze]
      obtain ⟨hw1, hw2, hw3⟩ := hw'
      have hshr := hH.share hn
      have hrep : Rep w (Own ρ (upd (look none hp) n (some (.shr e (c :: l)))) X) (.list e) (c :: l) [ρ n] := hshr.2.objs n _ (upd_same _ _ _)
      have hcell : ∀ b o v, w.cell? ⟨b, o, none⟩ = some v → (w.freeze ⟨g, cur.size, none⟩ 1).cell? ⟨b, o, none⟩ = some v := fun b o v hb => by
        by_cases e' : b = g
        · subst e'
          simp only [World.cell?, hw1]
          simpa [World.cell?, hg] using hb
        · simp only [World.cell?, hw2 b e'] at hb ⊢
          exact hb
      have hrep' := Rep.cells (w' := w.freeze ⟨g, cur.size, none⟩ 1) (by rw [hw3]; exact Nat.le_refl _) hcell hrep
      have hkeep : ∀ b, b < w.heap.size → blk (ρ n) ≠ some b → (w.freeze ⟨g, cur.size, none⟩ 1).heap[b]? = w.heap[b]? := fun b _ hne => hw2 b fun e' => hne (by rw [hvg, e']; rfl)
      obtain ⟨k1, k2⟩ := hH.set (o1 := .shr e (c :: l)) hn rfl ⟨by rw [hw3]; exact Nat.le_refl _, (freeze_io _ _ _).1, (freeze_io _ _ _).2.1, (freeze_io _ _ _).2.2⟩ hkeep hrep'
      refine wp_value (v' := ρ n) (w' := w.freeze ⟨g, cur.size, none⟩ 1) ?_ ⟨_, _, ρ n, ρ, U, h, rfl, ?_, ?_, ?_, fun n hn => .inl hn⟩
      · have hsh : w.shape? g = some (te, cur.size) := by simp [World.shape?, hg]
        simp [execOp, ho, hv, hvg, convert, run_underlying ud, run_underlying ue, markStringish, hsh]
      · rw [look_one]; exact k1
      · rw [look_one]; exact k2
      · simp only [CRep, LRep]; exact ⟨hu, trivial⟩
    · cases h
  · cases h

/-! ### rows written down, structs built -/

theorem op_buildSlice {t te : TypeId} {n : Nat} {parts : Array (Nat × Operand)} {q qe : TR} {e : Kind} {cs : List CV} (hE : EnvOk P E) (ho : o.op = .buildSlice t n parts) (hH : Hp Z ρ U (look none hp) w X) (hm : ¬ U m)
    (hcs : CReps ρ U w (Own ρ (look none hp) X) cs (parts.toList.map fun p => a.eval p.2)) (ht : E.tr t = some q) (hd : q.d = .slice te) (hte : E.tr te = some qe) (hsz : qe.size = e.size)
    (hlen : parts.toList.length = n) (hseq : seqB parts.toList 0 = true) (hsm : n * e.size ≤ 16777216) (hpos : 0 < e.size)
    (h : shareAll (look none hp) e cs (fun xs u => K (.one (.view m)) ((m, some (.row te e xs)) :: u)) = some r) : o.wp P a w (Post ρ U hp w X Z a o m K r) Q := by
  obtain ⟨h1, h2, _⟩ := hE.tr t q ht
  obtain ⟨h1e, h2e, i, h3, h4, h5, z, h6, h7, h8, h9⟩ := hE.tr te qe hte
  rw [hd] at h1
  obtain ⟨xs, u, hk, hsh, hnx, hH1, hl, hel, hsize⟩ := shareAll_ok h (Sharing.refl _) hH hcs
  have his : i.size = e.size := h4.trans hsz
  have hxs : xs.length = n := by rw [hl, List.length_map, hlen]
  let vparts : List (Nat × Value) := parts.toList.map fun p => (p.1, a.eval p.2)
  let cells0 : Array Value := (Array.range (n * i.size)).map fun k => (if n * i.size = 0 then (#[] : Array Value) else z.cells)[k % (if n * i.size = 0 then (#[] : Array Value) else z.cells).size]!
  have hc0 : cells0.size = n * e.size := by simp [cells0, his]
  obtain ⟨out, hfill, hout⟩ := fill_seq e.size vparts 0 cells0 (fun j p hj => by
      simp only [vparts, List.getElem?_map] at hj
      cases hh : parts.toList[j]? with
      | none => rw [hh] at hj; cases hj
      | some p0 =>
        rw [hh] at hj
        simp only [Option.map_some, Option.some.injEq] at hj
        subst hj
        exact seqB_ok hseq j p0 hh) (fun p hp' => by
      simp only [vparts, List.mem_map] at hp'
      obtain ⟨p0, h10, rfl⟩ := hp'
      exact hsize _ (List.mem_map.2 ⟨p0, h10, rfl⟩)) (by rw [hc0]; simp [vparts, hlen])
  have hout' : out.toList = (parts.toList.map fun p => a.eval p.2).flatMap fun v => v.cells.toList := by
    rw [hout]
    have e1 : (0 + vparts.length) * e.size = cells0.toList.length := by
      have : cells0.toList.length = n * e.size := by rw [Array.length_toList]; exact hc0
      rw [this]; simp only [vparts, List.length_map, hlen, Nat.zero_add]
    rw [e1, List.drop_length, Nat.zero_mul, List.take_zero, List.nil_append, List.append_nil]
    simp [vparts, List.flatMap_map]
  have hosz : out.size = n * e.size := by
    rw [← Array.length_toList, hout', hel.length, hxs]
  have hrun : (execOp a.eval o).run P w = .ok (.value (.slice (some ⟨w.heap.size, 0, none⟩) xs.length n)) (w.alloc (.cells out te)) := by
    have hsm' : ¬ (n * i.size > 16777216) := by rw [his]; omega
    have hparts : (parts.map fun (i, x) => (i, a.eval x)).toList = vparts := by simp [vparts]
    have hb : (Instr.buildSlice t n (parts.map fun (i, x) => (i, a.eval x))).run P w = .ok (.slice (some ⟨w.heap.size, 0, none⟩) n n) (w.alloc (.cells out te)) := by
      unfold Instr.buildSlice
      rw [hparts]
      have hfill' : Instr.fill (fun k => some (k * i.size, i.size)) cells0 vparts = some out := by rw [his]; exact hfill
      by_cases h0 : n * i.size = 0
      · have e0 : cells0 = (Array.range (n * i.size)).map fun k => (#[] : Array Value)[k % (#[] : Array Value).size]! := by simp only [cells0, if_pos h0]
        rw [e0] at hfill'
        simp only [Sem.run_bind, run_underlying h1, Result.andThen_ok, sizeOf, typeInfo, run_program, h3, Sem.run_pure, if_neg hsm', if_pos h0, hfill']
        simp [newRow]
      · have e0 : cells0 = (Array.range (n * i.size)).map fun k => z.cells[k % z.cells.size]! := by simp only [cells0, if_neg h0]
        rw [e0] at hfill'
        simp only [Sem.run_bind, run_underlying h1, Result.andThen_ok, sizeOf, typeInfo, run_program, h3, Sem.run_pure, if_neg hsm', if_neg h0, hfill', zeroValue, h6]
        simp [newRow]
    rw [hxs]
    simp only [execOp, ho, Sem.run_bind, hb, Result.andThen_ok, Sem.run_pure]
  have hH1' : Hp Z ρ U (look none (u ++ hp)) w X := by rw [look_app]; exact hH1
  have hnx' : Nx ρ ρ U U (look none hp) (look none (u ++ hp)) w w := by rw [look_app]; exact hnx
  refine Oper.wp_mono (fun a' w' hp' => Post.pre hnx' hp') (make_row (l := xs) (vs := out.toList) (cap := n) (cur := out) (K := fun v u' => K v (u' ++ u)) hH1' hm hrun (by omega) ?_ hosz ?_ (fun ρ' U' w' Y' hl' => ?_) hk)
  · simp only [maxLen]
    have : n ≤ n * e.size := Nat.le_mul_of_pos_right _ hpos
    omega
  · rw [List.take_of_length_le]
    rw [Array.length_toList, hosz, hxs]; exact Nat.le_refl _
  · rw [hout']
    rw [look_app] at hl'
    exact Elems.later hl' hel
end
end Go.AM

set_option linter.unusedVariables false
set_option linter.unusedSimpArgs false
namespace Go.AM

section
variable {P : Program} {E : Env} {R : Type} {ρ : Nat → Value} {U : Nat → Prop} {hp : List (Nat × Option AObj)} {w w' : World} {X Z : Nat → Prop}
  {a : Act} {o : Oper} {m : Nat} {K : CV → Ups → Option R} {r : R} {Q : Exit → Act → World → Prop}

def CPairs (ρ : Nat → Value) (U : Nat → Prop) (w : World) (Y : Nat → Prop) : List (Nat × CV) → List (Nat × Value) → Prop
  | [], vs => vs = []
  | p :: ps, vs => ∃ v vs', vs = (p.1, v) :: vs' ∧ CRep ρ U w Y p.2 v ∧ CPairs ρ U w Y ps vs'

theorem fillCV_ok {Y : Nat → Prop} (hpl : Plain ρ U) {place : Nat → Option (Nat × Nat)} : ∀ {ps : List (Nat × CV)} {vs : List (Nat × Value)} {ls ls' : List LV} {cells : Array Value},
    fillCV place ls ps = some ls' → CPairs ρ U w Y ps vs → LReps ρ U w Y ls cells.toList → ∃ out, Instr.fill place cells vs = some out ∧ LReps ρ U w Y ls' out.toList
  | [], vs, ls, ls', cells, h, hc, hl => by
    simp only [fillCV, Option.some.injEq] at h
    subst h
    rw [show vs = [] from hc]
    exact ⟨cells, rfl, hl⟩
  | (i, c) :: ps, vs, ls, ls', cells, h, hc, hl => by
    obtain ⟨v, vs', rfl, h1, h2⟩ := hc
    simp only [fillCV] at h
    split at h
    case h_2 => cases h
    rename_i p new hp hnew
    split at h
    case h_2 => cases h
    rename_i hsz hok hle
    have hsz := Nat.eq_of_beq_eq_true hsz
    have hle := Nat.le_of_ble_eq_true hle
    obtain ⟨g1, g2⟩ := leavesOf_rep hpl hnew hok h1
    have hvs : v.cells.toList.length = p.2 := by rw [LReps.length g1, hsz]
    have hcl : cells.toList.length = ls.length := LReps.length hl
    have hfold := foldl_set cells p.1 v.cells.toList 0 (by rw [hvs]; simp at hcl; omega)
    simp only [Nat.add_zero, hvs] at hfold
    let cells' : Array Value := v.cells.zipIdx.foldl (fun cs (c, k) => cs.setIfInBounds (p.1 + k) c) cells
    have hcells' : cells'.toList = cells.toList.take p.1 ++ v.cells.toList ++ cells.toList.drop (p.1 + p.2) := by
      rw [← hfold]
      show (v.cells.zipIdx.foldl (fun cs (c, k) => cs.setIfInBounds (p.1 + k) c) cells).toList = _
      rw [← Array.foldl_toList, Array.toList_zipIdx]
    rw [takeL_eq, dropL_eq] at h
    have hl' : LReps ρ U w Y (ls.take p.1 ++ new ++ ls.drop (p.1 + p.2)) cells'.toList := by
      rw [hcells']
      exact LReps.append (LReps.append (LReps.take _ hl) g1) (LReps.drop _ hl)
    obtain ⟨out, k1, k2⟩ := fillCV_ok hpl h h2 hl'
    refine ⟨out, ?_, k2⟩
    obtain ⟨off, sz⟩ := p
    simp only [Instr.fill, hp]
    have hn : ¬ (v.cells.size ≠ sz ∨ off + v.cells.size > cells.size) := by
      simp at hvs hcl hle
      omega
    simp only [Bool.or_eq_true, decide_eq_true_eq, hn, if_false]
    exact k1

theorem places_of (hE : EnvOk P E) : ∀ {fs : List Field}, placesB E.tr fs = true → ∃ pl : List (Nat × Nat), fs.mapM (fun f => (P.info? f.type).map fun i => (f.offset, i.size)) = some pl ∧
    ∀ i : Nat, pl[i]? = (fs[i]?).bind fun (f : Field) => (E.tr f.type).map fun r => (f.offset, r.size)
  | [], _ => ⟨[], rfl, fun i => by simp⟩
  | f :: fs, h => by
    simp only [placesB] at h
    split at h
    case h_2 => cases h
    rename_i r hr
    obtain ⟨pl, h1, h2⟩ := places_of hE h
    obtain ⟨_, _, i, h3, h4, _⟩ := hE.tr _ _ hr
    refine ⟨(f.offset, i.size) :: pl, by simp [List.mapM_cons, h3, h1], fun j => ?_⟩
    cases j with
    | zero => simp [hr, h4]
    | succ j => simp [h2]

theorem op_build {t : TypeId} {parts : Array (Nat × Operand)} {q : TR} {ps : List (Nat × CV)} {ls : List LV} {place : Nat → Option (Nat × Nat)} (hE : EnvOk P E) (ho : o.op = .build t parts) (hH : Hp Z ρ U (look none hp) w X)
    (ht : E.tr t = some q) (hcs : CPairs ρ U w (Own ρ (look none hp) X) ps (parts.toList.map fun p => (p.1, a.eval p.2)))
    (hpl : (∃ fs, q.d = .struct fs ∧ placesB E.tr fs.toList = true ∧ place = placeF E.tr fs) ∨ (∃ n te qe, q.d = .array n te ∧ E.tr te = some qe ∧ place = fun i => some (i * qe.size, qe.size)))
    (hf : fillCV place q.zero ps = some ls) (h : K (.agg ls) [] = some r) : o.wp P a w (Post ρ U hp w X Z a o m K r) Q := by
  obtain ⟨h1, h2, i, h3, h4, h5, z, h6, h7, h8, h9⟩ := hE.tr t q ht
  obtain ⟨out, k1, k2⟩ := fillCV_ok hH.plain hf hcs (h9 ρ U w _)
  have hbuilt : P.built t (parts.map fun (i, x) => (i, a.eval x)).toList = some out := by
    have e1 : (parts.map fun (i, x) => (i, a.eval x)).toList = parts.toList.map fun p => (p.1, a.eval p.2) := by simp
    rw [e1]
    unfold Program.built
    rcases hpl with ⟨fs, hd, hb, rfl⟩ | ⟨n, te, qe, hd, hte, rfl⟩
    · rw [hd] at h1
      obtain ⟨pl, g1, g2⟩ := places_of hE hb
      simp only [h3, h1, h6, g1]
      have e2 : (fun i => pl.toArray[i]?) = placeF E.tr fs := by
        funext j
        simp only [List.getElem?_toArray, g2, placeF]
        have e3 : fs[j]? = fs.toList[j]? := by simp
        rw [e3]
        cases fs.toList[j]? with
        | none => rfl
        | some f =>
          simp only [Option.bind_some]
          cases E.tr f.type <;> rfl
      show Instr.fill (fun i => pl.toArray[i]?) z.cells _ = _
      rw [e2]; exact k1
    · rw [hd] at h1
      obtain ⟨_, _, ie, g3, g4, _⟩ := hE.tr _ _ hte
      simp only [h3, h1, h6, g3, g4]
      exact k1
  refine stay hH h (v' := .agg out) ?_ ?_
  · simp only [CRep]
    exact ⟨out.toList, by simp, k2⟩
  · simp [execOp, ho, run_build w t _ out hbuilt]

/-! ### walks over strings -/

theorem op_range {t : TypeId} {x : Operand} {q : TR} {s : List UInt8} (hE : EnvOk P E) (ho : o.op = .range t x) (hH : Hp Z ρ U (look none hp) w X) (hm : ¬ U m)
    (hx : CRep ρ U w (Own ρ (look none hp) X) (.one (.of .str s)) (a.eval x)) (ht : E.tr t = some q) (hd : q.d = .string)
    (h : K (.one (.ptr m 0)) [(m, some (.iter s 0))] = some r) : o.wp P a w (Post ρ U hp w X Z a o m K r) Q := by
  obtain ⟨h1, _⟩ := hE.tr t q ht
  rw [hd] at h1
  have hk : ∀ b, b < w.heap.size → (w.alloc (.stringIter (strOf s) 0)).heap[b]? = w.heap[b]? := fun b hb => heap_alloc_old w _ b hb
  have hv : ∀ g, blk (.pointer (some ⟨w.heap.size, 0, none⟩)) = some g → w.heap.size ≤ g := fun g hg => by simp [blk] at hg; omega
  have hx' := hH.nx_new (w' := w.alloc (.stringIter (strOf s) 0)) hm (.iter s 0) (v := .pointer (some ⟨w.heap.size, 0, none⟩)) Gr.alloc hk hv
  have hH' := (hH.new (w' := w.alloc (.stringIter (strOf s) 0)) hm (o := .iter s 0) (v := .pointer (some ⟨w.heap.size, 0, none⟩)) Gr.alloc hk hv rfl
    ⟨w.heap.size, rfl, heap_alloc_new w _⟩).2
  refine wp_value (v' := .pointer (some ⟨w.heap.size, 0, none⟩)) (w' := w.alloc (.stringIter (strOf s) 0)) ?_ ⟨_, _, _, upd ρ m (.pointer (some ⟨w.heap.size, 0, none⟩)), fun n => U n ∨ n = m, h, rfl, ?_, ?_, ?_, fun n hn => hn.imp id fun h => ⟨by omega, by omega⟩⟩
  · simp [execOp, ho, str_of hx, Instr.range, run_underlying h1]
  · rw [look_one]; exact hx'
  · rw [look_one]; exact hH'
  · simp only [CRep, LRep]
    exact ⟨by simp, w.heap.size, by rw [upd_same], rfl⟩

theorem setObj_heap (w : World) (b : Nat) (o : Obj) (hb : b < w.heap.size) : ({ w with heap := w.heap.setIfInBounds b o } : World).heap[b]? = some o := by
  simp [hb]

theorem op_next {x : Operand} {n : Nat} {s : List UInt8} {pos : Nat} (ho : o.op = .next x true) (hH : Hp Z ρ U (look none hp) w X)
    (hx : CRep ρ U w (Own ρ (look none hp) X) (.one (.ptr n 0)) (a.eval x)) (hn : look none hp n = some (.iter s pos))
    (h : (if pos < s.length
        then K (.tup [.one (.of .bool true), .one (.of (.int .i64) (pos : Int)), .one (.of (.int .i32) (runeAt s pos))]) [(n, some (.iter s (pos + widthAt s pos)))]
        else K (.tup [.one (.of .bool false)]) []) = some r) : o.wp P a w (Post ρ U hp w X Z a o m K r) Q := by
  obtain ⟨b, hb, hg⟩ := hH.objs n _ hn
  simp only [CRep, LRep] at hx
  obtain ⟨_, b', hb', hv⟩ := hx
  rw [hb] at hb'
  simp only [Value.pointer.injEq, Option.some.injEq, Addr.mk.injEq, and_true] at hb'
  subst hb'
  have hlt := (Array.getElem?_eq_some_iff.1 hg).1
  have hgo : (getObj b).run P w = .ok (.stringIter (strOf s) pos) w := by simp only [getObj, Sem.run, hg]
  have hso : ∀ ob', (setObj b ob').run P w = .ok () { w with heap := w.heap.setIfInBounds b ob' } := fun ob' => by simp only [setObj, Sem.run, hg]
  split at h
  · rename_i hp'
    have hp'' : pos < (strOf s).size := hp'
    let w' : World := { w with heap := w.heap.setIfInBounds b (.stringIter (strOf s) (pos + widthAt s pos)) }
    have hk : ∀ c, c < w.heap.size → blk (ρ n) ≠ some c → w'.heap[c]? = w.heap[c]? := fun c _ hne => by
      have : b ≠ c := fun e => hne (by rw [hb, e]; rfl)
      simp [w', Array.getElem?_setIfInBounds_ne this]
    obtain ⟨k1, k2⟩ := hH.set (w' := w') (o1 := .iter s (pos + widthAt s pos)) hn rfl ⟨by simp [w'], rfl, rfl, rfl⟩ hk ⟨b, hb, setObj_heap w b _ hlt⟩
    refine wp_value (v' := .tuple #[.bool true, .int .i64 pos, .int .i32 (runeAt s pos)]) (w' := w') ?_ ⟨_, _, _, ρ, U, h, rfl, ?_, ?_, ?_, fun n hn => .inl hn⟩
    · simp [execOp, ho, hv, Instr.next, hgo, hso, hp'', goInt, runeAt, widthAt, w']
    · rw [look_one]; exact k1
    · rw [look_one]; exact k2
    · simp only [CRep, CReps]
      exact ⟨[_, _, _], rfl, _, _, rfl, by simp [LRep, Rep], _, _, rfl, by simp [LRep, Rep], _, _, rfl, by simp [LRep, Rep], rfl⟩
  · rename_i hp'
    have hp'' : ¬ pos < (strOf s).size := hp'
    refine stay hH h (v' := .tuple #[.bool false]) ?_ ?_
    · simp only [CRep, CReps]
      exact ⟨[_], rfl, _, _, rfl, by simp [LRep, Rep], rfl⟩
    · simp [execOp, ho, hv, Instr.next, hgo, hp'']
end
end Go.AM

set_option linter.unusedVariables false
set_option linter.unusedSimpArgs false
namespace Go.AM

section
variable {P : Program} {E : Env} {R : Type} {ρ : Nat → Value} {U : Nat → Prop} {hp : List (Nat × Option AObj)} {w w' : World} {X Z : Nat → Prop}
  {a : Act} {o : Oper} {m : Nat} {K : CV → Ups → Option R} {r : R} {Q : Exit → Act → World → Prop}

theorem subK_rep {Y : Nat → Prop} : ∀ {κ : Kind} {off sz : Nat} {x : κ.T} {p : (κ' : Kind) × κ'.T} {cs : List Value}, subK κ off sz x = some p → Rep w Y κ x cs →
    ∃ cs', Rep w Y p.1 p.2 cs' ∧ ∀ (j : Nat) c, cs'[j]? = some c → cs[off + j]? = some c := by
  intro κ
  have leaf : ∀ {κ : Kind} {off sz : Nat} {x : κ.T} {p : (κ' : Kind) × κ'.T} {cs : List Value}, leafK κ off sz x = some p → Rep w Y κ x cs → ∃ cs', Rep w Y p.1 p.2 cs' ∧ ∀ (j : Nat) c, cs'[j]? = some c → cs[off + j]? = some c := by
    intro κ off sz x p cs h hr
    unfold leafK at h
    split at h
    · rename_i h1 _
      have := Nat.eq_of_beq_eq_true h1
      subst this
      simp only [Option.some.injEq] at h
      subst h
      exact ⟨cs, hr, fun j c hj => by simpa using hj⟩
    · cases h
  induction κ with
  | pair p q ihp ihq =>
    intro off sz x s cs h hr
    simp only [subK] at h
    split at h
    · rename_i h1 _
      have := Nat.eq_of_beq_eq_true h1
      subst this
      simp only [Option.some.injEq] at h
      subst h
      exact ⟨cs, hr, fun j c hj => by simpa using hj⟩
    · obtain ⟨us, us', rfl, h1, h2⟩ := hr
      have hl := Rep.length h1
      split at h
      · rename_i hlt
        obtain ⟨cs', g1, g2⟩ := ihp h h1
        refine ⟨cs', g1, fun j c hj => ?_⟩
        have := g2 j c hj
        have hlt := (List.getElem?_eq_some_iff.1 this).1
        rw [List.getElem?_append_left hlt]; exact this
      · rename_i hge
        have hge : ¬ off < p.size := fun hh => by rw [show Nat.blt off p.size = true from by simpa using hh] at hge; cases hge
        obtain ⟨cs', g1, g2⟩ := ihq h h2
        refine ⟨cs', g1, fun j c hj => ?_⟩
        have := g2 j c hj
        rw [List.getElem?_append_right (by omega), hl]
        rw [← this]; congr 1; omega
  | int k => intro off sz x s cs h hr; exact leaf h hr
  | bool => intro off sz x s cs h hr; exact leaf h hr
  | str => intro off sz x s cs h hr; exact leaf h hr
  | list e _ => intro off sz x s cs h hr; exact leaf h hr
  | ref e _ => intro off sz x s cs h hr; exact leaf h hr
  | unit => intro off sz x s cs h hr; simp [subK] at h
  | own _ _ _ => intro off sz x s cs h hr; simp [subK] at h
  | ownc _ _ _ => intro off sz x s cs h hr; simp [subK] at h
  | cel _ _ => intro off sz x s cs h hr; simp [subK] at h
  | fn => intro off sz x s cs h hr; simp [subK] at h

/-- a part of what a shared pointer leads to -/
theorem ref_part {Y : Nat → Prop} {κ κ' : Kind} {x : κ.T} {y : κ'.T} {off sz : Nat} {v : Value} (h : subK κ off sz x = some ⟨κ', y⟩) (hr : CRep ρ U w Y (.one (.of (.ref κ) x)) v) :
    ∃ b o, v = .pointer (some ⟨b, o, none⟩) ∧ CRep ρ U w Y (.one (.of (.ref κ') y)) (.pointer (some ⟨b, o + off, none⟩)) := by
  obtain ⟨b, o, h1, h2, h3, cs, h4, h5⟩ := of_one hr
  simp only [List.cons.injEq, and_true] at h1
  obtain ⟨cs', g1, g2⟩ := subK_rep h h4
  refine ⟨b, o, h1, one_of ⟨b, o + off, rfl, h2, h3, cs', g1, fun j c hj => ?_⟩⟩
  have := h5 _ _ (g2 j c hj)
  rw [Nat.add_assoc]; exact this

theorem op_fieldAddr_ref {t : TypeId} {x : Operand} {j : Nat} {q qf : TR} {fs : Array Field} {f : Field} {κ κ' : Kind} {y : κ.T} {y' : κ'.T} (hE : EnvOk P E) (ho : o.op = .fieldAddr t x j) (hH : Hp Z ρ U (look none hp) w X)
    (hx : CRep ρ U w (Own ρ (look none hp) X) (.one (.of (.ref κ) y)) (a.eval x)) (ht : E.tr t = some q) (hd : q.d = .struct fs) (hf : fs[j]? = some f)
    (htf : E.tr f.type = some qf) (hpos : qf.size ≠ 0) (hs : subK κ f.offset qf.size y = some ⟨κ', y'⟩)
    (h : K (.one (.of (.ref κ') y')) [] = some r) : o.wp P a w (Post ρ U hp w X Z a o m K r) Q := by
  obtain ⟨h1, h2, _⟩ := hE.tr t q ht
  obtain ⟨h1f, h2f, i, h3, h4, _⟩ := hE.tr f.type qf htf
  rw [hd] at h1
  obtain ⟨b, off, hv, hr⟩ := ref_part hs hx
  refine stay hH h hr ?_
  simp [execOp, ho, hv, Instr.fieldAt, run_underlying h1, hf, Instr.sureAddr, fieldPlace, sizeOf, typeInfo, h3, h4, hpos, addr_add]

theorem op_index_arr {t te : TypeId} {x y : Operand} {q qe : TR} {len : Nat} {k : IntKind} {j : Nat} {c : CV} (hE : EnvOk P E) (ho : o.op = .indexAddr t x y) (hH : Hp Z ρ U (look none hp) w X)
    (hy : CRep ρ U w (Own ρ (look none hp) X) (.one (.of (.int k) (.ofNat j))) (a.eval y)) (ht : E.tr t = some q) (hd : q.d = .array len te) (hte : E.tr te = some qe) (hlt : j < len)
    (hx : ∃ b off, a.eval x = .pointer (some ⟨b, off, none⟩) ∧ CRep ρ U w (Own ρ (look none hp) X) c (.pointer (some ⟨b, off + j * qe.size, none⟩)))
    (h : K c [] = some r) : o.wp P a w (Post ρ U hp w X Z a o m K r) Q := by
  obtain ⟨h1, h2, _⟩ := hE.tr t q ht
  obtain ⟨h1e, h2e, i, h3, h4, _⟩ := hE.tr te qe hte
  rw [hd] at h1
  obtain ⟨b, off, hv, hr⟩ := hx
  refine stay hH h hr ?_
  have hj : (j : Int) < (len : Int) := by omega
  have hyv : a.eval y = .int k (j : Int) := int_of hy
  simp [execOp, ho, hv, hyv, Instr.indexAt, asIntOf, run_underlying h1, Instr.sureAddr, sizeOf, typeInfo, h3, h4, hlt, Nat.not_le.2 hlt, addr_add]

/-- the beginning of an own row, which stays own -/
theorem op_slice_keep {t te te' : TypeId} {x : Operand} {hi : Option Operand} {q qe : TR} {e : Kind} {l : List e.T} {n : Nat} (hE : EnvOk P E) (ho : o.op = .slice t x none hi none) (hH : Hp Z ρ U (look none hp) w X) (hm : ¬ U m)
    (hx : CRep ρ U w (Own ρ (look none hp) X) (.one (.view n)) (a.eval x)) (hn : look none hp n = some (.row te' e l)) (ht : E.tr t = some q) (hd : q.d = .slice te) (hte : E.tr te = some qe) (hsz : qe.size = e.size) {j : Nat}
    (hhi : (hi = none ∧ j = l.length) ∨ ∃ y k z, hi = some y ∧ a.eval y = .int k z ∧ 0 ≤ z ∧ z.toNat = j) (hj : j ≤ l.length)
    (h : K (.one (.view m)) [(m, some (.row te' e (l.take j))), (n, none)] = some r) : o.wp P a w (Post ρ U hp w X Z a o m K r) Q := by
  obtain ⟨h1, h2, _⟩ := hE.tr t q ht
  obtain ⟨h1e, h2e, ie, h3, h4, _⟩ := hE.tr te qe hte
  rw [hd] at h1
  simp only [CRep, LRep] at hx
  obtain ⟨hu, hv⟩ := hx
  obtain ⟨vs, hown, hel⟩ := hH.objs n _ hn
  obtain ⟨A, cap, _, hvn, hle, _⟩ := (hH.objs n _ hn).row_cells
  have hrun := run_sliceAt (P := P) (w := w) h1 h3 A l.length cap none (hi.map a.eval) 0 j (.inl ⟨rfl, rfl⟩)
    (by rcases hhi with ⟨rfl, h⟩ | ⟨y, k, z, rfl, g1, g2, g3⟩
        · exact .inl ⟨rfl, h⟩
        · exact .inr ⟨k, z, by simp [g1], g2, g3⟩) (Nat.zero_le _) hj hle
  have hval : (Value.slice (if cap = 0 then A else A.map (·.add (0 * ie.size))) (j - 0) (cap - 0)) = .slice A j cap := by
    congr 1
    split
    · rfl
    · cases A with
      | none => rfl
      | some b => simp [Addr.add]
  rw [hval] at hrun
  have hlen : (l.take j).length = j := by simp; omega
  have helt : ∀ {Y : Nat → Prop}, Elems w Y e l vs → Elems w Y e (l.take j) (vs.take (j * e.size)) := by
    intro Y
    have gen : ∀ (l : List e.T) (vs : List Value) (j : Nat), Elems w Y e l vs → Elems w Y e (l.take j) (vs.take (j * e.size)) := by
      intro l
      induction l with
      | nil => intro vs j h; rw [show vs = [] from h]; simp [Elems]
      | cons x l ih =>
        intro vs j h
        cases j with
        | zero => simp [Elems]
        | succ j =>
          obtain ⟨us, vs', rfl, g1, g2⟩ := h
          have hl := Rep.length g1
          refine ⟨us, vs'.take (j * e.size), ?_, g1, ih vs' j g2⟩
          rw [Nat.add_mul, Nat.one_mul, Nat.add_comm, ← hl, List.take_length_add_append]
    exact gen l vs j
  have hown' : w.ownsRow 0 te' e.size (.slice A j cap) j (vs.take (j * e.size)) := by
    have hvl := hel.length
    have hm1 : j * e.size ≤ l.length * e.size := Nat.mul_le_mul_right _ hj
    refine ⟨by rw [List.length_take]; omega, ?_⟩
    rcases hown.2 with ⟨hnil, h0⟩ | ⟨g, cap', cur, hvg, hb0, hg, hn', hmx, hcur, htake⟩
    · rw [hnil] at hvn
      simp only [Value.slice.injEq] at hvn
      obtain ⟨rfl, h5, rfl⟩ := hvn
      have : j = 0 := by omega
      subst this
      exact .inl ⟨rfl, rfl⟩
    · rw [hvg] at hvn
      simp only [Value.slice.injEq] at hvn
      obtain ⟨rfl, _, rfl⟩ := hvn
      refine .inr ⟨g, cap', cur, rfl, hb0, hg, by omega, hmx, hcur, ?_⟩
      rw [← htake, List.take_take]
      congr 1; omega
  have hk : ∀ b, b < w.heap.size → blk (ρ n) ≠ some b → w.heap[b]? = w.heap[b]? := fun _ _ _ => rfl
  have hvb : ∀ g, blk (.slice A j cap) = some g → blk (ρ n) = some g ∨ w.heap.size ≤ g := fun g hg => .inl (by rw [hvn]; cases A with
    | none => cases hg
    | some x => exact hg)
  have hx' := hH.nx_app (w' := w) (.row te' e (l.take j)) (v := .slice A j cap) hn rfl hm Gr.refl hk hvb
  have hH' := (hH.app (w' := w) (o1 := .row te' e (l.take j)) (v := .slice A j cap) hn rfl rfl hm Gr.refl hk hvb rfl
    ⟨vs.take (j * e.size), by rw [hlen]; exact hown', Elems.later hx'.later (helt hel)⟩).2
  refine wp_value (v' := .slice A j cap) (w' := w) ?_ ⟨_, _, _, upd ρ m (.slice A j cap), fun k => U k ∨ k = m, h, rfl, ?_, ?_, ?_, fun n hn => hn.imp id fun h => ⟨by omega, by omega⟩⟩
  · simp only [execOp, ho, hv, hvn, Option.map_none]
    simp only [Sem.run_bind, hrun, Result.andThen_ok, Sem.run_pure]
  · rw [look_two]; exact hx'
  · rw [look_two]; exact hH'
  · simp only [CRep, LRep]
    exact ⟨by simp, by rw [upd_same]⟩

theorem op_append_nil {t te : TypeId} {x y : Operand} {q qe : TR} {e : Kind} {l' : List e.T} {c : CV} {c0 : Call} (hE : EnvOk P E)
    (ho : o.op = .call c0) (hc0 : c0.callee = .builtin .append) (ha : c0.args.toList = [x, y]) (hat : c0.argTypes.toList = [t, t])
    (hH : Hp Z ρ U (look none hp) w X) (hm : ¬ U m) (hx : CRep ρ U w (Own ρ (look none hp) X) (.one (.raw (.slice none 0 0))) (a.eval x)) (hy : CRep ρ U w (Own ρ (look none hp) X) c (a.eval y))
    (hl : listOf (look none hp) c = some ⟨e, l'⟩) (ht : E.tr t = some q) (hd : q.d = .slice te) (hte : E.tr te = some qe) (hsz : qe.size = e.size) (hpos : 0 < e.size)
    (hby : l'.length * qe.bytes ≤ 140737488355328) (hmax : l'.length ≤ maxLen)
    (h : K (.one (.view m)) [(m, some (.row te e l'))] = some r) : o.wp P a w (Post ρ U hp w X Z a o m K r) Q := by
  obtain ⟨h1, h2, _⟩ := hE.tr t q ht
  obtain ⟨h1e, h2e, i, h3, h4, h5, z, h6, h7, h8, h9⟩ := hE.tr te qe hte
  rw [hd] at h1
  have hv : a.eval x = .slice none 0 0 := by simpa [CRep, LRep] using hx
  obtain ⟨a2, cap2, vs2, hv2, hle2, hel2, hnil2, hcells2⟩ := listOf_cells hH hy hl
  have hargs : c0.args = #[x, y] := by rw [← Array.toArray_toList (xs := c0.args), ha]
  have hargT : c0.argTypes = #[t, t] := by rw [← Array.toArray_toList (xs := c0.argTypes), hat]
  have hown0 : w.ownsRow 0 te e.size (.slice none 0 0) 0 [] := ⟨by simp, .inl ⟨rfl, rfl⟩⟩
  have key : ∃ v' w', (Builtin.append_ #[t, t] o.type #[.slice none 0 0, a.eval y]).run P w = .ok v' w' ∧ w'.ownsRow 0 te e.size v' l'.length vs2 ∧ w.grownBy w' none ∧
      (v'.ownBlock = none ∨ v'.ownBlock = some w.heap.size) := by
    cases a2 with
    | some a2 =>
      rw [hv2]
      obtain ⟨v', w', g1, g2, g3, _, g5⟩ := run_append_own_at (P := P) w 0 t o.type te i z e.size qe.bytes h1 h3 h6 (h4.trans hsz) h5 (h8.trans hsz) hpos (.slice none 0 0) 0 [] hown0 a2 l'.length cap2 vs2
        (hel2.length) (hcells2 a2 rfl) hel2.one_cell (by simpa using hmax) (by simpa using hby) (Nat.zero_le _)
      refine ⟨v', w', g1, by simpa using g2, g3, g5⟩
    | none =>
      obtain rfl := hnil2 rfl
      have hvs2 : vs2 = [] := hel2
      refine ⟨.slice none 0 0, w, ?_, by rw [hvs2]; exact hown0, ⟨rfl, rfl, rfl, Nat.le_refl _, fun _ _ _ => rfl⟩, .inl rfl⟩
      rw [hv2]
      exact run_append_nothing (P := P) w t t o.type te i h1 h3 none 0 0 (Nat.le_refl _) _ (Src.ofNil (P := P) w h1 cap2)
  obtain ⟨v', w', g1, g2, g3, g5⟩ := key
  have hform : ∃ a' n' c', v' = .slice a' n' c' := by
    rcases g2.2 with ⟨rfl, _⟩ | ⟨g, cap, cur, rfl, _⟩
    · exact ⟨_, _, _, rfl⟩
    · exact ⟨_, _, _, rfl⟩
  obtain ⟨a', n', c', hv'⟩ := hform
  have hb' := ownBlock_blk hv'
  have hk : ∀ b, b < w.heap.size → w'.heap[b]? = w.heap[b]? := fun b hb => g3.block b hb (fun e => by cases e)
  have hvb : ∀ g, blk v' = some g → w.heap.size ≤ g := fun g hg => by
    rw [← hb'] at hg
    rcases g5 with g5 | g5
    · rw [g5] at hg; cases hg
    · rw [g5] at hg; simp only [Option.some.injEq] at hg; omega
  have hx' := hH.nx_new (w' := w') hm (.row te e l') (v := v') (Gr.grown g3) hk hvb
  have hH' := (hH.new (w' := w') hm (o := .row te e l') (v := v') (Gr.grown g3) hk hvb (by rw [hv']; rfl) ⟨vs2, g2, Elems.later hx'.later hel2⟩).2
  refine wp_value (v' := v') (w' := w') ?_ ⟨_, _, _, upd ρ m v', fun k => U k ∨ k = m, h, rfl, ?_, ?_, ?_, fun n hn => hn.imp id fun h => ⟨by omega, by omega⟩⟩
  · rw [← hv] at g1
    simp [execOp, ho, resolve, hc0, hargs, hargT, invoke, builtin, g1]
  · rw [look_one]; exact hx'
  · rw [look_one]; exact hH'
  · simp only [CRep, LRep]
    exact ⟨by simp, by rw [upd_same]⟩
end
end Go.AM

set_option linter.unusedVariables false
set_option linter.unusedSimpArgs false
namespace Go.AM

section
variable {P : Program} {E : Env} {C : CallT E} {R : Type} {ρ : Nat → Value} {U : Nat → Prop} {hp : List (Nat × Option AObj)} {w : World} {X Z : Nat → Prop}
  {tm : List (Nat × CV)} {a : Act} {o : Oper} {m : Nat} {K : CV → Ups → Option R} {r : R} {Q : Exit → Act → World → Prop}

def TmOk (ρ : Nat → Value) (U : Nat → Prop) (w : World) (Y : Nat → Prop) (tm : List (Nat × CV)) (a : Act) : Prop :=
  ∀ t, CRep ρ U w Y (look .undef tm t) (a.tmps.getD t undef)

theorem constV_rep {Y : Nat → Prop} (v : Value) : CRep ρ U w Y (constV v) v := by
  unfold constV
  split <;> simp [CRep, LRep, Rep, strOf]

theorem evalO_rep {Y : Nat → Prop} (h : TmOk ρ U w Y tm a) (x : Operand) : CRep ρ U w Y (evalO tm x) (a.eval x) := by
  cases x with
  | tmp t => exact h t
  | const v => exact constV_rep v
  | global g => simp [evalO, CRep]
  | func f => simp [evalO, CRep, LRep, Act.eval]

theorem ok_move {x : Operand} (ho : o.op = .move x ∨ o.op = .assign x) (hH : Hp Z ρ U (look none hp) w X) (hm : ¬ U m) (ht : TmOk ρ U w (Own ρ (look none hp) X) tm a)
    (h : opEff E C o tm hp m K = some r) : o.wp P a w (Post ρ U hp w X Z a o m K r) Q := by
  have hx := evalO_rep ht x
  have ho' := ho
  unfold opEff at h
  rcases ho with ho | ho <;> simp only [ho] at h
  all_goals
    split at h
    · rename_i hv
      rw [hv] at hx
      split at h
      · split at h
        · exact op_move_nil ho' hH hm hx h
        · cases h
      · exact op_move ho' hH hx h
    · exact op_move ho' hH hx h

theorem ok_alloc {t : TypeId} (hE : EnvOk P E) (ho : o.op = .alloc t) (hH : Hp Z ρ U (look none hp) w X) (hm : ¬ U m) (h : opEff E C o tm hp m K = some r) :
    o.wp P a w (Post ρ U hp w X Z a o m K r) Q := by
  unfold opEff at h
  simp only [ho] at h
  split at h
  · rename_i q hq; exact op_alloc hE ho hH hm hq h
  · cases h

theorem ok_box {t : TypeId} {x : Operand} (ho : o.op = .box t x) (hH : Hp Z ρ U (look none hp) w X) (hm : ¬ U m) (ht : TmOk ρ U w (Own ρ (look none hp) X) tm a) (h : opEff E C o tm hp m K = some r) :
    o.wp P a w (Post ρ U hp w X Z a o m K r) Q := by
  unfold opEff at h
  simp only [ho] at h
  split at h
  · rename_i ls hl
    split at h
    · rename_i hok; exact op_box ho hH hm (evalO_rep ht x) hl hok h
    · cases h
  · cases h

theorem ok_unOp {op : UnOp} {t : TypeId} {x : Operand} (ho : o.op = .unOp op t x) (hH : Hp Z ρ U (look none hp) w X) (ht : TmOk ρ U w (Own ρ (look none hp) X) tm a) (h : opEff E C o tm hp m K = some r) :
    o.wp P a w (Post ρ U hp w X Z a o m K r) Q := by
  unfold opEff at h
  simp only [ho] at h
  exact op_unOp ho hH (evalO_rep ht x) h

theorem ok_convert {s d : TypeId} {x : Operand} (hE : EnvOk P E) (ho : o.op = .convert s d x) (hH : Hp Z ρ U (look none hp) w X) (ht : TmOk ρ U w (Own ρ (look none hp) X) tm a) (h : opEff E C o tm hp m K = some r) :
    o.wp P a w (Post ρ U hp w X Z a o m K r) Q := by
  unfold opEff at h
  simp only [ho] at h
  exact op_conv hE ho hH (evalO_rep ht x) h

theorem ok_binOp {op : BinOp} {t u : TypeId} {x y : Operand} (hE : EnvOk P E) (ho : o.op = .binOp op t x y u) (hH : Hp Z ρ U (look none hp) w X) (ht : TmOk ρ U w (Own ρ (look none hp) X) tm a) (h : opEff E C o tm hp m K = some r) :
    o.wp P a w (Post ρ U hp w X Z a o m K r) Q := by
  unfold opEff at h
  simp only [ho] at h
  have hx := evalO_rep ht x
  have hy := evalO_rep ht y
  split at h
  · rename_i k p k' q hv hv'
    rw [hv] at hx
    rw [hv'] at hy
    exact op_binInt ho hH hx hy h
  · rename_i p q hv hv'
    rw [hv] at hx
    rw [hv'] at hy
    split at h
    · rename_i qt hqt
      split at h
      · rename_i hd; exact op_binBool hE ho hH hqt hd hx hy h
      · cases h
    · cases h
  · rename_i p q hv hv'
    rw [hv] at hx
    rw [hv'] at hy
    exact op_binStr ho hH hx hy h
  · rename_i ls ls' hv hv'
    rw [hv] at hx
    rw [hv'] at hy
    split at h
    case h_2 => cases h
    rename_i q heq hq
    split at h
    case h_2 => cases h
    rename_i fs hd
    split at h
    case h_2 => cases h
    rename_i b hb
    exact op_eqStruct hE ho hH heq hq hd hx hy hb h
  · cases h

theorem ok_extract {x : Operand} {i : Nat} (ho : o.op = .extract x i) (hH : Hp Z ρ U (look none hp) w X) (ht : TmOk ρ U w (Own ρ (look none hp) X) tm a) (h : opEff E C o tm hp m K = some r) :
    o.wp P a w (Post ρ U hp w X Z a o m K r) Q := by
  unfold opEff at h
  simp only [ho] at h
  have hx := evalO_rep ht x
  split at h
  · rename_i cs hv
    rw [hv] at hx
    split at h
    · rename_i c hc; exact op_extract ho hH hx hc h
    · cases h
  · cases h

theorem ok_nilCheck {x : Operand} (ho : o.op = .nilCheck x) (hH : Hp Z ρ U (look none hp) w X) (ht : TmOk ρ U w (Own ρ (look none hp) X) tm a) (h : opEff E C o tm hp m K = some r) :
    o.wp P a w (Post ρ U hp w X Z a o m K r) Q := by
  unfold opEff at h
  simp only [ho] at h
  have hx := evalO_rep ht x
  split at h
  · rename_i n off hv; rw [hv] at hx; exact op_nilCheck_ptr ho hH hx h
  · rename_i e x' hv; rw [hv] at hx; exact op_nilCheck_ref ho hH hx h
  · cases h

theorem ok_fieldAddr {t : TypeId} {x : Operand} {j : Nat} (hE : EnvOk P E) (ho : o.op = .fieldAddr t x j) (hH : Hp Z ρ U (look none hp) w X) (ht : TmOk ρ U w (Own ρ (look none hp) X) tm a) (h : opEff E C o tm hp m K = some r) :
    o.wp P a w (Post ρ U hp w X Z a o m K r) Q := by
  unfold opEff at h
  simp only [ho] at h
  have hx := evalO_rep ht x
  split at h
  · rename_i n off q hv hq
    rw [hv] at hx
    split at h
    · rename_i fs hd
      split at h
      · rename_i f hf
        split at h
        · rename_i qf hqf
          split at h
          · cases h
          · rename_i hz
            exact op_fieldAddr hE ho hH hx hq hd hf hqf (fun e => by rw [e] at hz; cases hz) h
        · cases h
      · cases h
    · cases h
  · rename_i κ y q hv hq
    rw [hv] at hx
    split at h
    case h_2 => cases h
    rename_i fs hd
    split at h
    case h_2 => cases h
    rename_i f hf
    split at h
    case h_2 => cases h
    rename_i qf hqf
    split at h
    case h_2 => cases h
    rename_i κ' y' hz hs
    exact op_fieldAddr_ref hE ho hH hx hq hd hf hqf (fun e => by rw [e] at hz; cases hz) hs h
  · cases h

theorem ok_field {t : TypeId} {x : Operand} {j : Nat} (hE : EnvOk P E) (ho : o.op = .field t x j) (hH : Hp Z ρ U (look none hp) w X) (ht : TmOk ρ U w (Own ρ (look none hp) X) tm a) (h : opEff E C o tm hp m K = some r) :
    o.wp P a w (Post ρ U hp w X Z a o m K r) Q := by
  unfold opEff at h
  simp only [ho] at h
  have hx := evalO_rep ht x
  split at h
  · rename_i ls q hv hq
    rw [hv] at hx
    split at h
    · rename_i fs hd
      split at h
      · rename_i f hf
        split at h
        · rename_i qf hqf
          split at h
          · rename_i c hc; exact op_field hE ho hH hx hq hd hf hqf hc h
          · cases h
        · cases h
      · cases h
    · cases h
  · cases h
end
end Go.AM

set_option linter.unusedVariables false
set_option linter.unusedSimpArgs false
namespace Go.AM

section
variable {P : Program} {E : Env} {C : CallT E} {R : Type} {ρ : Nat → Value} {U : Nat → Prop} {hp : List (Nat × Option AObj)} {w : World} {X Z : Nat → Prop}
  {tm : List (Nat × CV)} {a : Act} {o : Oper} {m : Nat} {K : CV → Ups → Option R} {r : R} {Q : Exit → Act → World → Prop}

theorem pos_of {n : Nat} (h : Nat.beq n 0 = false) : 0 < n := by
  cases n with
  | zero => cases h
  | succ n => omega

theorem ok_load {t : TypeId} {x : Operand} (hE : EnvOk P E) (ho : o.op = .load t x) (hH : Hp Z ρ U (look none hp) w X) (ht : TmOk ρ U w (Own ρ (look none hp) X) tm a) (h : opEff E C o tm hp m K = some r) :
    o.wp P a w (Post ρ U hp w X Z a o m K r) Q := by
  unfold opEff at h
  simp only [ho] at h
  have hx := evalO_rep ht x
  split at h
  · rename_i κ x' q hv hq
    rw [hv] at hx
    split at h
    · rename_i hagg
      split at h
      · rename_i hs
        exact op_load_ref hE ho hH hx hq (.inl ⟨hagg, Nat.eq_of_beq_eq_true hs, rfl⟩) h
      · cases h
    · rename_i hagg
      split at h
      · rename_i l hl
        exact op_load_ref hE ho hH hx hq (.inr ⟨hagg, l, hl, rfl⟩) h
      · cases h
  · rename_i n off q hv hq
    rw [hv] at hx
    split at h
    · rename_i ls hn
      split at h
      · rename_i c hc; exact op_load_cell hE ho hH hx hq hn hc h
      · cases h
    · cases h
  · rename_i n i sz q hv hq
    rw [hv] at hx
    split at h
    · rename_i te e l hn
      split at h
      · rename_i hs1 hs2
        obtain rfl := Nat.eq_of_beq_eq_true hs1
        split at h
        · rename_i hagg
          exact op_load_row hE ho hH hx hn hq (.inl ⟨hagg, Nat.eq_of_beq_eq_true hs2, rfl⟩) h
        · rename_i hagg
          split at h
          · rename_i l' hl
            exact op_load_row hE ho hH hx hn hq (.inr ⟨hagg, l', hl, rfl⟩) h
          · cases h
      · cases h
    · cases h
  · cases h

theorem CReps_map {Y : Nat → Prop} (ht : TmOk ρ U w Y tm a) : ∀ xs : List Operand, CReps ρ U w Y (xs.map (evalO tm)) (xs.map a.eval)
  | [] => by simp [CReps]
  | x :: xs => by
    simp only [List.map_cons, CReps]
    exact ⟨_, _, rfl, evalO_rep ht x, CReps_map ht xs⟩

/-- the functions that the machine may call -/
def FnOk (P : Program) (Fn : List (Nat × Option Func)) : Prop := ∀ f fn, look none Fn f = some fn → P.funcs[f]? = some fn ∧ fn.body ≠ none ∧ fn.name ≠ "runtime.NumGoroutine"

theorem calleeF_ok (ht : TmOk ρ U w (Own ρ (look none hp) X) tm a) {y : Operand} {f : Nat} (h : calleeF tm y = some f) : a.eval y = .func (.func f) #[] #[] := by
  have hy := evalO_rep ht y
  unfold calleeF at h
  split at h
  · simp only [Option.some.injEq] at h; subst h; rfl
  · rename_i t
    simp only [evalO] at hy
    split at h
    · rename_i hv
      rw [hv] at hy
      simp only [Option.some.injEq] at h; subst h
      simpa [CRep, LRep] using hy
    · rename_i hv
      rw [hv] at hy
      simp only [Option.some.injEq] at h; subst h
      simpa [CRep, LRep, Rep] using hy
    · cases h
  · cases h

theorem ok_call {y : Operand} {c0 : Call} (hE : EnvOk P E) (hC : CallsOk P E C) (ho : o.op = .call c0) (hc0 : c0.callee = .value y)
    (hH : Hp Z ρ U (look none hp) w X) (hm : ∀ n, m ≤ n → ¬ U n) (ht : TmOk ρ U w (Own ρ (look none hp) X) tm a) (h : opEff E C o tm hp m K = some r) :
    o.wp P a w (Post ρ U hp w X Z a o m K r) Q := by
  unfold opEff at h
  simp only [ho, hc0] at h
  split at h
  case h_2 => cases h
  rename_i f hf
  split at h
  case h_2 => cases h
  rename_i hk
  obtain ⟨fn, h1, h2, h3⟩ := hE.known f hk
  exact op_call hC ho hc0 (calleeF_ok ht hf) h1 h2 h3 hH hm (CReps_map ht c0.args.toList) h

theorem ok_append {c0 : Call} (hE : EnvOk P E) (ho : o.op = .call c0) (hc0 : c0.callee = .builtin .append)
    (hH : Hp Z ρ U (look none hp) w X) (hm : ¬ U m) (ht : TmOk ρ U w (Own ρ (look none hp) X) tm a) (h : opEff E C o tm hp m K = some r) :
    o.wp P a w (Post ρ U hp w X Z a o m K r) Q := by
  unfold opEff at h
  simp only [ho, hc0] at h
  split at h
  case h_2 => cases h
  rename_i x y t t' hargs hats
  have hx := evalO_rep ht x
  have hy := evalO_rep ht y
  split at h
  case h_2 => cases h
  rename_i q htt hq
  obtain rfl := Nat.eq_of_beq_eq_true htt
  split at h
  case h_2 => cases h
  rename_i te' hd
  split at h
  case h_2 => cases h
  rename_i qe hqe
  split at h
  case h_3 => cases h
  · rename_i e' l' hv hl
    rw [hv] at hx
    split at h
    case h_2 => cases h
    rename_i e hkd
    split at h
    case h_2 => cases h
    rename_i h3 h2 _ h4 h5
    subst h3
    by_cases hle : l'.length * qe.bytes ≤ 140737488355328
    · rw [if_pos hle] at h
      have hb := pos_of h5
      have : l'.length ≤ 140737488355328 := Nat.le_trans (Nat.le_mul_of_pos_right _ hb) hle
      exact op_append_nil hE ho hc0 hargs hats hH hm hx hy hl hq hd hqe (Nat.eq_of_beq_eq_true h2) (pos_of h4) hle (by simp only [maxLen]; omega) h
    · rw [if_neg hle] at h; cases h
  rename_i n e' l' hv hl
  rw [hv] at hx
  split at h
  case h_2 => cases h
  rename_i te e l hn
  split at h
  case h_2 => cases h
  rename_i h3 h1 h2 h4 h5 h6
  obtain rfl := Nat.eq_of_beq_eq_true h1
  subst h3
  by_cases hle : (l.length + l'.length) * qe.bytes ≤ 140737488355328
  · rw [if_pos hle] at h
    have hb := pos_of h6
    have : l.length + l'.length ≤ 140737488355328 := Nat.le_trans (Nat.le_mul_of_pos_right _ hb) hle
    exact op_append hE ho hc0 hargs hats hH hm hx hy hl hq hd hqe (Nat.eq_of_beq_eq_true h2) (pos_of h5) hn hle (by simp only [maxLen]; omega) h
  · rw [if_neg hle] at h; cases h

theorem ok_store {t : TypeId} {x y : Operand} (hE : EnvOk P E) (ho : o.op = .store t x y) (hH : Hp Z ρ U (look none hp) w X) (ht : TmOk ρ U w (Own ρ (look none hp) X) tm a) (h : opEff E C o tm hp m K = some r) :
    o.wp P a w (Post ρ U hp w X Z a o m K r) Q := by
  unfold opEff at h
  simp only [ho] at h
  have hx := evalO_rep ht x
  have hy := evalO_rep ht y
  split at h
  · rename_i n off new q hv hl hq
    rw [hv] at hx
    split at h
    · rename_i ls hn hs hok
      split at h
      · rename_i hfit
        exact op_store_cell hE ho hH hx hy hl hok hq hn (Nat.eq_of_beq_eq_true hs) (Nat.le_of_ble_eq_true hfit) h
      · cases h
    · cases h
  · rename_i n i sz new q hv hl hq
    rw [hv] at hx
    split at h
    · rename_i te e l hn hok
      split at h
      · rename_i hs1 hs2 hs3
        obtain rfl := Nat.eq_of_beq_eq_true hs1
        refine op_store_row hE ho hH hx hy hl hok hn hq (Nat.eq_of_beq_eq_true hs2) (pos_of hs3) ?_
        simp only [look_app] at h
        exact h
      · cases h
    · cases h
  · cases h
end
end Go.AM

set_option linter.unusedVariables false
set_option linter.unusedSimpArgs false
namespace Go.AM

section
variable {P : Program} {E : Env} {C : CallT E} {R : Type} {ρ : Nat → Value} {U : Nat → Prop} {hp : List (Nat × Option AObj)} {w : World} {X Z : Nat → Prop}
  {tm : List (Nat × CV)} {a : Act} {o : Oper} {m : Nat} {K : CV → Ups → Option R} {r : R} {Q : Exit → Act → World → Prop}

theorem ok_make {t : TypeId} {x y : Operand} (hE : EnvOk P E) (ho : o.op = .makeSlice t x y) (hH : Hp Z ρ U (look none hp) w X) (hm : ¬ U m) (ht : TmOk ρ U w (Own ρ (look none hp) X) tm a) (h : opEff E C o tm hp m K = some r) :
    o.wp P a w (Post ρ U hp w X Z a o m K r) Q := by
  unfold opEff at h
  simp only [ho] at h
  have hx := evalO_rep ht x
  have hy := evalO_rep ht y
  split at h
  case h_2 => cases h
  rename_i e q k n k' c hk hq hv hv'
  rw [hv] at hx
  rw [hv'] at hy
  split at h
  case h_2 => cases h
  rename_i te hd
  split at h
  case h_2 => cases h
  rename_i qe hqe
  split at h
  case h_2 => cases h
  rename_i h1 h2 h3
  by_cases hnc : 0 ≤ n ∧ n ≤ c
  · rw [if_pos hnc] at h
    by_cases hby : c.toNat * qe.bytes ≤ 281474976710656
    · rw [if_pos hby] at h
      have hb := pos_of h3
      have : c.toNat ≤ 281474976710656 := Nat.le_trans (Nat.le_mul_of_pos_right _ hb) hby
      exact op_make hE ho hH hm hx hy hq hd hqe (pos_of h2) (Nat.eq_of_beq_eq_true h1) (fun w Y z i => hE.row t e q te hk hq hd w Y z i) hnc.1 hnc.2 hby (by omega) h
    · rw [if_neg hby] at h; cases h
  · rw [if_neg hnc] at h; cases h

theorem ok_len {c0 : Call} (hE : EnvOk P E) (ho : o.op = .call c0) (hc0 : c0.callee = .builtin .len)
    (hH : Hp Z ρ U (look none hp) w X) (ht : TmOk ρ U w (Own ρ (look none hp) X) tm a) (h : opEff E C o tm hp m K = some r) :
    o.wp P a w (Post ρ U hp w X Z a o m K r) Q := by
  unfold opEff at h
  simp only [ho, hc0] at h
  split at h
  case h_2 => cases h
  rename_i x t hargs hats
  have hx := evalO_rep ht x
  split at h
  case h_2 => cases h
  rename_i q hq
  split at h
  · rename_i s hd hv
    rw [hv] at hx
    exact op_len hE ho hc0 hargs hats hq (.inl hd) hH hx (fun _ => ⟨s, rfl⟩) (fun ⟨te, h'⟩ => by rw [hd] at h'; cases h') (by simpa only [lenCV] using h)
  · cases h
  · rename_i te hd hns
    exact op_len hE ho hc0 hargs hats hq (.inr ⟨te, hd⟩) hH hx (fun h' => by rw [hd] at h'; cases h') (fun _ s e => hns s e) h
  · cases h

theorem ok_indexAddr {t : TypeId} {x y : Operand} (hE : EnvOk P E) (ho : o.op = .indexAddr t x y) (hH : Hp Z ρ U (look none hp) w X) (ht : TmOk ρ U w (Own ρ (look none hp) X) tm a) (h : opEff E C o tm hp m K = some r) :
    o.wp P a w (Post ρ U hp w X Z a o m K r) Q := by
  unfold opEff at h
  simp only [ho] at h
  have hx := evalO_rep ht x
  have hy := evalO_rep ht y
  split at h
  case h_2 => cases h
  rename_i q hq
  split at h
  case h_3 => cases h
  case h_2 =>
    rename_i len te hd
    split at h
    case h_2 => cases h
    rename_i qe hqe
    split at h
    · rename_i n off k j _ hv hv'
      rw [hv] at hx
      rw [hv'] at hy
      split at h
      case h_2 => cases h
      rename_i hlt
      refine op_index_arr hE ho hH hy hq hd hqe (by simpa using hlt) ?_ h
      simp only [CRep, LRep] at hx ⊢
      obtain ⟨hu, b, hb, hval⟩ := hx
      exact ⟨b, off, hval, hu, b, hb, rfl⟩
    · rename_i κ y' k j _ hv hv'
      rw [hv] at hx
      rw [hv'] at hy
      split at h
      case h_2 => cases h
      rename_i κ' y'' hlt hs
      refine op_index_arr hE ho hH hy hq hd hqe (by simpa using hlt) ?_ h
      exact ref_part hs hx
    · cases h
  rename_i te hd
  split at h
  case h_2 => cases h
  rename_i qe hqe
  split at h
  · rename_i e l k i hv hv'
    rw [hv] at hx
    rw [hv'] at hy
    split at h
    case h_2 => cases h
    rename_i hs
    by_cases h0 : 0 ≤ i
    · rw [if_pos h0] at h
      by_cases h1 : i < (l.length : Int)
      · rw [if_pos h1] at h
        exact op_index_list hE ho hH (.inl rfl) hx hy hq hd hqe (Nat.eq_of_beq_eq_true hs) h0 h1 h
      · rw [if_neg h1] at h; cases h
    · rw [if_neg h0] at h; cases h
  · rename_i n k i hv hv'
    rw [hv] at hx
    rw [hv'] at hy
    split at h
    · rename_i te' e l hn
      split at h
      case h_2 => cases h
      rename_i hs
      by_cases h0 : 0 ≤ i
      · rw [if_pos h0] at h
        by_cases h1 : i < (l.length : Int)
        · rw [if_pos h1] at h
          exact op_index_row hE ho hH hx hn hy hq hd hqe (Nat.eq_of_beq_eq_true hs) h0 h1 h
        · rw [if_neg h1] at h; cases h
      · rw [if_neg h0] at h; cases h
    · rename_i e l hn
      split at h
      case h_2 => cases h
      rename_i hs
      by_cases h0 : 0 ≤ i
      · rw [if_pos h0] at h
        by_cases h1 : i < (l.length : Int)
        · rw [if_pos h1] at h
          exact op_index_list hE ho hH (.inr ⟨n, rfl, hn⟩) hx hy hq hd hqe (Nat.eq_of_beq_eq_true hs) h0 h1 h
        · rw [if_neg h1] at h; cases h
      · rw [if_neg h0] at h; cases h
    · cases h
  · cases h
end
end Go.AM

set_option linter.unusedVariables false
set_option linter.unusedSimpArgs false
namespace Go.AM

section
variable {P : Program} {E : Env} {C : CallT E} {R : Type} {ρ : Nat → Value} {U : Nat → Prop} {hp : List (Nat × Option AObj)} {w : World} {X Z : Nat → Prop}
  {tm : List (Nat × CV)} {a : Act} {o : Oper} {m : Nat} {K : CV → Ups → Option R} {r : R} {Q : Exit → Act → World → Prop}

theorem boundK_ok {Y : Nat → Prop} (ht : TmOk ρ U w Y tm a) {x : Option Operand} {n : Nat} {K : Int → Option R} (h : boundK tm x (n : Int) K = some r) :
    ∃ i, K i = some r ∧ (0 ≤ i → (x = none ∧ i.toNat = n) ∨ ∃ y k z, x = some y ∧ a.eval y = .int k z ∧ 0 ≤ z ∧ z.toNat = i.toNat) := by
  unfold boundK at h
  split at h
  · exact ⟨n, h, fun _ => .inl ⟨rfl, by simp⟩⟩
  · rename_i y
    split at h
    · rename_i k i hv
      have hy := evalO_rep ht y
      rw [hv] at hy
      exact ⟨i, h, fun h0 => .inr ⟨y, k, i, rfl, int_of hy, h0, rfl⟩⟩
    · cases h

theorem ok_slice {t : TypeId} {x : Operand} {lo hi mx : Option Operand} (hE : EnvOk P E) (ho : o.op = .slice t x lo hi mx) (hH : Hp Z ρ U (look none hp) w X) (hm : ¬ U m) (ht : TmOk ρ U w (Own ρ (look none hp) X) tm a)
    (h : opEff E C o tm hp m K = some r) : o.wp P a w (Post ρ U hp w X Z a o m K r) Q := by
  unfold opEff at h
  simp only [ho] at h
  have hx := evalO_rep ht x
  split at h
  case h_2 => cases h
  rename_i q hq
  split at h
  case h_3 => cases h
  case h_1 =>
    rename_i hd
    split at h
    case h_2 => cases h
    rename_i s hv
    rw [hv] at hx
    obtain ⟨i, hk, hi'⟩ := boundK_ok (n := 0) ht h
    obtain ⟨j, hk, hj'⟩ := boundK_ok ht hk
    by_cases hc : 0 ≤ i ∧ i ≤ j ∧ j ≤ (s.length : Int)
    · rw [if_pos hc] at hk
      exact op_slice_str hE ho hH hx hq hd (hi' hc.1) (hj' (by omega)) (by omega) (by omega) hk
    · rw [if_neg hc] at hk; cases hk
  rename_i te hd
  split at h
  case h_2 => cases h
  rename_i qe hqe
  have fin : ∀ {e : Kind} {l : List e.T} {u : Ups}, Nx ρ ρ U U (look none hp) (look none (u ++ hp)) w w → Hp Z ρ U (look none (u ++ hp)) w X →
      Rep w (Own ρ (look none (u ++ hp)) X) (.list e) l [a.eval x] → ∀ i j : Int, Nat.beq qe.size e.size = true →
      (0 ≤ i → (lo = none ∧ i.toNat = 0) ∨ ∃ y k z, lo = some y ∧ a.eval y = .int k z ∧ 0 ≤ z ∧ z.toNat = i.toNat) →
      (0 ≤ j → (hi = none ∧ j.toNat = l.length) ∨ ∃ y k z, hi = some y ∧ a.eval y = .int k z ∧ 0 ≤ z ∧ z.toNat = j.toNat) →
      (if 0 ≤ i ∧ i ≤ j ∧ j ≤ (l.length : Int) then K (.one (.of (.list e) ((l.take j.toNat).drop i.toNat))) u else none) = some r →
      o.wp P a w (Post ρ U hp w X Z a o m K r) Q := by
    intro e l u hnx hH' hrep i j hs hi' hj' hk
    by_cases hc : 0 ≤ i ∧ i ≤ j ∧ j ≤ (l.length : Int)
    · rw [if_pos hc] at hk
      obtain ⟨A, cap, hv, _⟩ := hrep.list_at
      exact op_slice hE ho hnx hH' hv hrep hq hd hqe (Nat.eq_of_beq_eq_true hs) (hi' hc.1) (hj' (by omega)) (by omega) (by omega) hk
    · rw [if_neg hc] at hk; cases hk
  split at h
  · rename_i e l hv
    rw [hv] at hx
    split at h
    case h_2 => cases h
    rename_i hs
    obtain ⟨i, hk, hi'⟩ := boundK_ok (n := 0) ht h
    obtain ⟨j, hk, hj'⟩ := boundK_ok ht hk
    exact fin (u := []) Nx.refl hH (of_one hx) i j hs hi' hj' hk
  · rename_i n hv
    rw [hv] at hx
    simp only [CRep, LRep] at hx
    split at h
    · rename_i te' e l hn
      have old : ∀ {q0 : Option R}, q0 = some r → q0 = (match Nat.beq qe.size e.size with
            | true => boundK tm lo 0 fun i => boundK tm hi (l.length : Int) fun j => if 0 ≤ i ∧ i ≤ j ∧ j ≤ (l.length : Int) then K (.one (.of (.list e) ((l.take j.toNat).drop i.toNat))) [(n, some (.shr e l))] else none
            | false => none) → o.wp P a w (Post ρ U hp w X Z a o m K r) Q := by
        intro q0 hq0 he
        rw [he] at hq0
        split at hq0
        case h_2 => cases hq0
        rename_i hs
        obtain ⟨i, hk, hi'⟩ := boundK_ok (n := 0) ht hq0
        obtain ⟨j, hk, hj'⟩ := boundK_ok ht hk
        obtain ⟨g1, g2⟩ := hH.share hn
        have hl : look none ([(n, some (AObj.shr e l))] ++ hp) = upd (look none hp) n (some (.shr e l)) := look_one _ _
        refine fin (u := [(n, some (.shr e l))]) (by rw [hl]; exact g1) (by rw [hl]; exact g2) ?_ i j hs hi' hj' hk
        rw [hl, hx.2]
        exact g2.objs n _ (upd_same _ _ _)
      split at h
      · rename_i d hdst
        split at h
        · split at h
          case h_2 => cases h
          rename_i hs
          obtain ⟨j, hk, hj'⟩ := boundK_ok ht h
          by_cases hc : 0 ≤ j ∧ j ≤ (l.length : Int)
          · rw [if_pos hc] at hk
            exact op_slice_keep hE ho hH hm (by simp only [CRep, LRep]; exact hx) hn hq hd hqe (Nat.eq_of_beq_eq_true hs) (hj' hc.1) (by omega) hk
          · rw [if_neg hc] at hk; cases hk
        · exact old h rfl
      · exact old h rfl
    · rename_i e l hn
      split at h
      case h_2 => cases h
      rename_i hs
      obtain ⟨i, hk, hi'⟩ := boundK_ok (n := 0) ht h
      obtain ⟨j, hk, hj'⟩ := boundK_ok ht hk
      refine fin (u := []) Nx.refl hH ?_ i j hs hi' hj' hk
      rw [hx.2]
      exact hH.objs n _ hn
    · cases h
  · cases h
end
end Go.AM

set_option linter.unusedVariables false
set_option linter.unusedSimpArgs false
namespace Go.AM

section
variable {P : Program} {E : Env} {C : CallT E} {R : Type} {ρ : Nat → Value} {U : Nat → Prop} {hp : List (Nat × Option AObj)} {w : World} {X Z : Nat → Prop}
  {tm : List (Nat × CV)} {a : Act} {o : Oper} {m : Nat} {K : CV → Ups → Option R} {r : R} {Q : Exit → Act → World → Prop}

theorem ok_pick {x y z : Operand} (ho : o.op = .pick x y z) (hH : Hp Z ρ U (look none hp) w X) (ht : TmOk ρ U w (Own ρ (look none hp) X) tm a) (h : opEff E C o tm hp m K = some r) :
    o.wp P a w (Post ρ U hp w X Z a o m K r) Q := by
  unfold opEff at h
  simp only [ho] at h
  have hx := evalO_rep ht x
  split at h
  case h_2 => cases h
  rename_i t hv
  rw [hv] at hx
  cases t
  · simp only [Bool.false_eq_true, if_false] at h
    exact stay hH h (evalO_rep ht z) (by simp [execOp, ho, bool_of hx, asBool])
  · simp only [if_true] at h
    exact stay hH h (evalO_rep ht y) (by simp [execOp, ho, bool_of hx, asBool])

theorem CPairs_map (ht : TmOk ρ U w (Own ρ (look none hp) X) tm a) : ∀ (ps : List (Nat × Operand)), CPairs ρ U w (Own ρ (look none hp) X) (ps.map fun p => (p.1, evalO tm p.2)) (ps.map fun p => (p.1, a.eval p.2))
  | [] => rfl
  | p :: ps => ⟨_, _, rfl, evalO_rep ht p.2, CPairs_map ht ps⟩

theorem CReps_map2 (ht : TmOk ρ U w (Own ρ (look none hp) X) tm a) : ∀ (ps : List (Nat × Operand)), CReps ρ U w (Own ρ (look none hp) X) (ps.map fun p => evalO tm p.2) (ps.map fun p => a.eval p.2)
  | [] => by simp [CReps]
  | p :: ps => by
    simp only [List.map_cons, CReps]
    exact ⟨_, _, rfl, evalO_rep ht p.2, CReps_map2 ht ps⟩

theorem ok_build {t : TypeId} {parts : Array (Nat × Operand)} (hE : EnvOk P E) (ho : o.op = .build t parts) (hH : Hp Z ρ U (look none hp) w X) (ht : TmOk ρ U w (Own ρ (look none hp) X) tm a) (h : opEff E C o tm hp m K = some r) :
    o.wp P a w (Post ρ U hp w X Z a o m K r) Q := by
  unfold opEff at h
  simp only [ho] at h
  split at h
  case h_2 => cases h
  rename_i q hq
  split at h
  · rename_i fs hd
    split at h
    case h_2 => cases h
    rename_i ls hb hf
    exact op_build hE ho hH hq (CPairs_map ht parts.toList) (.inl ⟨fs, hd, hb, rfl⟩) hf h
  · rename_i n te hd
    split at h
    case h_2 => cases h
    rename_i qe hqe
    split at h
    case h_2 => cases h
    rename_i ls hf
    exact op_build hE ho hH hq (CPairs_map ht parts.toList) (.inr ⟨n, te, qe, hd, hqe, rfl⟩) hf h
  · cases h

theorem ok_buildSlice {t : TypeId} {n : Nat} {parts : Array (Nat × Operand)} (hE : EnvOk P E) (ho : o.op = .buildSlice t n parts) (hH : Hp Z ρ U (look none hp) w X) (hm : ¬ U m) (ht : TmOk ρ U w (Own ρ (look none hp) X) tm a) (h : opEff E C o tm hp m K = some r) :
    o.wp P a w (Post ρ U hp w X Z a o m K r) Q := by
  unfold opEff at h
  simp only [ho] at h
  split at h
  case h_2 => cases h
  rename_i e q hk hq
  split at h
  case h_2 => cases h
  rename_i te hd
  split at h
  case h_2 => cases h
  rename_i qe hqe
  split at h
  case h_2 => cases h
  rename_i h1 h2 h3 h4 h5
  exact op_buildSlice hE ho hH hm (CReps_map2 ht parts.toList) hq hd hqe (Nat.eq_of_beq_eq_true h1) (Nat.eq_of_beq_eq_true h3) h4 (Nat.le_of_ble_eq_true h5) (pos_of h2) h

theorem ok_index {t : TypeId} {x y : Operand} (hE : EnvOk P E) (ho : o.op = .index t x y) (hH : Hp Z ρ U (look none hp) w X) (ht : TmOk ρ U w (Own ρ (look none hp) X) tm a) (h : opEff E C o tm hp m K = some r) :
    o.wp P a w (Post ρ U hp w X Z a o m K r) Q := by
  unfold opEff at h
  simp only [ho] at h
  have hx := evalO_rep ht x
  have hy := evalO_rep ht y
  split at h
  case h_2 => cases h
  rename_i q hq
  split at h
  case h_2 => cases h
  rename_i hd
  split at h
  case h_2 => cases h
  rename_i s k i hv hv'
  rw [hv] at hx
  rw [hv'] at hy
  by_cases h0 : 0 ≤ i
  · rw [if_pos h0] at h
    by_cases h1 : i < (s.length : Int)
    · rw [if_pos h1] at h
      exact op_index_str hE ho hH hq hd hx hy h0 h1 h
    · rw [if_neg h1] at h; cases h
  · rw [if_neg h0] at h; cases h

theorem ok_range {t : TypeId} {x : Operand} (hE : EnvOk P E) (ho : o.op = .range t x) (hH : Hp Z ρ U (look none hp) w X) (hm : ¬ U m) (ht : TmOk ρ U w (Own ρ (look none hp) X) tm a) (h : opEff E C o tm hp m K = some r) :
    o.wp P a w (Post ρ U hp w X Z a o m K r) Q := by
  unfold opEff at h
  simp only [ho] at h
  have hx := evalO_rep ht x
  split at h
  case h_2 => cases h
  rename_i s q hv hq
  rw [hv] at hx
  split at h
  case h_2 => cases h
  rename_i hd
  exact op_range hE ho hH hm hx hq hd h

theorem ok_next {x : Operand} {st : Bool} (ho : o.op = .next x st) (hH : Hp Z ρ U (look none hp) w X) (ht : TmOk ρ U w (Own ρ (look none hp) X) tm a) (h : opEff E C o tm hp m K = some r) :
    o.wp P a w (Post ρ U hp w X Z a o m K r) Q := by
  unfold opEff at h
  simp only [ho] at h
  have hx := evalO_rep ht x
  split at h
  case h_2 => cases h
  rename_i n hv
  rw [hv] at hx
  split at h
  case h_2 => cases h
  rename_i s pos hn
  exact op_next ho hH hx hn h

/-- ALL OPERATIONS -/
theorem op_ok (hE : EnvOk P E) (hC : CallsOk P E C) (hH : Hp Z ρ U (look none hp) w X) (hm : ∀ n, m ≤ n → ¬ U n) (ht : TmOk ρ U w (Own ρ (look none hp) X) tm a) (h : opEff E C o tm hp m K = some r) :
    o.wp P a w (Post ρ U hp w X Z a o m K r) Q := by
  have hm' := hm m (Nat.le_refl _)
  cases ho : o.op with
  | move x => exact ok_move (.inl ho) hH hm' ht h
  | assign x => exact ok_move (.inr ho) hH hm' ht h
  | pick c x y => exact ok_pick ho hH ht h
  | alloc t => exact ok_alloc hE ho hH hm' h
  | box t v => exact ok_box ho hH hm' ht h
  | build t ps => exact ok_build hE ho hH ht h
  | buildSlice t n ps => exact ok_buildSlice hE ho hH hm' ht h
  | load t x => exact ok_load hE ho hH ht h
  | store t x y => exact ok_store hE ho hH ht h
  | nilCheck x => exact ok_nilCheck ho hH ht h
  | binOp op t x y u => exact ok_binOp hE ho hH ht h
  | unOp op t x => exact ok_unOp ho hH ht h
  | convert s d x => exact ok_convert hE ho hH ht h
  | makeSlice t x y => exact ok_make hE ho hH hm' ht h
  | slice t x lo hi mx => exact ok_slice hE ho hH hm' ht h
  | fieldAddr t x f => exact ok_fieldAddr hE ho hH ht h
  | field t x f => exact ok_field hE ho hH ht h
  | indexAddr t x i => exact ok_indexAddr hE ho hH ht h
  | index t x i => exact ok_index hE ho hH ht h
  | range t x => exact ok_range hE ho hH hm' ht h
  | next x st => exact ok_next ho hH ht h
  | extract x i => exact ok_extract ho hH ht h
  | call c =>
    cases hc : c.callee with
    | value y => exact ok_call hE hC ho hc hH hm ht h
    | invoke x n => unfold opEff at h; simp only [ho, hc] at h; cases h
    | builtin b =>
      cases b with
      | len => exact ok_len hE ho hc hH ht h
      | append => exact ok_append hE ho hc hH hm' ht h
      | min =>
        unfold opEff at h; simp only [ho, hc] at h
        exact op_minMax false ho hc hH (CReps_map ht c.args.toList) h
      | max =>
        unfold opEff at h; simp only [ho, hc] at h
        exact op_minMax true ho hc hH (CReps_map ht c.args.toList) h
      | _ => unfold opEff at h; simp only [ho, hc] at h; cases h
  | _ => unfold opEff at h; simp only [ho] at h; cases h
end
end Go.AM

set_option linter.unusedVariables false
set_option linter.unusedSimpArgs false
namespace Go.AM

theorem size_put (a : Act) (d : Option Tmp) (v : Value) : (a.put d v).tmps.size = a.tmps.size := by cases d <;> simp [Act.put]

section
variable {ρ : Nat → Value} {U : Nat → Prop} {w : World} {Y : Nat → Prop} {tm : List (Nat × CV)} {a : Act}

theorem TmOk.later {ρ' : Nat → Value} {U' : Nat → Prop} {w' : World} {Y' : Nat → Prop} (h : Later ρ ρ' U U' w w' Y Y') (ht : TmOk ρ U w Y tm a) : TmOk ρ' U' w' Y' tm a :=
  fun t => CRep.later h (ht t)

theorem TmOk.put (ht : TmOk ρ U w Y tm a) {d : Nat} (hd : d < a.tmps.size) {c : CV} {v : Value} (hc : CRep ρ U w Y c v) : TmOk ρ U w Y ((d, c) :: tm) (a.put (some d) v) := by
  intro t
  rw [look_cons]
  by_cases e : t = d
  · subst e
    rw [upd_same]
    simpa [Act.put, hd] using hc
  · rw [upd_other _ _ e]
    have := ht t
    simp only [Act.put]
    rw [Array.getD_eq_getD_getElem?, Array.getElem?_setIfInBounds_ne (fun h => e h.symm), ← Array.getD_eq_getD_getElem?]
    exact this

theorem TmOk.put_none (ht : TmOk ρ U w Y tm a) (v : Value) : TmOk ρ U w Y tm (a.put none v) := ht
end
end Go.AM

set_option linter.unusedVariables false
set_option linter.unusedSimpArgs false
namespace Go.AM

section
variable {P : Program} {E : Env} {C : CallT E} {R : Type} {X Z : Nat → Prop} {Q : Exit → Act → World → Prop} {N : Nat}

/-- all operations are sound -/
def OpsOk (P : Program) (E : Env) (C : CallT E) : Prop :=
  ∀ (R : Type) (o : Oper) (tm : List (Nat × CV)) (hp : List (Nat × Option AObj)) (m : Nat) (K : CV → Ups → Option R) (r : R) (X Z : Nat → Prop) (ρ : Nat → Value) (U : Nat → Prop) (w : World) (a : Act)
    (Q : Exit → Act → World → Prop), Hp Z ρ U (look none hp) w X → (∀ n, m ≤ n → ¬ U n) → TmOk ρ U w (Own ρ (look none hp) X) tm a → opEff E C o tm hp m K = some r → o.wp P a w (Post ρ U hp w X Z a o m K r) Q

def RPost (N : Nat) (ρ : Nat → Value) (U : Nat → Prop) (hp : List (Nat × Option AObj)) (w : World) (X Z : Nat → Prop) (a : Act) (m : Nat)
    (K : List (Nat × CV) → List (Nat × Option AObj) → Option R) (r : R) (a' : Act) (w' : World) : Prop :=
  ∃ tm' hp' ρ' U', K tm' hp' = some r ∧ a'.tmps.size = N ∧ a'.defers = a.defers ∧ Nx ρ ρ' U U' (look none hp) (look none hp') w w' ∧ Hp Z ρ' U' (look none hp') w' X ∧
    TmOk ρ' U' w' (Own ρ' (look none hp') X) tm' a' ∧ ∀ n, U' n → U n ∨ (m ≤ n ∧ n < m + 16)

theorem opRun_ok (hop : OpsOk P E C) {ops : Array Oper} {o : Oper} {tm : List (Nat × CV)} {hp : List (Nat × Option AObj)} {m : Nat} {K : List (Nat × CV) → List (Nat × Option AObj) → Option R} {r : R}
    {ρ : Nat → Value} {U : Nat → Prop} {w : World} {a : Act} (h : opRun E C N ops o m tm hp K = some r) (hH : Hp Z ρ U (look none hp) w X) (hm : ∀ n, m ≤ n → ¬ U n) (ht : TmOk ρ U w (Own ρ (look none hp) X) tm a)
    (hN : a.tmps.size = N) (K' : Act → World → Prop) (hK : ∀ a' w', RPost N ρ U hp w X Z a m K r a' w' → K' a' w') :
    if Region.wanted o (yielded ops a.tmps) then o.wp P a w K' Q else K' (a.put o.dst undef) w := by
  have run : ∀ {q : Option R} {tm1 : List (Nat × CV)}, TmOk ρ U w (Own ρ (look none hp) X) tm1 a → q = some r → q = (opEff E C o tm1 hp m fun v u => match o.dst with
      | none => K tm1 (u ++ hp)
      | some d => match Nat.blt d N with
        | true => K ((d, v) :: tm1) (u ++ hp)
        | false => none) → o.wp P a w K' Q := by
    intro q tm1 ht hq he
    rw [he] at hq
    refine Oper.wp_mono (fun a' w' hp' => ?_) (hop R o tm1 hp m _ r X Z ρ U w a Q hH hm ht hq)
    obtain ⟨v, u, v', ρ', U', h1, rfl, h2, h3, h4, h5⟩ := hp'
    apply hK
    cases hd : o.dst with
    | none =>
      rw [hd] at h1
      exact ⟨_, _, ρ', U', h1, hN, rfl, h2, h3, (ht.later h2.later).put_none v', h5⟩
    | some d =>
      rw [hd] at h1
      simp only at h1
      split at h1
      · rename_i hlt
        have hlt' : d < a.tmps.size := by rw [hN]; simpa using hlt
        exact ⟨_, _, ρ', U', h1, by rw [size_put]; exact hN, rfl, h2, h3, (ht.later h2.later).put hlt' h4, h5⟩
      · cases h1
  have skip : ∀ {q : Option R} {tm1 : List (Nat × CV)}, TmOk ρ U w (Own ρ (look none hp) X) tm1 a → q = some r → q = (match o.dst with
      | none => K tm1 hp
      | some d => match Nat.blt d N with
        | true => K ((d, .one (.raw undef)) :: tm1) hp
        | false => none) → K' (a.put o.dst undef) w := by
    intro q tm1 ht hq he
    rw [he] at hq
    apply hK
    cases hd : o.dst with
    | none =>
      rw [hd] at hq
      exact ⟨_, _, ρ, U, hq, hN, rfl, Nx.refl, hH, ht.put_none undef, fun n hn => .inl hn⟩
    | some d =>
      rw [hd] at hq
      simp only at hq
      split at hq
      · rename_i hlt
        have hlt' : d < a.tmps.size := by rw [hN]; simpa using hlt
        exact ⟨_, _, ρ, U, hq, by rw [size_put]; exact hN, rfl, Nx.refl, hH, ht.put hlt' (by simp [CRep, LRep]), fun n hn => .inl hn⟩
      · cases hq
  have know : ∀ {t : Nat} {c : CV}, CRep ρ U w (Own ρ (look none hp) X) c (a.tmps.getD t undef) → TmOk ρ U w (Own ρ (look none hp) X) ((t, c) :: tm) a := by
    intro t c hc t'
    rw [look_cons]
    by_cases e : t' = t
    · subst e; rw [upd_same]; exact hc
    · rw [upd_other _ _ e]; exact ht t'
  unfold opRun at h
  simp only at h
  cases hg : o.guard with
  | none =>
    rw [hg] at h
    have : Region.wanted o (yielded ops a.tmps) = true := by simp [Region.wanted, hg]
    rw [if_pos this]
    exact run ht h rfl
  | some jw =>
    obtain ⟨j, want⟩ := jw
    rw [hg] at h
    simp only at h
    split at h
    · cases h
    · rename_i t hd
      have hy := ht t
      have hyield : ∀ v, a.tmps.getD t undef = v → yielded ops a.tmps j = (match v with | .bool b => some b | _ => none) := by
        intro v hv
        unfold yielded
        rw [hd]
        simp only [Option.bind_some]
        rw [Array.getD_eq_getD_getElem?] at hv
        cases hh : a.tmps[t]? with
        | none => rw [hh] at hv; simp only [Option.getD_none] at hv; subst hv; rfl
        | some u => rw [hh] at hv; simp only [Option.getD_some] at hv; subst hv; cases u <;> rfl
      split at h
      · rename_i b hv
        rw [hv] at hy
        have hb := hyield _ (bool_of hy)
        simp only at hb
        cases b <;> cases want
        · have : Region.wanted o (yielded ops a.tmps) = true := by simp [Region.wanted, hg, hb]
          rw [if_pos this]
          simp only [Bool.false_eq_true, if_false] at h
          exact run (know hy) h rfl
        · have : ¬ (Region.wanted o (yielded ops a.tmps) = true) := by simp [Region.wanted, hg, hb]
          rw [if_neg this]
          simp only [Bool.false_eq_true, if_false] at h
          exact skip (know hy) h rfl
        · have : ¬ (Region.wanted o (yielded ops a.tmps) = true) := by simp [Region.wanted, hg, hb]
          rw [if_neg this]
          simp only [if_true] at h
          exact skip (know hy) h rfl
        · have : Region.wanted o (yielded ops a.tmps) = true := by simp [Region.wanted, hg, hb]
          rw [if_pos this]
          simp only [if_true] at h
          exact run (know hy) h rfl
      · rename_i hv
        rw [hv] at hy
        simp only [CRep, LRep] at hy
        have hb := hyield _ hy
        simp only at hb
        have : ¬ (Region.wanted o (yielded ops a.tmps) = true) := by simp [Region.wanted, hg, hb]
        rw [if_neg this]
        exact skip ht h rfl
      · cases h
end
end Go.AM

set_option linter.unusedVariables false
set_option linter.unusedSimpArgs false
namespace Go.AM

section
variable {P : Program} {E : Env} {C : CallT E} {R : Type} {X Z : Nat → Prop} {Q : Exit → Act → World → Prop} {N : Nat}

def SPost (N : Nat) (ρ : Nat → Value) (U : Nat → Prop) (hp : List (Nat × Option AObj)) (w : World) (X Z : Nat → Prop) (a : Act)
    (K : List (Nat × CV) → List (Nat × Option AObj) → Nat → Option R) (r : R) (a' : Act) (w' : World) : Prop :=
  ∃ tm' hp' m' ρ' U', K tm' hp' m' = some r ∧ a'.tmps.size = N ∧ a'.defers = a.defers ∧ Nx ρ ρ' U U' (look none hp) (look none hp') w w' ∧ Hp Z ρ' U' (look none hp') w' X ∧
    TmOk ρ' U' w' (Own ρ' (look none hp') X) tm' a' ∧ ∀ n, U' n → n < m'

theorem opsRun_ok (hop : OpsOk P E C) {ops : Array Oper} {K : List (Nat × CV) → List (Nat × Option AObj) → Nat → Option R} {r : R} : ∀ (os : List Oper) {tm : List (Nat × CV)} {hp : List (Nat × Option AObj)} {m : Nat}
    {ρ : Nat → Value} {U : Nat → Prop} {w : World} {a : Act}, opsRun E C N ops os m tm hp K = some r → Hp Z ρ U (look none hp) w X → (∀ n, U n → n < m) → TmOk ρ U w (Own ρ (look none hp) X) tm a →
    a.tmps.size = N → (∀ a' w', SPost N ρ U hp w X Z a K r a' w' → Q .normal a' w') → wpList P ops Q os a w
  | [], tm, hp, m, ρ, U, w, a, h, hH, hU, ht, hN, hQ => hQ a w ⟨tm, hp, m, ρ, U, h, hN, rfl, Nx.refl, hH, ht, hU⟩
  | o :: os, tm, hp, m, ρ, U, w, a, h, hH, hU, ht, hN, hQ => by
    have h' : opRun E C N ops o m tm hp (fun tm' hp' => opsRun E C N ops os (m + 16) tm' hp' K) = some r := h
    have key := opRun_ok (P := P) (Q := Q) hop h' hH (fun n hn hu => absurd (hU n hu) (by omega)) ht hN (wpList P ops Q os) (fun a' w' hp' => by
      obtain ⟨tm', hp', ρ', U', h1, h2, h3, h4, h5, h6, h7⟩ := hp'
      refine opsRun_ok hop os h1 h5 (fun n hn => ?_) h6 h2 (fun a'' w'' hs => ?_)
      · rcases h7 n hn with h8 | h8
        · have := hU n h8; omega
        · omega
      · obtain ⟨tm2, hp2, m2, ρ2, U2, g1, g2, g3, g4, g5, g6, g7⟩ := hs
        exact hQ a'' w'' ⟨tm2, hp2, m2, ρ2, U2, g1, g2, g3.trans h3, h4.trans g4, g5, g6, g7⟩)
    unfold wpList
    split
    · rename_i hw; rw [if_pos hw] at key; exact .inl key
    · rename_i hw; rw [if_neg hw] at key; exact key
end
end Go.AM
