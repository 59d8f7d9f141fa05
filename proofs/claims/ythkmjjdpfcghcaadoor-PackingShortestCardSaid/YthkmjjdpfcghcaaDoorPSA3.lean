/- The abstract machine, part 3: its calls are the program's calls. Conditions: those of each lemma. -/
import Derived.Test.YthkmjjdpfcghcaaDoorPSA2
import Derived.LoopN
import Derived.KernelRfl
import Derived.Below
set_option linter.unusedVariables false
set_option linter.unusedSimpArgs false
namespace Go.AM

section
variable {R : Type} {r : R} {ob : Nat → Option AObj}

theorem shareLeaf_cps {κ : Kind} {l : LV} {K : κ.T → List (Nat × Option AObj) → Option R} (h : shareLeaf ob κ l K = some r) :
    ∃ x u, K x u = some r ∧ ∀ (R' : Type) (K' : κ.T → List (Nat × Option AObj) → Option R'), shareLeaf ob κ l K' = K' x u := by
  unfold shareLeaf at h
  split at h
  · split at h
    · rename_i hk _
      subst hk
      exact ⟨_, _, h, fun R' K' => by unfold shareLeaf; simp only [*]⟩
    · cases h
  · split at h
    · exact ⟨_, _, h, fun R' K' => rfl⟩
    · cases h
  · split at h
    · split at h
      · rename_i hn hk _
        subst hk
        refine ⟨_, _, h, fun R' K' => ?_⟩
        unfold shareLeaf
        simp only [*]
      · cases h
    · split at h
      · rename_i hn hk _
        subst hk
        refine ⟨_, _, h, fun R' K' => ?_⟩
        unfold shareLeaf
        simp only [*]
      · cases h
    · cases h
  · cases h

theorem share_cps : ∀ {κ : Kind} {ls : List LV} {K : κ.T → List LV → List (Nat × Option AObj) → Option R}, share ob κ ls K = some r →
    ∃ x ls' u, K x ls' u = some r ∧ ∀ (R' : Type) (K' : κ.T → List LV → List (Nat × Option AObj) → Option R'), share ob κ ls K' = K' x ls' u := by
  intro κ
  induction κ with
  | pair p q ihp ihq =>
    intro ls K h
    simp only [share] at h
    obtain ⟨x, ls1, u, h1, h2⟩ := ihp h
    obtain ⟨y, ls2, u', h3, h4⟩ := ihq h1
    exact ⟨(x, y), ls2, u' ++ u, h3, fun R' K' => by simp only [share, h2, h4]⟩
  | unit => intro ls K h; exact ⟨(), ls, [], h, fun R' K' => rfl⟩
  | own te e _ => intro ls K h; cases ls <;> simp [share] at h
  | cel e _ => intro ls K h; cases ls <;> simp [share] at h
  | ownc te e _ => intro ls K h; cases ls <;> simp [share] at h
  | _ =>
    intro ls K h
    cases ls with
    | nil => simp [share] at h
    | cons l ls =>
      obtain ⟨x, u, h1, h2⟩ := shareLeaf_cps (by simpa only [share] using h)
      exact ⟨x, ls, u, h1, fun R' K' => by simp only [share, h2]⟩

theorem shareO_cps : ∀ {κ : Kind} {ls : List LV} {K : κ.T → List LV → List (Nat × Option AObj) → List Nat → Option R}, shareO ob κ ls K = some r →
    ∃ x ls' u ns, K x ls' u ns = some r ∧ ∀ (R' : Type) (K' : κ.T → List LV → List (Nat × Option AObj) → List Nat → Option R'), shareO ob κ ls K' = K' x ls' u ns := by
  intro κ
  induction κ with
  | pair p q ihp ihq =>
    intro ls K h
    simp only [shareO] at h
    obtain ⟨x, ls1, u, ns, h1, h2⟩ := ihp h
    obtain ⟨y, ls2, u', ns', h3, h4⟩ := ihq h1
    exact ⟨(x, y), ls2, u' ++ u, ns ++ ns', h3, fun R' K' => by simp only [shareO, h2, h4]⟩
  | own te e _ =>
    intro ls K h
    cases ls with
    | nil => simp [shareO] at h
    | cons l ls =>
      simp only [shareO] at h
      split at h
      · split at h
        · split at h
          · rename_i hn hk h5 _
            subst hk
            refine ⟨_, _, _, _, h, fun R' K' => ?_⟩
            simp only [shareO, *]
          · cases h
        · cases h
      · exact ⟨[], ls, [], [], h, fun R' K' => rfl⟩
      · cases h
  | ownc te e _ => intro ls K h; cases ls <;> simp [shareO] at h
  | cel e _ =>
    intro ls K h
    cases ls with
    | nil => simp [shareO] at h
    | cons l ls =>
      simp only [shareO] at h
      split at h
      · split at h
        · rename_i ls' hn
          obtain ⟨y, rest, hrest, hlit, h4, h5⟩ := litK_ok h
          split at h4
          · refine ⟨_, _, _, _, h4, fun R' K' => ?_⟩
            simp only [shareO, hn, h5]
          · cases h4
        · cases h
      · exact ⟨none, ls, [], [], h, fun R' K' => rfl⟩
      · cases h
  | _ =>
    intro ls K h
    simp only [shareO] at h
    obtain ⟨x, ls1, u, h1, h2⟩ := share_cps h
    exact ⟨x, ls1, u, [], h1, fun R' K' => by simp only [shareO, h2]⟩

theorem shareCVO_cps {κ : Kind} {agg : Bool} {c : CV} {K : κ.T → List (Nat × Option AObj) → List Nat → Option R} (h : shareCVO ob κ agg c K = some r) :
    ∃ x u ns, K x u ns = some r ∧ ∀ (R' : Type) (K' : κ.T → List (Nat × Option AObj) → List Nat → Option R'), shareCVO ob κ agg c K' = K' x u ns := by
  unfold shareCVO at h
  split at h
  · obtain ⟨x, ls, u, ns, h1, h2⟩ := shareO_cps h
    split at h1
    · exact ⟨x, u, ns, h1, fun R' K' => by unfold shareCVO; simp only [h2]⟩
    · cases h1
  · obtain ⟨x, ls, u, ns, h1, h2⟩ := shareO_cps h
    split at h1
    · exact ⟨x, u, ns, h1, fun R' K' => by unfold shareCVO; simp only [h2]⟩
    · cases h1
  · cases h

theorem shareArgs_cps : ∀ {ps : List PM} {cs : List CV} {K : (argK ps).T → List Nat → List Nat → List (Nat × Option AObj) → Option R}, shareArgs ob ps cs K = some r →
    ∃ x cn ns u, K x cn ns u = some r ∧ ∀ (R' : Type) (K' : (argK ps).T → List Nat → List Nat → List (Nat × Option AObj) → Option R'), shareArgs ob ps cs K' = K' x cn ns u := by
  intro ps
  induction ps with
  | nil =>
    intro cs K h
    cases cs with
    | nil => exact ⟨(), [], [], [], h, fun R' K' => rfl⟩
    | cons c cs => simp [shareArgs] at h
  | cons p ps ih =>
    intro cs K h
    cases cs with
    | nil => cases p <;> simp [shareArgs] at h
    | cons c cs =>
      cases p with
      | val κ agg =>
        simp only [shareArgs] at h
        obtain ⟨x, u, ns, h1, h2⟩ := shareCVO_cps h
        obtain ⟨xs, cn, ns', u', h3, h4⟩ := ih h1
        exact ⟨(x, xs), cn, ns ++ ns', u' ++ u, h3, fun R' K' => by simp only [shareArgs, h2, h4]⟩
      | io κ =>
        have hform : ∃ n, c = .one (.ptr n 0) := by
          cases c with
          | one l =>
            cases l with
            | ptr n off =>
              cases off with
              | zero => exact ⟨n, rfl⟩
              | succ k => simp [shareArgs] at h
            | _ => simp [shareArgs] at h
          | _ => simp [shareArgs] at h
        obtain ⟨n, rfl⟩ := hform
        simp only [shareArgs] at h
        split at h
        · rename_i ls hn
          obtain ⟨x, ls', u, ns, h1, h2⟩ := shareO_cps h
          split at h1
          · obtain ⟨xs, cn, ns', u', h3, h4⟩ := ih h1
            exact ⟨(x, xs), n :: cn, ns ++ ns', u' ++ u, h3, fun R' K' => by simp only [shareArgs, hn, h2, h4]⟩
          · cases h1
        · cases h

theorem explodeO_cps : ∀ {κ : Kind} {x : κ.T} {m : Nat} {K : List LV → List (Nat × Option AObj) → Nat → Option R}, explodeO κ x m K = some r →
    ∃ ls u m', K ls u m' = some r ∧ ∀ (R' : Type) (K' : List LV → List (Nat × Option AObj) → Nat → Option R'), explodeO κ x m K' = K' ls u m' := by
  intro κ
  induction κ with
  | pair p q ihp ihq =>
    intro x m K h
    simp only [explodeO] at h
    obtain ⟨ls, u, m1, h1, h2⟩ := ihp h
    obtain ⟨ls', u', m2, h3, h4⟩ := ihq h1
    exact ⟨_, _, _, h3, fun R' K' => by simp only [explodeO, h2, h4]⟩
  | ownc te e _ =>
    intro x m K h
    cases x with
    | nil => exact ⟨_, _, _, h, fun R' K' => rfl⟩
    | cons y l => exact ⟨_, _, _, h, fun R' K' => rfl⟩
  | cel e _ =>
    intro x m K h
    cases x with
    | none => exact ⟨_, _, _, h, fun R' K' => rfl⟩
    | some y => exact ⟨_, _, _, h, fun R' K' => rfl⟩
  | _ => intro x m K h; exact ⟨_, _, _, h, fun R' K' => rfl⟩

theorem outCells_cps : ∀ {ps : List PM} {x : (outK ps).T} {cn : List Nat} {m : Nat} {K : List (Nat × Option AObj) → Nat → Option R}, outCells ps x cn m K = some r →
    ∃ u m', K u m' = some r ∧ ∀ (R' : Type) (K' : List (Nat × Option AObj) → Nat → Option R'), outCells ps x cn m K' = K' u m' := by
  intro ps
  induction ps with
  | nil => intro x cn m K h; exact ⟨_, _, h, fun R' K' => rfl⟩
  | cons p ps ih =>
    intro x cn m K h
    cases p with
    | val κ agg => exact ih (x := x) h
    | io κ =>
      cases cn with
      | nil => simp [outCells] at h
      | cons n cn =>
        simp only [outCells] at h
        obtain ⟨ls, u, m1, h1, h2⟩ := explodeO_cps h
        obtain ⟨u', m2, h3, h4⟩ := ih h1
        exact ⟨_, _, h3, fun R' K' => by simp only [outCells, h2, h4]⟩

theorem resCVs_cps : ∀ {rs : List (Kind × Bool)} {x : (resK rs).T} {m : Nat} {K : List CV → List (Nat × Option AObj) → Nat → Option R}, resCVs rs x m K = some r →
    ∃ cs u m', K cs u m' = some r ∧ ∀ (R' : Type) (K' : List CV → List (Nat × Option AObj) → Nat → Option R'), resCVs rs x m K' = K' cs u m' := by
  intro rs
  induction rs with
  | nil => intro x m K h; exact ⟨_, _, _, h, fun R' K' => rfl⟩
  | cons p rs ih =>
    intro x m K h
    simp only [resCVs] at h
    obtain ⟨ls, u, m1, h1, h2⟩ := explodeO_cps h
    split at h1
    · rename_i c hc
      obtain ⟨cs, u', m2, h3, h4⟩ := ih h1
      exact ⟨_, _, _, h3, fun R' K' => by simp only [resCVs, h2, hc, h4]⟩
    · cases h1

theorem shareAll_cps {e : Kind} : ∀ {cs : List CV} {K : List e.T → List (Nat × Option AObj) → Option R}, shareAll ob e cs K = some r →
    ∃ xs u, K xs u = some r ∧ ∀ (R' : Type) (K' : List e.T → List (Nat × Option AObj) → Option R'), shareAll ob e cs K' = K' xs u
  | [], K, h => ⟨[], [], h, fun R' K' => rfl⟩
  | c :: cs, K, h => by
    simp only [shareAll] at h
    split at h
    case h_2 => cases h
    rename_i ls hl
    split at h
    case h_2 => cases h
    rename_i hok
    obtain ⟨x, ls', u, h1, h2⟩ := share_cps h
    split at h1
    case h_2 => cases h1
    obtain ⟨xs, u', h3, h4⟩ := shareAll_cps h1
    exact ⟨_, _, h3, fun R' K' => by simp only [shareAll, hl, hok, h2, h4]⟩

theorem boundK_cps {tm : List (Nat × CV)} {x : Option Operand} {d : Int} {K : Int → Option R} (h : boundK tm x d K = some r) :
    ∃ i, K i = some r ∧ ∀ (R' : Type) (K' : Int → Option R'), boundK tm x d K' = K' i := by
  unfold boundK at h
  split at h
  · exact ⟨_, h, fun R' K' => rfl⟩
  · split at h
    · exact ⟨_, h, fun R' K' => by unfold boundK; simp only [*]⟩
    · cases h

theorem minMax_cps {mx : Bool} {cs : List CV} {K : CV → Option R} (h : minMax mx cs K = some r) :
    ∃ c, K c = some r ∧ ∀ (R' : Type) (K' : CV → Option R'), minMax mx cs K' = K' c := by
  unfold minMax at h
  split at h
  · split at h
    · cases mx
      · exact ⟨_, h, fun R' K' => by unfold minMax; simp only [*]⟩
      · exact ⟨_, h, fun R' K' => by unfold minMax; simp only [*]⟩
    · cases h
  · split at h
    · cases mx
      · exact ⟨_, h, fun R' K' => by unfold minMax; simp only [*]⟩
      · exact ⟨_, h, fun R' K' => by unfold minMax; simp only [*]⟩
    · cases h
  · cases h

theorem intOp_cps {op : BinOp} {k : IntKind} {a b : Int} {c : Bool} {K : LV → Option R} (h : intOp op k a b c K = some r) :
    ∃ l, K l = some r ∧ ∀ (R' : Type) (K' : LV → Option R'), intOp op k a b c K' = K' l := by
  unfold intOp at h
  repeat' split at h
  all_goals first
    | (cases h; done)
    | (refine ⟨_, h, fun R' K' => ?_⟩; unfold intOp; simp only [*]; done)
    | (refine ⟨_, h, fun R' K' => ?_⟩; unfold intOp; simp [*]; done)

theorem shiftOp_cps {op : BinOp} {k : IntKind} {a b : Int} {c : Bool} {K : LV → Option R} (h : shiftOp op k a b c K = some r) :
    ∃ l, K l = some r ∧ ∀ (R' : Type) (K' : LV → Option R'), shiftOp op k a b c K' = K' l := by
  unfold shiftOp at h
  simp only at h
  repeat' split at h
  all_goals first
    | (cases h; done)
    | (refine ⟨_, h, fun R' K' => ?_⟩; unfold shiftOp; simp only [*]; done)
    | (refine ⟨_, h, fun R' K' => ?_⟩; unfold shiftOp; simp [*]; done)

theorem binCV_cps {op : BinOp} {x y : CV} {c : Bool} {K : CV → Option R} (hx : ∀ ls ls', ¬ (x = .agg ls ∧ y = .agg ls')) (h : binCV op x y c K = some r) :
    ∃ l, K l = some r ∧ ∀ (R' : Type) (K' : CV → Option R'), binCV op x y c K' = K' l := by
  unfold binCV at h
  split at h
  · split at h
    · obtain ⟨l, h1, h2⟩ := shiftOp_cps h
      exact ⟨_, h1, fun R' K' => by unfold binCV; simp only [h2]⟩
    · obtain ⟨l, h1, h2⟩ := shiftOp_cps h
      exact ⟨_, h1, fun R' K' => by unfold binCV; simp only [h2]⟩
    · split at h
      · rename_i hkk heq
        subst hkk
        obtain ⟨l, h1, h2⟩ := intOp_cps h
        exact ⟨_, h1, fun R' K' => by unfold binCV; simp only [heq, h2]⟩
      · cases h
  · split at h
    · exact ⟨_, h, fun R' K' => by unfold binCV; simp only [*]⟩
    · exact ⟨_, h, fun R' K' => by unfold binCV; simp only [*]⟩
    · cases h
  · exact absurd ⟨rfl, rfl⟩ (hx _ _)
  · cases h

theorem unCV_cps {op : UnOp} {x : CV} {K : CV → Option R} (h : unCV op x K = some r) : ∃ l, K l = some r ∧ ∀ (R' : Type) (K' : CV → Option R'), unCV op x K' = K' l := by
  unfold unCV at h
  split at h
  all_goals first
    | (cases h; done)
    | exact ⟨_, h, fun R' K' => rfl⟩

theorem strOp_cps {op : BinOp} {a b : List UInt8} {K : CV → Option R} (h : strOp op a b K = some r) : ∃ l, K l = some r ∧ ∀ (R' : Type) (K' : CV → Option R'), strOp op a b K' = K' l := by
  unfold strOp at h
  repeat' split at h
  all_goals first
    | (cases h; done)
    | (refine ⟨_, h, fun R' K' => ?_⟩; unfold strOp; simp only [*]; done)
    | (refine ⟨_, h, fun R' K' => ?_⟩; unfold strOp; simp [*]; done)

theorem eqRes_cps {op : BinOp} {b : Bool} {K : CV → Option R} (h : eqRes op b K = some r) : ∃ l, K l = some r ∧ ∀ (R' : Type) (K' : CV → Option R'), eqRes op b K' = K' l := by
  unfold eqRes at h
  split at h
  all_goals first
    | (cases h; done)
    | exact ⟨_, h, fun R' K' => rfl⟩

theorem lenCV_cps {x : CV} {K : CV → Option R} (h : lenCV ob x K = some r) : ∃ l, K l = some r ∧ ∀ (R' : Type) (K' : CV → Option R'), lenCV ob x K' = K' l := by
  unfold lenCV at h
  repeat' split at h
  all_goals first
    | (cases h; done)
    | (refine ⟨_, h, fun R' K' => ?_⟩; unfold lenCV; simp only [*]; done)

theorem effConv_cps {E : Env} {s d : TypeId} {v : CV} {K : CV → Ups → Option R} (h : effConv E ob s d v K = some r) :
    ∃ c u, K c u = some r ∧ ∀ (R' : Type) (K' : CV → Ups → Option R'), effConv E ob s d v K' = K' c u := by
  unfold effConv at h
  repeat' split at h
  all_goals first
    | (cases h; done)
    | (refine ⟨_, _, h, fun R' K' => ?_⟩; unfold effConv; simp only [*]; done)
    | (refine ⟨_, _, h, fun R' K' => ?_⟩; unfold effConv; simp [*]; done)
end

section
variable {E : Env} {C : CallT E} {o : Oper} {tm : List (Nat × CV)} {hp : List (Nat × Option AObj)} {m : Nat} {R : Type} {K : CV → Ups → Option R} {r : R}

/-- what an operation does, whatever goes on -/
def Does (E : Env) (C : CallT E) (o : Oper) (tm : List (Nat × CV)) (hp : List (Nat × Option AObj)) (m : Nat) (v : CV) (u : Ups) : Prop :=
  ∀ (R' : Type) (K' : CV → Ups → Option R'), opEff E C o tm hp m K' = K' v u

set_option maxHeartbeats 4000000 in
theorem does_simple (hop : (match o.op with | .move _ | .assign _ | .pick .. | .alloc _ | .box .. | .build .. | .load .. | .nilCheck _ | .range .. | .next .. | .fieldAddr .. | .field .. | .index .. | .extract .. | .indexAddr .. | .makeSlice .. => true | _ => false) = true)
    (h : opEff E C o tm hp m K = some r) : ∃ v u, K v u = some r ∧ Does E C o tm hp m v u := by
  unfold Does
  cases ho : o.op <;> simp only [ho] at hop <;> (try (exact absurd hop (by decide)))
  all_goals
    unfold opEff at h ⊢
    simp only [ho] at h ⊢
    repeat' split at h
    all_goals first
      | (cases h; done)
      | (refine ⟨_, _, h, fun R' K' => ?_⟩; simp only [*]; done)
      | (refine ⟨_, _, h, fun R' K' => ?_⟩; simp [*]; done)

theorem does_store {t : TypeId} {x y : Operand} (ho : o.op = .store t x y) (h : opEff E C o tm hp m K = some r) : ∃ v u, K v u = some r ∧ Does E C o tm hp m v u := by
  unfold Does
  unfold opEff at h ⊢
  simp only [ho] at h ⊢
  split at h
  · repeat' split at h
    all_goals first
      | (cases h; done)
      | (refine ⟨_, _, h, fun R' K' => ?_⟩; simp only [*]; done)
  · split at h
    · split at h
      · obtain ⟨x', ls', u, h1, h2⟩ := share_cps h
        split at h1
        · split at h1
          · refine ⟨_, _, h1, fun R' K' => ?_⟩
            simp only [*]
          · cases h1
        · cases h1
      · cases h
    · cases h
  · cases h

theorem does_binOp {op : BinOp} {t u : TypeId} {x y : Operand} (ho : o.op = .binOp op t x y u) (h : opEff E C o tm hp m K = some r) : ∃ v u, K v u = some r ∧ Does E C o tm hp m v u := by
  unfold Does
  unfold opEff at h ⊢
  simp only [ho] at h ⊢
  split at h
  · obtain ⟨l, h1, h2⟩ := binCV_cps (by rintro ls ls' ⟨e, _⟩; cases e) h
    exact ⟨_, _, h1, fun R' K' => by simp only [*]⟩
  · split at h
    case h_2 => cases h
    split at h
    case h_2 => cases h
    obtain ⟨l, h1, h2⟩ := binCV_cps (by rintro ls ls' ⟨e, _⟩; cases e) h
    exact ⟨_, _, h1, fun R' K' => by simp only [*]⟩
  · obtain ⟨l, h1, h2⟩ := strOp_cps h
    exact ⟨_, _, h1, fun R' K' => by simp only [*]⟩
  · split at h
    case h_2 => cases h
    split at h
    case h_2 => cases h
    split at h
    case h_2 => cases h
    obtain ⟨l, h1, h2⟩ := eqRes_cps h
    exact ⟨_, _, h1, fun R' K' => by simp only [*]⟩
  · cases h

theorem does_buildSlice {t : TypeId} {n : Nat} {parts : Array (Nat × Operand)} (ho : o.op = .buildSlice t n parts) (h : opEff E C o tm hp m K = some r) : ∃ v u, K v u = some r ∧ Does E C o tm hp m v u := by
  unfold Does
  unfold opEff at h ⊢
  simp only [ho] at h ⊢
  split at h
  case h_2 => cases h
  split at h
  case h_2 => cases h
  split at h
  case h_2 => cases h
  split at h
  case h_2 => cases h
  obtain ⟨xs, u, h1, h2⟩ := shareAll_cps h
  exact ⟨_, _, h1, fun R' K' => by simp only [*]⟩

theorem does_slice {t : TypeId} {x : Operand} {lo hi mx : Option Operand} (ho : o.op = .slice t x lo hi mx) (h : opEff E C o tm hp m K = some r) : ∃ v u, K v u = some r ∧ Does E C o tm hp m v u := by
  unfold Does
  unfold opEff at h ⊢
  simp only [ho] at h ⊢
  split at h
  case h_2 => cases h
  split at h
  case h_3 => cases h
  · split at h
    case h_2 => cases h
    obtain ⟨i, h1, h2⟩ := boundK_cps h
    obtain ⟨j, h3, h4⟩ := boundK_cps h1
    split at h3
    · exact ⟨_, _, h3, fun R' K' => by simp only [*, and_self, if_true]⟩
    · cases h3
  · split at h
    case h_2 => cases h
    have cut : ∀ {κ : Kind} {l : List κ.T} {u : Ups} {qe : TR} {q0 : Option R}, q0 = some r → q0 = (match Nat.beq qe.size κ.size with
            | true => boundK tm lo 0 fun i => boundK tm hi (l.length : Int) fun j => if 0 ≤ i ∧ i ≤ j ∧ j ≤ (l.length : Int) then K (.one (.of (.list κ) ((l.take j.toNat).drop i.toNat))) u else none
            | false => none) → ∃ v u', K v u' = some r ∧ ∀ (R' : Type) (K' : CV → Ups → Option R'), (match Nat.beq qe.size κ.size with
            | true => boundK tm lo 0 fun i => boundK tm hi (l.length : Int) fun j => if 0 ≤ i ∧ i ≤ j ∧ j ≤ (l.length : Int) then K' (.one (.of (.list κ) ((l.take j.toNat).drop i.toNat))) u else none
            | false => none) = K' v u' := by
      intro κ l u qe q0 hq he
      rw [he] at hq
      split at hq
      case h_2 => cases hq
      obtain ⟨i, h1, h2⟩ := boundK_cps hq
      obtain ⟨j, h3, h4⟩ := boundK_cps h1
      split at h3
      · exact ⟨_, _, h3, fun R' K' => by simp only [*, and_self, if_true]⟩
      · cases h3
    split at h
    · obtain ⟨v, u, h1, h2⟩ := cut h rfl
      exact ⟨v, u, h1, fun R' K' => by first | exact h2 R' K' | (simp only [*]; done) | (have := h2 R' K'; simp only [*] at this ⊢; exact this)⟩
    · split at h
      · split at h
        · split at h
          · split at h
            case h_2 => cases h
            obtain ⟨j, h3, h4⟩ := boundK_cps h
            split at h3
            · exact ⟨_, _, h3, fun R' K' => by simp only [*, and_self, if_true]⟩
            · cases h3
          · obtain ⟨v, u, h1, h2⟩ := cut h rfl
            exact ⟨v, u, h1, fun R' K' => by first | exact h2 R' K' | (simp only [*]; done)⟩
        · obtain ⟨v, u, h1, h2⟩ := cut h rfl
          exact ⟨v, u, h1, fun R' K' => by first | exact h2 R' K' | (simp only [*]; done)⟩
      · obtain ⟨v, u, h1, h2⟩ := cut h rfl
        exact ⟨v, u, h1, fun R' K' => by first | exact h2 R' K' | (simp only [*]; done)⟩
      · cases h
    · cases h

theorem does_call {c : Call} (ho : o.op = .call c) (h : opEff E C o tm hp m K = some r) : ∃ v u, K v u = some r ∧ Does E C o tm hp m v u := by
  unfold Does
  unfold opEff at h ⊢
  simp only [ho] at h ⊢
  split at h
  · repeat' split at h
    all_goals first
      | (cases h; done)
      | (refine ⟨_, _, h, fun R' K' => ?_⟩; simp only [*]; done)
      | (obtain ⟨l, h1, h2⟩ := lenCV_cps h; refine ⟨_, _, h1, fun R' K' => ?_⟩; simp only [*]; done)
  · repeat' split at h
    all_goals first
      | (cases h; done)
      | (refine ⟨_, _, h, fun R' K' => ?_⟩; simp only [*, if_true]; done)
  · obtain ⟨l, h1, h2⟩ := minMax_cps h
    exact ⟨_, _, h1, fun R' K' => by simp only [*]⟩
  · obtain ⟨l, h1, h2⟩ := minMax_cps h
    exact ⟨_, _, h1, fun R' K' => by simp only [*]⟩
  · split at h
    case h_2 => cases h
    split at h
    case h_2 => cases h
    obtain ⟨x, cn, ns, u, h1, h2⟩ := shareArgs_cps h
    split at h1
    case h_2 => cases h1
    obtain ⟨r', hr', h3⟩ := Option.bind_eq_some_iff.1 h1
    obtain ⟨cs, u1, m1, h4, h5⟩ := resCVs_cps h3
    obtain ⟨u2, m2, h6, h7⟩ := outCells_cps h4
    split at h6
    case h_2 => cases h6
    exact ⟨_, _, h6, fun R' K' => by simp only [*, Option.bind_some]⟩
  · cases h

/-- ALL OPERATIONS -/
theorem opEff_does (h : opEff E C o tm hp m K = some r) : ∃ v u, K v u = some r ∧ Does E C o tm hp m v u := by
  cases ho : o.op with
  | move x => exact does_simple (by simp [ho]) h
  | assign x => exact does_simple (by simp [ho]) h
  | pick c x y => exact does_simple (by simp [ho]) h
  | alloc t => exact does_simple (by simp [ho]) h
  | box t v => exact does_simple (by simp [ho]) h
  | build t ps => exact does_simple (by simp [ho]) h
  | load t x => exact does_simple (by simp [ho]) h
  | nilCheck x => exact does_simple (by simp [ho]) h
  | range t x => exact does_simple (by simp [ho]) h
  | next x st => exact does_simple (by simp [ho]) h
  | fieldAddr t x f => exact does_simple (by simp [ho]) h
  | field t x f => exact does_simple (by simp [ho]) h
  | index t x i => exact does_simple (by simp [ho]) h
  | extract x i => exact does_simple (by simp [ho]) h
  | indexAddr t x i => exact does_simple (by simp [ho]) h
  | makeSlice t x y => exact does_simple (by simp [ho]) h
  | store t x y => exact does_store ho h
  | binOp op t x y u => exact does_binOp ho h
  | buildSlice t n ps => exact does_buildSlice ho h
  | slice t x lo hi mx => exact does_slice ho h
  | call c => exact does_call ho h
  | unOp op t x =>
    unfold Does
    unfold opEff at h ⊢
    simp only [ho] at h ⊢
    obtain ⟨l, h1, h2⟩ := unCV_cps h
    exact ⟨_, _, h1, fun R' K' => by simp only [*]⟩
  | convert s d x =>
    unfold Does
    unfold opEff at h ⊢
    simp only [ho] at h ⊢
    obtain ⟨c, u, h1, h2⟩ := effConv_cps h
    exact ⟨_, _, h1, fun R' K' => by simp only [*]⟩
  | _ => unfold opEff at h; simp only [ho] at h; cases h
end
end Go.AM

set_option linter.unusedVariables false
set_option linter.unusedSimpArgs false
namespace Go.AM
noncomputable section

/-! ### operations on a part of the state -/

theorem look_restT (T : List Nat) (tmF : Nat → CV) (t : Nat) : look .undef (restT T tmF) t = if t ∈ T then tmF t else .undef := by
  induction T with
  | nil => rfl
  | cons k T ih =>
    rw [restT, List.map_cons, look_cons]
    by_cases e : t = k
    · subst e; rw [upd_same]; simp
    · rw [upd_other _ _ e]
      rw [show List.map (fun t => (t, tmF t)) T = restT T tmF from rfl, ih]
      simp [e]

theorem look_restH (T : List Nat) (hpF : Nat → Option AObj) (t : Nat) : look none (restH T hpF) t = if t ∈ T then hpF t else none := by
  induction T with
  | nil => rfl
  | cons k T ih =>
    rw [restH, List.map_cons, look_cons]
    by_cases e : t = k
    · subst e; rw [upd_same]; simp
    · rw [upd_other _ _ e]
      rw [show List.map (fun n => (n, hpF n)) T = restH T hpF from rfl, ih]
      simp [e]

section
variable {ρ : Nat → Value} {U : Nat → Prop} {w : World} {Y : Nat → Prop} {m : Nat}

theorem LRep.lt {l : LV} {v : Value} (h : LRep ρ U w Y l v) (hl : ltL m l = true) : LRep ρ (fun n => U n ∧ n < m) w Y l v := by
  cases l with
  | ptr n off => obtain ⟨h1, h2⟩ := h; exact ⟨⟨h1, by simpa [ltL] using hl⟩, h2⟩
  | view n => obtain ⟨h1, h2⟩ := h; exact ⟨⟨h1, by simpa [ltL] using hl⟩, h2⟩
  | rptr n i s => obtain ⟨h1, h2⟩ := h; exact ⟨⟨h1, by simpa [ltL] using hl⟩, h2⟩
  | _ => exact h

theorem LReps.lt : ∀ {ls : List LV} {vs : List Value}, LReps ρ U w Y ls vs → ltLs m ls = true → LReps ρ (fun n => U n ∧ n < m) w Y ls vs
  | [], _, h, _ => h
  | l :: ls, vs, h, hl => by
    obtain ⟨v, vs', h1, h2, h3⟩ := h
    simp only [ltLs] at hl
    split at hl
    · rename_i h4; exact ⟨v, vs', h1, h2.lt h4, h3.lt hl⟩
    · cases hl

theorem CRep.lt1 {c : CV} {v : Value} (h : CRep ρ U w Y c v) (hl : ltC1 m c = true) : CRep ρ (fun n => U n ∧ n < m) w Y c v := by
  cases c with
  | one l => simp only [CRep] at h ⊢; exact h.lt hl
  | agg ls => simp only [CRep] at h ⊢; obtain ⟨vs, h1, h2⟩ := h; exact ⟨vs, h1, h2.lt hl⟩
  | tup cs => cases hl
  | undef => simp [CRep]

theorem CReps.lt : ∀ {cs : List CV} {vs : List Value}, CReps ρ U w Y cs vs → ltCs m cs = true → CReps ρ (fun n => U n ∧ n < m) w Y cs vs
  | [], _, h, _ => by simpa [CReps] using h
  | c :: cs, vs, h, hl => by
    simp only [CReps] at h ⊢
    obtain ⟨v, vs', h1, h2, h3⟩ := h
    simp only [ltCs] at hl
    split at hl
    · rename_i h4; exact ⟨v, vs', h1, h2.lt1 h4, CReps.lt h3 hl⟩
    · cases hl

theorem CRep.lt {c : CV} {v : Value} (h : CRep ρ U w Y c v) (hl : ltC m c = true) : CRep ρ (fun n => U n ∧ n < m) w Y c v := by
  cases c with
  | tup cs => simp only [CRep] at h ⊢; obtain ⟨vs, h1, h2⟩ := h; exact ⟨vs, h1, h2.lt hl⟩
  | _ => exact h.lt1 hl

theorem ltT_mem {tmF : Nat → CV} : ∀ {T : List Nat}, ltT m tmF T = true → ∀ t ∈ T, ltC m (tmF t) = true
  | [], _, t, ht => by cases ht
  | k :: T, h, t, ht => by
    simp only [ltT] at h
    split at h
    · rename_i h1
      rcases List.mem_cons.1 ht with rfl | ht
      · exact h1
      · exact ltT_mem h t ht
    · cases h

theorem ltH_mem {hpF : Nat → Option AObj} : ∀ {N : List Nat}, ltH m hpF N = true → ∀ n ∈ N, n < m ∧ ltO m (hpF n) = true
  | [], _, n, hn => by cases hn
  | k :: N, h, n, hn => by
    simp only [ltH] at h
    split at h
    · rename_i h1 h2
      rcases List.mem_cons.1 hn with rfl | hn
      · exact ⟨by simpa using h1, h2⟩
      · exact ltH_mem h n hn
    · cases h
end

section
variable {P : Program} {E : Env} {C : CallT E} {R : Type} {Z : Nat → Prop} {Q : Exit → Act → World → Prop}

def TmF (ρ : Nat → Value) (U : Nat → Prop) (w : World) (Y : Nat → Prop) (tmF : Nat → CV) (a : Act) : Prop :=
  ∀ t, CRep ρ U w Y (tmF t) (a.tmps.getD t undef)

/-- an operation runs on the part of the state that it looks at; the rest stays -/
theorem frame_ok (hop : OpsOk P E C) {o : Oper} {T N : List Nat} {tmF : Nat → CV} {hpF : Nat → Option AObj} {m : Nat} {v : CV} {u : Ups} {ρ : Nat → Value} {U : Nat → Prop} {w : World} {X : Nat → Prop} {a : Act}
    (hd : Does E C o (restT T tmF) (restH N hpF) m v u) (hlt : ltT m tmF T = true) (hlh : ltH m hpF N = true) (hH : Hp Z ρ U hpF w X) (hm : ∀ n, m ≤ n → n < m + 16 → ¬ U n)
    (ht : TmF ρ U w (Own ρ hpF X) tmF a) (K' : Act → World → Prop)
    (hK : ∀ v' ρ' U' w', Nx ρ ρ' U U' hpF (applyU u hpF) w w' → Hp Z ρ' U' (applyU u hpF) w' X → CRep ρ' U' w' (Own ρ' (applyU u hpF) X) v v' → (∀ n, U' n → U n ∨ (m ≤ n ∧ n < m + 16)) → K' (a.put o.dst v') w') :
    o.wp P a w K' Q := by
  let obR : Nat → Option AObj := look none (restH N hpF)
  have hobR : ∀ n, obR n = if n ∈ N then hpF n else none := fun n => look_restH N hpF n
  let X' : Nat → Prop := fun b => X b ∨ ∃ n o, n ∉ N ∧ hpF n = some o ∧ o.owned = true ∧ blk (ρ n) = some b
  let U0 : Nat → Prop := fun n => U n ∧ n < m
  have hin : ∀ n o, obR n = some o → n ∈ N ∧ hpF n = some o := fun n o hn => by
    rw [hobR] at hn
    split at hn
    · rename_i h1; exact ⟨h1, hn⟩
    · cases hn
  have hlocR : ∀ b, Local ρ obR b → Local ρ hpF b := fun b ⟨n, o, h1, h2, h3⟩ => ⟨n, o, (hin n o h1).2, h2, h3⟩
  have hloc : ∀ b, Local ρ hpF b → Local ρ obR b ∨ ∃ n o, n ∉ N ∧ hpF n = some o ∧ o.owned = true ∧ blk (ρ n) = some b := fun b ⟨n, o, h1, h2, h3⟩ => by
    by_cases hn : n ∈ N
    · exact .inl ⟨n, o, by rw [hobR, if_pos hn, h1], h2, h3⟩
    · exact .inr ⟨n, o, hn, h1, h2, h3⟩
  have hown : ∀ b, Own ρ obR X' b ↔ Own ρ hpF X b := fun b => by
    constructor
    · rintro ((h1 | ⟨n, o, h1, h2, h3, h4⟩) | h1)
      · exact .inl h1
      · exact .inr ⟨n, o, h2, h3, h4⟩
      · exact .inr (hlocR b h1)
    · rintro (h1 | h1)
      · exact .inl (.inl h1)
      · exact (hloc b h1).elim .inr fun h2 => .inl (.inr h2)
  have hownE : Own ρ obR X' = Own ρ hpF X := funext fun b => propext (hown b)
  have hHR : Hp Z ρ U0 obR w X' := by
    refine ⟨fun n o hn => ?_, fun n1 n2 o1 o2 g h1 h2 ho1 ho2 hb1 hb2 => hH.inj n1 n2 o1 o2 g (hin _ _ h1).2 (hin _ _ h2).2 ho1 ho2 hb1 hb2, fun n o hn => ?_, fun b hb => ?_, fun b hb hX => ?_, fun b hb => hH.ours b (hlocR b hb), hH.znew, fun n hn => hH.plain n hn.1⟩
    · obtain ⟨h1, h2⟩ := hin n o hn
      exact ⟨hH.used n o h2, (ltH_mem hlh n h1).1⟩
    · obtain ⟨h1, h2⟩ := hin n o hn
      have h3 := hH.objs n o h2
      have h4 := (ltH_mem hlh n h1).2
      rw [hownE]
      cases o with
      | cell ls =>
        obtain ⟨b, t, vs, g1, g2, g3⟩ := h3
        rw [h2] at h4
        exact ⟨b, t, vs, g1, g2, g3.lt h4⟩
      | row e κ l => exact h3
      | shr κ l => exact h3
      | iter s p => exact h3
    · rcases hb with hb | ⟨n, o, h1, h2, h3, h4⟩
      · exact hH.xlt b hb
      · exact (hH.objs n o h2).lt h3 h4
    · obtain ⟨n, o, h1, h2, h3⟩ := hb
      obtain ⟨h4, h5⟩ := hin n o h1
      rcases hX with hX | ⟨n', o', h6, h7, h8, h9⟩
      · exact hH.apart b ⟨n, o, h5, h2, h3⟩ hX
      · exact h6 (hH.inj n n' o o' b h5 h7 h2 h8 h3 h9 ▸ h4)
  have htR : TmOk ρ U0 w (Own ρ obR X') (restT T tmF) a := fun t => by
    rw [look_restT, hownE]
    split
    · rename_i h1; exact (ht t).lt (ltT_mem hlt t h1)
    · simp [CRep]
  have hrun : opEff E C o (restT T tmF) (restH N hpF) m (fun v u => some (v, u)) = some (v, u) := hd _ _
  refine Oper.wp_mono (fun a' w' hp' => ?_) (hop _ o _ _ m _ (v, u) X' Z ρ U0 w a Q hHR (fun n hn hu => absurd hu.2 (by omega)) htR hrun)
  obtain ⟨v1, u1, v', ρ1, U1, h1, rfl, hnx, hH1, hcr, hU1⟩ := hp'
  simp only [Option.some.injEq, Prod.mk.injEq] at h1
  obtain ⟨rfl, rfl⟩ := h1
  rw [look_app] at hnx hH1 hcr
  change Nx ρ ρ1 U0 U1 obR (applyU u1 obR) w w' at hnx
  change Hp Z ρ1 U1 (applyU u1 obR) w' X' at hH1
  change CRep ρ1 U1 w' (Own ρ1 (applyU u1 obR) X') v1 v' at hcr
  -- the names of others keep their values
  let ρ2 : Nat → Value := fun n => by classical exact if U n ∧ ¬ n < m then ρ n else ρ1 n
  let U2 : Nat → Prop := fun n => U n ∨ U1 n
  have hρ2U : ∀ n, U n → ρ2 n = ρ n := fun n hn => by
    by_cases hlt' : n < m
    · simp only [ρ2, hlt', not_true, and_false, if_false]; exact hnx.same n ⟨hn, hlt'⟩
    · simp only [ρ2, hn, hlt', not_false_eq_true, and_self, if_true]
  have hρ21 : ∀ n, U1 n → ρ2 n = ρ1 n := fun n hn => by
    by_cases h2 : U n ∧ ¬ n < m
    · rcases hU1 n hn with h3 | h3
      · exact absurd h3.2 h2.2
      · exact absurd h2.1 (hm n h3.1 h3.2)
    · simp only [ρ2, h2, if_false]
  have hkeys : ∀ n, (applyU u1 hpF n = applyU u1 obR n) ∨ (n ∉ N ∧ applyU u1 hpF n = hpF n ∧ applyU u1 obR n = none) := by
    have gen : ∀ (u : Ups) (n : Nat), (applyU u hpF n = applyU u obR n) ∨ (n ∉ N ∧ applyU u hpF n = hpF n ∧ applyU u obR n = none) := by
      intro u
      induction u with
      | nil =>
        intro n
        by_cases hn : n ∈ N
        · exact .inl (by show hpF n = obR n; rw [hobR, if_pos hn])
        · exact .inr ⟨hn, rfl, by show obR n = none; rw [hobR, if_neg hn]⟩
      | cons p u ih =>
        intro n
        show (upd (applyU u hpF) p.1 p.2 n = upd (applyU u obR) p.1 p.2 n) ∨ (n ∉ N ∧ upd (applyU u hpF) p.1 p.2 n = hpF n ∧ upd (applyU u obR) p.1 p.2 n = none)
        by_cases e : n = p.1
        · subst e; exact .inl (by rw [upd_same, upd_same])
        · rw [upd_other _ _ e, upd_other _ _ e]; exact ih n
    exact gen u1
  have hcase : ∀ n o, applyU u1 hpF n = some o → (applyU u1 obR n = some o ∧ ρ2 n = ρ1 n ∧ U1 n) ∨ (n ∉ N ∧ hpF n = some o ∧ ρ2 n = ρ n ∧ applyU u1 obR n = none) := fun n o hn => by
    rcases hkeys n with h2 | ⟨h2, h3, h4⟩
    · rw [h2] at hn
      have hu := hH1.used n o hn
      exact .inl ⟨hn, hρ21 n hu, hu⟩
    · rw [h3] at hn
      exact .inr ⟨h2, hn, hρ2U n (hH.used n o hn), h4⟩
  have hloc2 : ∀ b, Local ρ2 (applyU u1 hpF) b → Local ρ1 (applyU u1 obR) b ∨ ∃ n o, n ∉ N ∧ hpF n = some o ∧ o.owned = true ∧ blk (ρ n) = some b := fun b ⟨n, o, h2, h3, h4⟩ => by
    rcases hcase n o h2 with ⟨g1, g2, g3⟩ | ⟨g1, g2, g3, _⟩
    · exact .inl ⟨n, o, g1, h3, g2 ▸ h4⟩
    · exact .inr ⟨n, o, g1, g2, h3, g3 ▸ h4⟩
  have hown2 : ∀ b, Own ρ2 (applyU u1 hpF) X b → Own ρ1 (applyU u1 obR) X' b := fun b hb => by
    rcases hb with hb | hb
    · exact .inl (.inl hb)
    · rcases hloc2 b hb with hb | hb
      · exact .inr hb
      · exact .inl (.inr hb)
  have hNx : Nx ρ ρ2 U U2 hpF (applyU u1 hpF) w w' := by
    refine ⟨hnx.size, fun b hb hl => hnx.keep b hb fun h2 => hl (hlocR b h2), fun b hb hl => ?_, fun n hn => .inl hn, hρ2U⟩
    rcases hloc2 b hl with h2 | ⟨n, o, h2, h3, h4, h5⟩
    · exact hlocR b (hnx.own b hb h2)
    · exact ⟨n, o, h3, h4, h5⟩
  have hlat1 : Later ρ1 ρ2 U1 U2 w' w' (Own ρ1 (applyU u1 obR) X') (Own ρ2 (applyU u1 hpF) X) :=
    ⟨Nat.le_refl _, fun b _ hb => hown2 b hb, fun _ _ _ => rfl, fun n hn => .inr hn, hρ21⟩
  have hHp : Hp Z ρ2 U2 (applyU u1 hpF) w' X := by
    refine ⟨fun n o hn => ?_, fun n1 n2 o1 o2 g h2 h3 ho1 ho2 hb1 hb2 => ?_, fun n o hn => ?_, fun b hb => hH1.xlt b (.inl hb), fun b hb hX => ?_, fun b hb => ?_, hH1.znew, fun n hn => ?_⟩
    · rcases hcase n o hn with ⟨_, _, g3⟩ | ⟨_, g2, _⟩
      · exact .inr g3
      · exact .inl (hH.used n o g2)
    · rcases hcase n1 o1 h2 with ⟨g1, g2, g3⟩ | ⟨g1, g2, g3, _⟩ <;> rcases hcase n2 o2 h3 with ⟨k1, k2, k3⟩ | ⟨k1, k2, k3, _⟩
      · exact hH1.inj n1 n2 o1 o2 g g1 k1 ho1 ho2 (g2 ▸ hb1) (k2 ▸ hb2)
      · exact absurd (show X' g from .inr ⟨n2, o2, k1, k2, ho2, k3 ▸ hb2⟩) (hH1.apart g ⟨n1, o1, g1, ho1, g2 ▸ hb1⟩)
      · exact absurd (show X' g from .inr ⟨n1, o1, g1, g2, ho1, g3 ▸ hb1⟩) (hH1.apart g ⟨n2, o2, k1, ho2, k2 ▸ hb2⟩)
      · exact hH.inj n1 n2 o1 o2 g g2 k2 ho1 ho2 (g3 ▸ hb1) (k3 ▸ hb2)
    · rcases hcase n o hn with ⟨g1, g2, g3⟩ | ⟨g1, g2, g3, _⟩
      · rw [g2]; exact ORep.later hlat1 (fun _ _ _ => rfl) (hH1.objs n o g1)
      · rw [g3]
        refine ORep.later hNx.later (fun ho b hb => hnx.keep b ((hH.objs n o g2).lt ho hb) fun hl => ?_) (hH.objs n o g2)
        exact hHR.apart b hl (.inr ⟨n, o, g1, g2, ho, hb⟩)
    · rcases hloc2 b hb with h2 | ⟨n, o, h2, h3, h4, h5⟩
      · exact hH1.apart b h2 (.inl hX)
      · exact hH.apart b ⟨n, o, h3, h4, h5⟩ hX
    · rcases hloc2 b hb with h2 | ⟨n, o, h2, h3, h4, h5⟩
      · exact hH1.ours b h2
      · exact hH.ours b ⟨n, o, h3, h4, h5⟩
    · by_cases h2 : U n
      · rw [hρ2U n h2]; exact hH.plain n h2
      · have h3 := hn.resolve_left h2
        rw [hρ21 n h3]; exact hH1.plain n h3
  exact hK v' ρ2 U2 w' hNx hHp (CRep.later hlat1 hcr) fun n hn => by
    rcases hn with hn | hn
    · exact .inl hn
    · exact (hU1 n hn).imp And.left id
end
end
end Go.AM

set_option linter.unusedVariables false
set_option linter.unusedSimpArgs false
namespace Go.AM
noncomputable section

/-! ### regions that draw their order -/

abbrev S := (Nat → CV) × (Nat → Option AObj)

def putF (d : Option Nat) (v : CV) (tmF : Nat → CV) : Nat → CV := match d with
  | none => tmF
  | some d => upd tmF d v

def Ent.apply (e : Ent) (s : S) : S := (putF e.o.dst e.val s.1, applyU e.ups s.2)

def GuardIs (ops : Array Oper) (o : Oper) (tmF : Nat → CV) (on : Bool) : Prop :=
  match o.guard with
  | none => on = true
  | some (j, want) => ∃ t, (ops[j]?).bind (·.dst) = some t ∧ ((∃ b, tmF t = .one (.of .bool b) ∧ on = (b == want)) ∨ ((∃ vs, tmF t = .one (.raw (.tuple vs))) ∧ on = false))

section
variable (E : Env) (C : CallT E) (N base : Nat) (ops : Array Oper)

def Ent.m (base : Nat) (e : Ent) : Nat := base + 16 * e.i

structure EV (e : Ent) (s : S) : Prop where
  at' : ops[e.i]? = some e.o
  T : e.T = e.o.looksAt ops
  rn : e.rn = rnOf e.T s.1 s.2
  lt : ltT (e.m base) s.1 e.T = true
  lh : ltH (e.m base) s.2 e.rn = true
  dst : ∀ d, e.o.dst = some d → d < N
  eff : match e.eff with
    | some p => GuardIs ops e.o s.1 true ∧ Does E C e.o (restT e.T s.1) (restH e.rn s.2) (e.m base) p.1 p.2
    | none => GuardIs ops e.o s.1 false

def Vs : List Ent → S → S → Prop
  | [], s, s' => s = s'
  | e :: l, s, s' => EV E C N base ops e s ∧ Vs l (e.apply s) s'
end

structure Indep (e1 e2 : Ent) : Prop where
  d1 : ∀ d, e1.o.dst = some d → d ∉ e2.T
  d2 : ∀ d, e2.o.dst = some d → d ∉ e1.T
  dd : ∀ d, e1.o.dst = some d → e2.o.dst ≠ some d
  k1 : ∀ p ∈ e1.ups, p.1 ∉ e2.rn
  k2 : ∀ p ∈ e2.ups, p.1 ∉ e1.rn
  kk : ∀ p ∈ e1.ups, ∀ q ∈ e2.ups, p.1 ≠ q.1

theorem applyU_not {u : Ups} {f : Nat → Option AObj} {n : Nat} (h : ∀ p ∈ u, p.1 ≠ n) : applyU u f n = f n := by
  induction u with
  | nil => rfl
  | cons p u ih =>
    show upd (applyU u f) p.1 p.2 n = f n
    rw [upd_other _ _ (fun e => h p (by simp) e.symm)]
    exact ih fun q hq => h q (by simp [hq])

theorem applyU_comm {u u' : Ups} (h : ∀ p ∈ u, ∀ q ∈ u', p.1 ≠ q.1) (f : Nat → Option AObj) : applyU u' (applyU u f) = applyU u (applyU u' f) := by
  funext n
  induction u with
  | nil => rfl
  | cons p u ih =>
    have ih' := ih fun q hq => h q (by simp [hq])
    by_cases e : n = p.1
    · have h1 : ∀ q ∈ u', q.1 ≠ n := fun q hq he => h p (by simp) q hq (by rw [he, e])
      rw [applyU_not h1]
      subst e
      show upd (applyU u f) p.1 p.2 p.1 = upd (applyU u (applyU u' f)) p.1 p.2 p.1
      rw [upd_same, upd_same]
    · have h2 : ∀ g, applyU (p :: u) g n = applyU u g n := fun g => upd_other _ _ e
      rw [h2, ← ih']
      have gen : ∀ (u' : Ups) (g g' : Nat → Option AObj), g n = g' n → applyU u' g n = applyU u' g' n := by
        intro u'
        induction u' with
        | nil => intro g g' h; exact h
        | cons q u' ih2 =>
          intro g g' hg
          show upd (applyU u' g) q.1 q.2 n = upd (applyU u' g') q.1 q.2 n
          by_cases e' : n = q.1
          · subst e'; rw [upd_same, upd_same]
          · rw [upd_other _ _ e', upd_other _ _ e']; exact ih2 g g' hg
      exact gen u' _ _ (h2 f)

section
variable {E : Env} {C : CallT E} {N base : Nat} {ops : Array Oper}

theorem mem_rnOf {T : List Nat} {tmF : Nat → CV} {hpF : Nat → Option AObj} {n : Nat} (h : n ∈ namesN tmF T) : n ∈ rnOf T tmF hpF := List.mem_append_left _ h

theorem guard_mem {o : Oper} {j : Nat} {want : Bool} {t : Nat} (hg : o.guard = some (j, want)) (ht : (ops[j]?).bind (·.dst) = some t) : t ∈ o.looksAt ops := by
  unfold Oper.looksAt
  rw [hg]
  simp [ht]

/-- what an operation does is told by what it looks at -/
theorem EV.local {e : Ent} {s s' : S} (h : EV E C N base ops e s) (ht : ∀ t ∈ e.T, s'.1 t = s.1 t) (hn : ∀ n ∈ e.rn, s'.2 n = s.2 n) : EV E C N base ops e s' := by
  have h1 : restT e.T s'.1 = restT e.T s.1 := List.map_congr_left fun t hm => by rw [ht t hm]
  have h2 : restH e.rn s'.2 = restH e.rn s.2 := List.map_congr_left fun t hm => by rw [hn t hm]
  have hnm : namesN s'.1 e.T = namesN s.1 e.T := by
    unfold namesN
    have : ∀ (T : List Nat), (∀ t ∈ T, s'.1 t = s.1 t) → T.flatMap (fun t => namesC (s'.1 t)) = T.flatMap (fun t => namesC (s.1 t)) := by
      intro T
      induction T with
      | nil => intro _; rfl
      | cons t T ih => intro hT; rw [List.flatMap_cons, List.flatMap_cons, hT t (by simp), ih fun k hk => hT k (by simp [hk])]
    exact this e.T ht
  have hrn : rnOf e.T s'.1 s'.2 = rnOf e.T s.1 s.2 := by
    unfold rnOf
    rw [hnm]
    congr 1
    have : ∀ (L : List Nat), (∀ n ∈ L, s'.2 n = s.2 n) → L.flatMap (fun n => namesO (s'.2 n)) = L.flatMap (fun n => namesO (s.2 n)) := by
      intro L
      induction L with
      | nil => intro _; rfl
      | cons t T ih => intro hT; rw [List.flatMap_cons, List.flatMap_cons, hT t (by simp), ih fun k hk => hT k (by simp [hk])]
    exact this _ fun n hm => hn n (by rw [h.rn]; exact mem_rnOf hm)
  have hlt : ∀ (T : List Nat), (∀ t ∈ T, s'.1 t = s.1 t) → ltT (e.m base) s'.1 T = ltT (e.m base) s.1 T := by
    intro T
    induction T with
    | nil => intro _; rfl
    | cons t T ih => intro hT; simp only [ltT, hT t (by simp), ih fun k hk => hT k (by simp [hk])]
  have hlh : ∀ (T : List Nat), (∀ t ∈ T, s'.2 t = s.2 t) → ltH (e.m base) s'.2 T = ltH (e.m base) s.2 T := by
    intro T
    induction T with
    | nil => intro _; rfl
    | cons t T ih => intro hT; simp only [ltH, hT t (by simp), ih fun k hk => hT k (by simp [hk])]
  have hgd : ∀ on, GuardIs ops e.o s.1 on → GuardIs ops e.o s'.1 on := fun on hg => by
    unfold GuardIs at hg ⊢
    split
    · rename_i h3; rw [h3] at hg; exact hg
    · rename_i j want h3
      rw [h3] at hg
      obtain ⟨t, h4, h5⟩ := hg
      refine ⟨t, h4, ?_⟩
      rw [ht t (by rw [h.T]; exact guard_mem h3 h4)]
      exact h5
  refine ⟨h.at', h.T, by rw [hrn]; exact h.rn, by rw [hlt e.T ht]; exact h.lt, by rw [hlh e.rn hn]; exact h.lh, h.dst, ?_⟩
  have heff := h.eff
  split
  · rename_i p hp
    rw [hp] at heff
    rw [h1, h2]
    exact ⟨hgd _ heff.1, heff.2⟩
  · rename_i hp
    rw [hp] at heff
    exact hgd _ heff

theorem Indep.apply_local {e1 e2 : Ent} (h : Indep e1 e2) (s : S) : (∀ t ∈ e2.T, (e1.apply s).1 t = s.1 t) ∧ (∀ n ∈ e2.rn, (e1.apply s).2 n = s.2 n) := by
  refine ⟨fun t ht => ?_, fun n hn => applyU_not fun p hp e => h.k1 p hp (e ▸ hn)⟩
  show putF e1.o.dst e1.val s.1 t = s.1 t
  cases hd : e1.o.dst with
  | none => rfl
  | some d => exact upd_other _ _ fun e => h.d1 d hd (e ▸ ht)

theorem Indep.symm {e1 e2 : Ent} (h : Indep e1 e2) : Indep e2 e1 :=
  ⟨h.d2, h.d1, fun d h1 h2 => h.dd d h2 h1, h.k2, h.k1, fun p hp q hq e => h.kk q hq p hp e.symm⟩

theorem apply_comm {e1 e2 : Ent} (h : Indep e1 e2) (s : S) : e2.apply (e1.apply s) = e1.apply (e2.apply s) := by
  refine Prod.ext ?_ (applyU_comm h.kk s.2)
  show putF e2.o.dst e2.val (putF e1.o.dst e1.val s.1) = putF e1.o.dst e1.val (putF e2.o.dst e2.val s.1)
  cases h1 : e1.o.dst with
  | none => rfl
  | some d1 => cases h2 : e2.o.dst with
    | none => rfl
    | some d2 =>
      have hne : d1 ≠ d2 := fun e => h.dd d1 h1 (e ▸ h2)
      funext t
      simp only [putF]
      by_cases e : t = d2
      · subst e; rw [upd_same, upd_other _ _ (Ne.symm hne), upd_same]
      · rw [upd_other _ _ e]
        by_cases e' : t = d1
        · subst e'; rw [upd_same, upd_same]
        · rw [upd_other _ _ e', upd_other _ _ e', upd_other _ _ e]

/-- an operation that hangs together with none ahead of it may come first -/
theorem Vs.front {e : Ent} {l2 : List Ent} : ∀ {l1 : List Ent} {s s' : S}, Vs E C N base ops (l1 ++ e :: l2) s s' → (∀ e1 ∈ l1, Indep e1 e) → Vs E C N base ops (e :: (l1 ++ l2)) s s'
  | [], s, s', h, _ => h
  | e1 :: l1, s, s', h, hi => by
    obtain ⟨h1, h2⟩ := h
    obtain ⟨h3, h4⟩ := Vs.front h2 fun k hk => hi k (by simp [hk])
    have hI := hi e1 (by simp)
    obtain ⟨g1, g2⟩ := hI.apply_local s
    have h5 : EV E C N base ops e s := h3.local (fun t ht => (g1 t ht).symm) (fun n hn => (g2 n hn).symm)
    obtain ⟨k1, k2⟩ := hI.symm.apply_local s
    refine ⟨h5, h1.local k1 k2, ?_⟩
    rw [← apply_comm hI]
    exact h4

/-! ### the order of the edges -/

def Direct (ops : Array Oper) (d i : Nat) : Prop := ∃ o, ops[i]? = some o ∧ ∃ ed ∈ o.after, Region.binds .any ed = true ∧ ed.on = d

inductive Anc (ops : Array Oper) : Nat → Nat → Prop where
  | base {d i : Nat} : Direct ops d i → Anc ops d i
  | step {d i j : Nat} : Direct ops d i → Anc ops j d → Anc ops j i

theorem anc_listed {listed : Nat → Prop} (hc : ∀ i, listed i → ∀ d, Direct ops d i → listed d) {j i : Nat} (h : Anc ops j i) (hi : ∀ d, Direct ops d i → listed d) : listed j := by
  induction h with
  | base h1 => exact hi _ h1
  | step h1 _ ih => exact ih fun d hd => hc _ (hi _ h1) d hd

def Ind (ops : Array Oper) (e1 e2 : Ent) : Prop := Anc ops e1.i e2.i ∨ Indep e1 e2

section
variable {P : Program} {R : Type} {X Z : Nat → Prop} {ρ0 : Nat → Value} {w0 : World} {pins : List Nat} {Q : Exit → Act → World → Prop}

/-- the state behind some operations -/
def FInv (N base : Nat) (X Z : Nat → Prop) (ρ0 : Nat → Value) (w0 : World) (pins : List Nat) (dn : Nat → Prop) (s : S) (a : Act) (w : World) : Prop :=
  ∃ ρ U, Hp Z ρ U s.2 w X ∧ TmF ρ U w (Own ρ s.2 X) s.1 a ∧ a.tmps.size = N ∧ a.defers = [] ∧ (∀ n, U n → n < base ∨ ∃ i, dn i ∧ base + 16 * i ≤ n ∧ n < base + 16 * i + 16) ∧
    (∀ i ∈ pins, U i ∧ ρ i = ρ0 i) ∧ Gr w0 w ∧ ∀ b, b < w0.heap.size → ¬ Z b → w.heap[b]? = w0.heap[b]?

theorem guard_wanted {ρ : Nat → Value} {U : Nat → Prop} {w : World} {Y : Nat → Prop} {o : Oper} {tmF : Nat → CV} {a : Act} {on : Bool} (h : GuardIs ops o tmF on) (ht : TmF ρ U w Y tmF a) :
    Region.wanted o (yielded ops a.tmps) = on := by
  unfold GuardIs at h
  split at h
  · rename_i hg; subst h; simp [Region.wanted, hg]
  · rename_i j want hg
    obtain ⟨t, hd, h⟩ := h
    have hy := ht t
    have hyield : ∀ v, a.tmps.getD t undef = v → yielded ops a.tmps j = (match v with | .bool b => some b | _ => none) := by
      intro v hv
      unfold yielded
      rw [hd]
      simp only [Option.bind_some]
      rw [Array.getD_eq_getD_getElem?] at hv
      cases hh : a.tmps[t]? with
      | none => rw [hh] at hv; simp only [Option.getD_none] at hv; subst hv; rfl
      | some u => rw [hh] at hv; simp only [Option.getD_some] at hv; subst hv; cases u <;> rfl
    rcases h with ⟨b, hb, rfl⟩ | ⟨⟨vs, hb⟩, rfl⟩
    · rw [hb] at hy
      have := hyield _ (bool_of hy)
      simp only at this
      cases b <;> cases want <;> simp [Region.wanted, hg, this]
    · rw [hb] at hy
      simp only [CRep, LRep] at hy
      have := hyield _ hy
      simp only at this
      simp [Region.wanted, hg, this]

theorem ent_ok (hop : OpsOk P E C) {e : Ent} {s : S} {dn : Nat → Prop} {a : Act} {w : World} (h : EV E C N base ops e s) (hI : FInv N base X Z ρ0 w0 pins dn s a w) (hdn : ¬ dn e.i) (K' : Act → World → Prop)
    (hK : ∀ a' w', FInv N base X Z ρ0 w0 pins (fun i => dn i ∨ i = e.i) (e.apply s) a' w' → K' a' w') : wpOp P ops Q e.i K' a w := by
  obtain ⟨ρ, U, hH, ht, hN, hD, hU, hP, hS, hKp⟩ := hI
  unfold wpOp
  rw [h.at']
  simp only
  have heff := h.eff
  have put : ∀ {ρ' : Nat → Value} {U' : Nat → Prop} {w' : World} {hpF' : Nat → Option AObj} {v : CV} {v' : Value}, TmF ρ' U' w' (Own ρ' hpF' X) s.1 a → CRep ρ' U' w' (Own ρ' hpF' X) v v' →
      TmF ρ' U' w' (Own ρ' hpF' X) (putF e.o.dst v s.1) (a.put e.o.dst v') := by
    intro ρ' U' w' hpF' v v' ht' hc
    cases hd : e.o.dst with
    | none => exact ht'
    | some d =>
      have hlt : d < a.tmps.size := by rw [hN]; exact h.dst d hd
      intro t
      simp only [putF]
      by_cases e' : t = d
      · subst e'
        rw [upd_same]
        simpa [Act.put, hlt] using hc
      · rw [upd_other _ _ e']
        have := ht' t
        simp only [Act.put]
        rw [Array.getD_eq_getD_getElem?, Array.getElem?_setIfInBounds_ne (fun h => e' h.symm), ← Array.getD_eq_getD_getElem?]
        exact this
  have bound : ∀ {U' : Nat → Prop}, (∀ n, U' n → U n ∨ (e.m base ≤ n ∧ n < e.m base + 16)) → ∀ n, U' n → n < base ∨ ∃ i, (dn i ∨ i = e.i) ∧ base + 16 * i ≤ n ∧ n < base + 16 * i + 16 := by
    intro U' hU' n hn
    rcases hU' n hn with h1 | h1
    · rcases hU n h1 with h2 | ⟨i, h2, h3⟩
      · exact .inl h2
      · exact .inr ⟨i, .inl h2, h3⟩
    · exact .inr ⟨e.i, .inr rfl, h1⟩
  cases he : e.eff with
  | some p =>
    rw [he] at heff
    obtain ⟨hg, hd⟩ := heff
    rw [if_pos (guard_wanted hg ht)]
    refine .inl (frame_ok hop hd h.lt h.lh hH (fun n h1 h2 hu => ?_) ht K' fun v' ρ' U' w' hnx hH' hcr hU' => ?_)
    · simp only [Ent.m] at h1 h2
      rcases hU n hu with h3 | ⟨i, h3, h4, h5⟩
      · omega
      · have : i = e.i := by omega
        exact hdn (this ▸ h3)
    · have hups : e.ups = p.2 := by simp [Ent.ups, he]
      have hval : e.val = p.1 := by simp [Ent.val, he]
      refine hK _ _ ⟨ρ', U', ?_, ?_, by rw [size_put]; exact hN, ?_, bound hU', fun i hi => ?_, hS.trans hnx.size, fun b hb hZ => ?_⟩
      · show Hp Z ρ' U' (applyU e.ups s.2) w' X; rw [hups]; exact hH'
      · show TmF ρ' U' w' (Own ρ' (applyU e.ups s.2) X) (putF e.o.dst e.val s.1) (a.put e.o.dst v')
        rw [hups, hval]
        exact put (fun t => CRep.later hnx.later (ht t)) hcr
      · cases e.o.dst <;> exact hD
      · obtain ⟨g1, g2⟩ := hP i hi
        exact ⟨hnx.used i g1, (hnx.same i g1).trans g2⟩
      · rw [← hKp b hb hZ]
        exact hnx.keep b (Nat.lt_of_lt_of_le hb hS.1) fun hl => hZ (hH.ours b hl)
  | none =>
    rw [he] at heff
    rw [if_neg (by rw [guard_wanted heff ht]; simp)]
    have hups : e.ups = [] := by simp [Ent.ups, he]
    have hval : e.val = .one (.raw undef) := by simp [Ent.val, he]
    refine hK _ _ ⟨ρ, U, ?_, ?_, by rw [size_put]; exact hN, ?_, bound fun n hn => .inl hn, hP, hS, hKp⟩
    · show Hp Z ρ U (applyU e.ups s.2) w X; rw [hups]; exact hH
    · show TmF ρ U w (Own ρ (applyU e.ups s.2) X) (putF e.o.dst e.val s.1) (a.put e.o.dst undef)
      rw [hups, hval]
      exact put ht (by simp [CRep, LRep])
    · cases e.o.dst <;> exact hD

/-- ALL ORDERS -/
theorem any_ok (hop : OpsOk P E C) {sN : S} (hdir : ∀ i d, Direct ops d i → d < i) : ∀ (fuel : Nat) (l : List Ent) (s : S) (dn : Nat → Prop) (listed : Array Bool) (a : Act) (w : World), l.length ≤ fuel →
    Vs E C N base ops l s sN → l.Pairwise (Ind ops) → (l.map (·.i)).Pairwise (· < ·) → FInv N base X Z ρ0 w0 pins dn s a w →
    (∀ j, j < ops.size → (listed.getD j false = true ↔ j ∉ l.map (·.i))) → listed.size = ops.size → (∀ j ∈ l.map (·.i), j < ops.size) → (∀ j, dn j → j ∉ l.map (·.i)) →
    (∀ i, i < ops.size → i ∉ l.map (·.i) → ∀ d, Direct ops d i → d ∉ l.map (·.i)) →
    (∀ dn' a' w', FInv N base X Z ρ0 w0 pins dn' sN a' w' → (∀ j, dn' j → j < ops.size) → Q .normal a' w') → (∀ j, dn j → j < ops.size) → wpAny P .any ops Q fuel listed a w := by
  intro fuel
  have noready : ∀ {listed : Array Bool}, (∀ j, j < ops.size → (listed.getD j false = true ↔ j ∉ ([] : List Ent).map (·.i))) → listed.size = ops.size → Region.ready .any ops listed = [] := by
    intro listed hl hs
    apply List.eq_nil_iff_forall_not_mem.2
    intro j hj
    obtain ⟨h1, o, ho, _⟩ := mem_ready.1 hj
    have hlt : j < ops.size := (Array.getElem?_eq_some_iff.1 ho).1
    have h2 := (hl j hlt).2 (by simp)
    have hlt' : j < listed.size := by omega
    simp [hlt'] at h1 h2
    rw [h1] at h2; cases h2
  induction fuel with
  | zero =>
    intro l s dn listed a w hlen hv hpw hsort hI hl hs hlt hdn hcl hQ hdl
    have : l = [] := List.eq_nil_of_length_eq_zero (by omega)
    subst this
    have hv' : s = sN := hv
    subst hv'
    exact ⟨noready hl hs, hQ dn a w hI hdl⟩
  | succ fuel ih =>
    intro l s dn listed a w hlen hv hpw hsort hI hl hs hlt hdn hcl hQ hdl
    have direct_listed : ∀ i d, Direct ops d i → (∀ d', Direct ops d' i → d' < ops.size) := fun i d _ d' hd' => by
      have h1 := hdir i d' hd'
      obtain ⟨o, ho, _⟩ := hd'
      have := (Array.getElem?_eq_some_iff.1 ho).1
      omega
    refine ⟨fun hr => ?_, fun i hi => ?_⟩
    · cases l with
      | nil =>
        have hv' : s = sN := hv
        subst hv'
        exact hQ dn a w hI hdl
      | cons e l =>
        exfalso
        have hei := hlt e.i (by simp)
        have : e.i ∈ Region.ready .any ops listed := by
          refine mem_ready.2 ⟨?_, e.o, hv.1.at', fun ed hed hb => ?_⟩
          · cases hh : listed.getD e.i true with
            | false => rfl
            | true =>
              have hlt' : e.i < listed.size := by omega
              have : listed.getD e.i false = true := by simp [hlt'] at hh ⊢; exact hh
              exact absurd (by simp) ((hl e.i hei).1 this)
          · have hd : Direct ops ed.on e.i := ⟨e.o, hv.1.at', ed, hed, hb, rfl⟩
            have h1 := hdir _ _ hd
            refine (hl ed.on (by omega)).2 fun hm => ?_
            rw [List.map_cons, List.pairwise_cons] at hsort
            rcases List.mem_cons.1 hm with h2 | h2
            · have h3 : ed.on = e.i := h2
              omega
            · have h3 : e.i < ed.on := hsort.1 _ h2
              omega
        rw [hr] at this; cases this
    · obtain ⟨h1, o, ho, hpre⟩ := mem_ready.1 hi
      have hisz : i < ops.size := (Array.getElem?_eq_some_iff.1 ho).1
      have hmem : i ∈ l.map (·.i) := by
        apply Classical.byContradiction
        intro hn
        have := (hl i hisz).2 hn
        have hlt' : i < listed.size := by omega
        simp [hlt'] at h1 this
        rw [h1] at this; cases this
      obtain ⟨e, he, rfl⟩ := List.mem_map.1 hmem
      obtain ⟨l1, l2, rfl⟩ := List.append_of_mem he
      have hpre' : ∀ d, Direct ops d e.i → d ∉ (l1 ++ e :: l2).map (·.i) := fun d hd => by
        have hd' := hd
        obtain ⟨o', ho', ed, hed, hb, rfl⟩ := hd
        rw [ho] at ho'
        simp only [Option.some.injEq] at ho'
        subst ho'
        exact (hl ed.on (by have := hdir _ _ hd'; omega)).1 (hpre ed hed hb)
      have hind : ∀ e1 ∈ l1, Indep e1 e := fun e1 h1' => by
        rw [List.pairwise_append] at hpw
        rcases hpw.2.2 e1 h1' e (by simp) with h2 | h2
        · exfalso
          have := anc_listed (listed := fun j => j ∉ (l1 ++ e :: l2).map (·.i) ∧ j < ops.size) (fun i' ⟨hi1, hi2⟩ d hd => ⟨hcl i' hi2 hi1 d hd, by have := hdir _ _ hd; omega⟩) h2
            (fun d hd => ⟨hpre' d hd, by have := hdir _ _ hd; omega⟩)
          exact this.1 (List.mem_map.2 ⟨e1, by simp [h1'], rfl⟩)
        · exact h2
      obtain ⟨hev, hv'⟩ := Vs.front hv hind
      have hnodup : ((l1 ++ e :: l2).map (·.i)).Pairwise (· < ·) := hsort
      rw [List.map_append, List.map_cons, List.pairwise_append, List.pairwise_cons] at hsort
      obtain ⟨hs1, ⟨hs2, hs3⟩, hs4⟩ := hsort
      have hnot : e.i ∉ (l1 ++ l2).map (·.i) := fun hm => by
        rw [List.map_append] at hm
        rcases List.mem_append.1 hm with hm | hm
        · have := hs4 _ hm e.i (by simp); omega
        · have := hs2 _ hm; omega
      have hmem2 : ∀ j, j ∈ (l1 ++ e :: l2).map (·.i) ↔ j = e.i ∨ j ∈ (l1 ++ l2).map (·.i) := fun j => by
        simp only [List.map_append, List.map_cons, List.mem_append, List.mem_cons]
        constructor
        · rintro (h | h | h)
          · exact .inr (.inl h)
          · exact .inl h
          · exact .inr (.inr h)
        · rintro (h | h | h)
          · exact .inr (.inl h)
          · exact .inl h
          · exact .inr (.inr h)
      refine ent_ok hop hev hI (fun hd => hdn _ hd hmem) _ fun a' w' hI' => ?_
      refine ih (l1 ++ l2) (e.apply s) _ _ a' w' (by simp at hlen ⊢; omega) hv' ?_ ?_ hI' (fun j hj => ?_) (by simp [hs]) (fun j hj => hlt j ((hmem2 j).2 (.inr hj))) (fun j hj => ?_) (fun i' hi1 hi2 d hd => ?_) hQ (fun j hj => ?_)
      · rw [List.pairwise_append] at hpw ⊢
        rw [List.pairwise_cons] at hpw
        exact ⟨hpw.1, hpw.2.1.2, fun x hx y hy => hpw.2.2 x hx y (List.mem_cons_of_mem _ hy)⟩
      · rw [List.map_append, List.pairwise_append]
        exact ⟨hs1, hs3, fun x hx y hy => hs4 x hx y (by simp [hy])⟩
      · by_cases e' : j = e.i
        · subst e'
          simp only [hnot, not_false_eq_true, iff_true]
          have hlt' : e.i < listed.size := by omega
          simp [hlt']
        · rw [getD_set_ne false (fun h => e' h.symm), hl j hj, hmem2 j]
          simp [e']
      · rcases hj with hj | hj
        · exact fun h2 => hdn j hj ((hmem2 j).2 (.inr h2))
        · rw [hj]; exact hnot
      · by_cases e' : i' = e.i
        · subst e'
          exact fun h2 => hpre' d hd ((hmem2 d).2 (.inr h2))
        · exact fun h2 => hcl i' hi1 (fun h3 => ((hmem2 i').1 h3).elim e' hi2) d hd ((hmem2 d).2 (.inr h2))
      · rcases hj with hj | hj
        · exact hdl j hj
        · rw [hj]; exact hisz
end
end
end
end Go.AM

set_option linter.unusedVariables false
set_option linter.unusedSimpArgs false
namespace Go.AM
noncomputable section

theorem disjL_ok {b : List Nat} : ∀ {a : List Nat}, disjL a b = true → ∀ x ∈ a, x ∉ b
  | [], _, x, hx => by cases hx
  | y :: a, h, x, hx => by
    have h' : (match idx b y with | none => disjL a b | some _ => false) = true := h
    cases hi : idx b y with
    | some i => rw [hi] at h'; cases h'
    | none =>
      rw [hi] at h'
      rcases List.mem_cons.1 hx with rfl | hx
      · exact idxGo_none (i := 0) (by rw [← idx_eq]; exact hi)
      · exact disjL_ok h' x hx

theorem dstIn_ok {d : Option Nat} {T : List Nat} (h : dstIn d T = false) : ∀ k, d = some k → k ∉ T := by
  intro k hk
  subst hk
  simp only [dstIn] at h
  cases hi : idx T k with
  | some i => rw [hi] at h; cases h
  | none => exact idxGo_none (i := 0) (by rw [← idx_eq]; exact hi)

theorem keysU_mem {u : Ups} {p : Nat × Option AObj} (h : p ∈ u) : p.1 ∈ keysU u := List.mem_map.2 ⟨p, h, rfl⟩

theorem apartB_ok {e1 e2 : Ent} (h : apartB e1 e2 = true) : Indep e1 e2 := by
  unfold apartB at h
  split at h
  case h_2 => cases h
  rename_i h1 h2 h3
  split at h
  case h_2 => cases h
  rename_i h4 h5 h6
  refine ⟨dstIn_ok h1, dstIn_ok h2, fun d hd hd' => ?_, fun p hp => disjL_ok h4 _ (keysU_mem hp), fun p hp => disjL_ok h5 _ (keysU_mem hp), fun p hp q hq e => disjL_ok h6 _ (keysU_mem hp) (e ▸ keysU_mem hq)⟩
  rw [hd, hd'] at h3
  simp [dstEq] at h3

theorem directs_iff {ops : Array Oper} {o : Oper} {i d : Nat} (ho : ops[i]? = some o) : d ∈ directs o ↔ Direct ops d i := by
  unfold directs Direct
  constructor
  · intro h
    obtain ⟨e, h1, h2⟩ := List.mem_map.1 h
    obtain ⟨h3, h4⟩ := List.mem_filter.1 h1
    exact ⟨o, ho, e, by simpa using h3, h4, h2⟩
  · rintro ⟨o', ho', e, h1, h2, h3⟩
    rw [ho] at ho'
    simp only [Option.some.injEq] at ho'
    subst ho'
    exact List.mem_map.2 ⟨e, List.mem_filter.2 ⟨by simpa using h1, h2⟩, h3⟩

theorem idx_mem {l : List Nat} {x j : Nat} (h : idx l x = some j) : x ∈ l := by
  rw [idx_eq] at h
  have gen : ∀ (l : List Nat) (i : Nat), idxGo x l i = some j → x ∈ l := by
    intro l
    induction l with
    | nil => intro i h; simp [idxGo] at h
    | cons y l ih =>
      intro i h
      simp only [idxGo] at h
      split at h
      · rename_i hb; have := Nat.eq_of_beq_eq_true hb; simp [this]
      · exact List.mem_cons_of_mem _ (ih _ h)
  exact gen l 0 h

theorem isAnc_ok {ops : Array Oper} {j : Nat} : ∀ {k i : Nat}, isAnc ops j k i = true → Anc ops j i
  | 0, i, h => by cases h
  | k + 1, i, h => by
    simp only [isAnc] at h
    split at h
    · cases h
    · rename_i o ho
      split at h
      · rename_i x hx
        exact .base ((directs_iff ho).1 (idx_mem hx))
      · obtain ⟨d, h1, h2⟩ := List.any_eq_true.1 h
        split at h2
        · exact .step ((directs_iff ho).1 h1) (isAnc_ok h2)
        · cases h2

theorem indB_ok {ops : Array Oper} {e1 e2 : Ent} (h : indB ops e1 e2 = true) : Ind ops e1 e2 := by
  unfold indB at h
  split at h
  · rename_i h1; exact .inr (apartB_ok h1)
  · exact .inl (isAnc_ok h)

theorem indAll_ok {ops : Array Oper} {e : Ent} : ∀ {tr : List Ent}, indAll ops tr e = true → ∀ e1 ∈ tr, Ind ops e1 e
  | [], _, e1, h1 => by cases h1
  | x :: tr, h, e1, h1 => by
    have h' : (match indB ops x e with | true => indAll ops tr e | false => false) = true := h
    cases hi : indB ops x e with
    | false => rw [hi] at h'; cases h'
    | true =>
      rw [hi] at h'
      rcases List.mem_cons.1 h1 with rfl | h1
      · exact indB_ok hi
      · exact indAll_ok h' e1 h1

theorem allLt_ok {i : Nat} : ∀ {ds : List Nat}, allLt i ds = true → ∀ d ∈ ds, d < i
  | [], _, d, h => by cases h
  | x :: ds, h, d, hd => by
    have h' : (match Nat.blt x i with | true => allLt i ds | false => false) = true := h
    cases hi : Nat.blt x i with
    | false => rw [hi] at h'; cases h'
    | true =>
      rw [hi] at h'
      rcases List.mem_cons.1 hd with rfl | hd
      · simpa using hi
      · exact allLt_ok h' d hd

theorem look_putT (d : Option Nat) (v : CV) (tm : List (Nat × CV)) : look .undef (putT d v tm) = putF d v (look .undef tm) := by
  cases d with
  | none => rfl
  | some d => exact look_cons _ _ _ _

section
variable {E : Env} {C : CallT E} {N base : Nat} {ops : Array Oper} {R : Type} {r : R}

def EGoal (E : Env) (C : CallT E) (N base : Nat) (ops : Array Oper) (tm : List (Nat × CV)) (hp : List (Nat × Option AObj)) (tr : List Ent) {R : Type} (K : List (Nat × CV) → List (Nat × Option AObj) → List Ent → Option R) (r : R) (i : Nat) : Prop :=
  ∃ (e : Ent) (tm' : List (Nat × CV)) (hp' : List (Nat × Option AObj)), K tm' hp' (e :: tr) = some r ∧ e.i = i ∧
      EV E C N base ops e (look .undef tm, look none hp) ∧ (look .undef tm', look none hp') = e.apply (look .undef tm, look none hp) ∧ (∀ e1 ∈ tr, Ind ops e1 e) ∧ ∀ d, Direct ops d i → d < i

theorem entRun_ok {o : Oper} {i : Nat} {tm : List (Nat × CV)} {hp : List (Nat × Option AObj)} {tr : List Ent} {K : List (Nat × CV) → List (Nat × Option AObj) → List Ent → Option R} (ho : ops[i]? = some o)
    (h : entRun E C N ops base o i tm hp tr K = some r) : EGoal E C N base ops tm hp tr K r i := by
  unfold entRun at h
  simp only at h
  split at h
  case h_2 => cases h
  rename_i hl hd hlt hlh
  have hdir : ∀ d, Direct ops d i → d < i := fun d hd => allLt_ok hl d ((directs_iff ho).2 hd)
  have hdst : ∀ d, o.dst = some d → d < N := fun d hd' => by
    rw [hd'] at hd
    simpa [dstOk] using hd
  have fin : ∀ {tm1 : List (Nat × CV)} {p : Option (CV × Ups)}, look .undef tm1 = look .undef tm →
      (match p with
        | some p => GuardIs ops o (look .undef tm) true ∧ Does E C o (restT (o.looksAt ops) (look .undef tm)) (restH (rnOf (o.looksAt ops) (look .undef tm) (look none hp)) (look none hp)) (base + 16 * i) p.1 p.2
        | none => GuardIs ops o (look .undef tm) false) →
      (match indAll ops tr ⟨i, o, o.looksAt ops, rnOf (o.looksAt ops) (look .undef tm) (look none hp), p⟩ with
      | true => K (putT o.dst (Ent.val ⟨i, o, o.looksAt ops, rnOf (o.looksAt ops) (look .undef tm) (look none hp), p⟩) tm1)
          (Ent.ups ⟨i, o, o.looksAt ops, rnOf (o.looksAt ops) (look .undef tm) (look none hp), p⟩ ++ hp) (⟨i, o, o.looksAt ops, rnOf (o.looksAt ops) (look .undef tm) (look none hp), p⟩ :: tr)
      | false => none) = some r → EGoal E C N base ops tm hp tr K r i := fun {tm1 p} htm hp' hk => by
    split at hk
    case h_2 => cases hk
    rename_i hia
    refine ⟨⟨i, o, o.looksAt ops, rnOf (o.looksAt ops) (look .undef tm) (look none hp), p⟩, _, _, hk, rfl, ⟨ho, rfl, rfl, hlt, hlh, hdst, ?_⟩, ?_, indAll_ok hia, hdir⟩
    · cases p <;> exact hp'
    · rw [look_putT, htm, look_app]
      rfl
  have run : ∀ {tm1 : List (Nat × CV)}, look .undef tm1 = look .undef tm → GuardIs ops o (look .undef tm) true →
      opEff E C o (restT (o.looksAt ops) (look .undef tm1)) (restH (rnOf (o.looksAt ops) (look .undef tm) (look none hp)) (look none hp)) (base + 16 * i) (fun v u =>
        (match indAll ops tr ⟨i, o, o.looksAt ops, rnOf (o.looksAt ops) (look .undef tm) (look none hp), some (v, u)⟩ with
      | true => K (putT o.dst (Ent.val ⟨i, o, o.looksAt ops, rnOf (o.looksAt ops) (look .undef tm) (look none hp), some (v, u)⟩) tm1)
          (Ent.ups ⟨i, o, o.looksAt ops, rnOf (o.looksAt ops) (look .undef tm) (look none hp), some (v, u)⟩ ++ hp) (⟨i, o, o.looksAt ops, rnOf (o.looksAt ops) (look .undef tm) (look none hp), some (v, u)⟩ :: tr)
      | false => none)) = some r → EGoal E C N base ops tm hp tr K r i := fun {tm1} htm hg hk => by
    obtain ⟨v, u, h1, h2⟩ := opEff_does hk
    rw [htm] at h2
    exact fin (p := some (v, u)) htm ⟨hg, h2⟩ h1
  split at h
  · rename_i hg
    exact run rfl (by unfold GuardIs; rw [hg]) h
  · rename_i j want hg
    split at h
    · cases h
    · rename_i t ht
      split at h
      · rename_i b hb
        have same : ∀ c, CV.one (.of .bool b) = c → look .undef ((t, c) :: tm) = look .undef tm := fun c hc => by
          rw [look_cons]
          funext k
          by_cases e : k = t
          · subst e; rw [upd_same, hb, hc]
          · rw [upd_other _ _ e]
        have gd : ∀ on, on = (b == want) → GuardIs ops o (look .undef tm) on := fun on hon => by
          unfold GuardIs; rw [hg]; exact ⟨t, ht, .inl ⟨b, hb, hon⟩⟩
        cases b <;> cases want
        · simp only [Bool.false_eq_true, if_false] at h
          exact run (same _ rfl) (gd _ rfl) h
        · simp only [Bool.false_eq_true, if_false] at h
          exact fin (p := none) (same _ rfl) (gd _ rfl) h
        · simp only [if_true] at h
          exact fin (p := none) (same _ rfl) (gd _ rfl) h
        · simp only [if_true] at h
          exact run (same _ rfl) (gd _ rfl) h
      · rename_i vs hb
        exact fin (p := none) rfl (by unfold GuardIs; rw [hg]; exact ⟨t, ht, .inr ⟨⟨vs, hb⟩, rfl⟩⟩) h
      · cases h

theorem opsRunD_ok : ∀ {os : List Oper} {i : Nat} {tm : List (Nat × CV)} {hp : List (Nat × Option AObj)} {tr : List Ent} {K : List (Nat × CV) → List (Nat × Option AObj) → Option R}, (∀ j o, os[j]? = some o → ops[i + j]? = some o) →
    opsRunD E C N ops base os i tm hp tr K = some r → ∃ (l : List Ent) (tm' : List (Nat × CV)) (hp' : List (Nat × Option AObj)), K tm' hp' = some r ∧
      Vs E C N base ops l (look .undef tm, look none hp) (look .undef tm', look none hp') ∧ l.map (·.i) = List.range' i os.length ∧ (∀ e2 ∈ l, ∀ e1 ∈ tr, Ind ops e1 e2) ∧ l.Pairwise (Ind ops) ∧
      ∀ k, i ≤ k → k < i + os.length → ∀ d, Direct ops d k → d < k
  | [], i, tm, hp, tr, K, ho, h => ⟨[], tm, hp, h, rfl, rfl, fun e he => (by cases he), List.Pairwise.nil, fun k h1 h2 => absurd h2 (by simp; omega)⟩
  | o :: os, i, tm, hp, tr, K, ho, h => by
    have h' : entRun E C N ops base o i tm hp tr (fun tm' hp' tr' => opsRunD E C N ops base os (i + 1) tm' hp' tr' K) = some r := h
    obtain ⟨e, tm1, hp1, h1, h2, h3, h4, h5, h6⟩ := entRun_ok (by simpa using ho 0 o rfl) h'
    obtain ⟨l, tm2, hp2, g1, g2, g3, g4, g5, g6⟩ := opsRunD_ok (os := os) (fun j o' hj => by
      have := ho (j + 1) o' (by simpa using hj)
      rw [show i + 1 + j = i + (j + 1) by omega]; exact this) h1
    refine ⟨e :: l, tm2, hp2, g1, ⟨h3, by rw [← h4]; exact g2⟩, by simp [h2, g3, List.range'_succ], fun e2 he2 e1 he1 => ?_, List.pairwise_cons.2 ⟨fun e2 he2 => g4 e2 he2 e (by simp), g5⟩, fun k hk1 hk2 => ?_⟩
    · rcases List.mem_cons.1 he2 with rfl | he2
      · exact h5 e1 he1
      · exact g4 e2 he2 e1 (by simp [he1])
    · by_cases hk : k = i
      · subst hk; exact h6
      · exact g6 k (by omega) (by simp at hk2; omega)
end
end
end Go.AM

set_option linter.unusedVariables false
set_option linter.unusedSimpArgs false
namespace Go.AM
noncomputable section

theorem nodup_at {os : List Nat} (hd : os.Nodup) {i j n : Nat} (h1 : os[i]? = some n) (h2 : os[j]? = some n) : i = j := by
  obtain ⟨k1, e1⟩ := List.getElem?_eq_some_iff.1 h1
  obtain ⟨k2, e2⟩ := List.getElem?_eq_some_iff.1 h2
  rcases Nat.lt_trichotomy i j with h | h | h
  · exact absurd (e1.trans e2.symm) (List.pairwise_iff_getElem.1 hd i j k1 k2 h)
  · exact h
  · exact absurd (e2.trans e1.symm) (List.pairwise_iff_getElem.1 hd j i k2 k1 h)

section
variable {R : Type} {ob : Nat → Option AObj} {os : List Nat}

def renC (ob : Nat → Option AObj) (os : List Nat) : CV → CV
  | .one l => .one (renL ob os l)
  | .agg ls => .agg (ls.map (renL ob os))
  | _ => .undef

def renO (ob : Nat → Option AObj) (os : List Nat) : Option AObj → Option AObj
  | some (.cell ls) => some (.cell (ls.map (renL ob os)))
  | o => o

theorem renLK_eq (l : LV) (K : LV → Option R) : renLK ob os l K = K (renL ob os l) := by
  unfold renLK; cases renL ob os l <;> rfl

theorem renLsK_eq : ∀ (ls : List LV) (K : List LV → Option R), renLsK ob os ls K = K (ls.map (renL ob os))
  | [], K => rfl
  | l :: ls, K => by
    show renLK ob os l (fun l' => renLsK ob os ls fun ls' => K (l' :: ls')) = _
    rw [renLK_eq, renLsK_eq ls]; rfl

theorem renCK_eq (c : CV) (K : CV → Option R) : renCK ob os c K = K (renC ob os c) := by
  cases c with
  | one l => simp only [renCK, renLK_eq, renC]
  | agg ls => simp only [renCK, renLsK_eq, renC]
  | tup _ => rfl
  | undef => rfl

theorem renOK_eq (o : Option AObj) (K : Option AObj → Option R) : renOK ob os o K = K (renO ob os o) := by
  cases o with
  | none => rfl
  | some o => cases o with
    | cell ls => simp only [renOK, renLsK_eq, renO]
    | row _ _ _ => rfl
    | shr _ _ => rfl
    | iter _ _ => rfl

theorem renTmK_eq (tm : List (Nat × CV)) : ∀ (keep : List Tmp) (K : List (Nat × CV) → Option R), renTmK ob os tm keep K = K (keep.map fun t => (t, renC ob os (look .undef tm t)))
  | [], K => rfl
  | t :: keep, K => by
    show renCK ob os (look .undef tm t) (fun c => renTmK ob os tm keep fun tm' => K ((t, c) :: tm')) = _
    rw [renCK_eq, renTmK_eq tm keep]; rfl

def hpFrom (ob : Nat → Option AObj) (os : List Nat) : List Nat → Nat → List (Nat × Option AObj)
  | [], _ => []
  | n :: rest, i => (i, renO ob os (ob n)) :: hpFrom ob os rest (i + 1)

theorem renHpK_eq : ∀ (rest : List Nat) (i : Nat) (K : List (Nat × Option AObj) → Option R), renHpK ob os rest i K = K (hpFrom ob os rest i)
  | [], i, K => rfl
  | n :: rest, i, K => by
    show renOK ob os (ob n) (fun o => renHpK ob os rest (i + 1) fun hp' => K ((i, o) :: hp')) = _
    rw [renOK_eq, renHpK_eq rest]; rfl

theorem hpFrom_length : ∀ (rest : List Nat) (i : Nat), (hpFrom ob os rest i).length = rest.length
  | [], _ => rfl
  | n :: rest, i => by simp [hpFrom, hpFrom_length rest]

theorem hpFrom_look : ∀ (rest : List Nat) (i k : Nat), look none (hpFrom ob os rest i) k = if i ≤ k then ((rest[k - i]?).bind fun n => renO ob os (ob n)) else none
  | [], i, k => by
    show none = _
    split <;> simp
  | n :: rest, i, k => by
    rw [hpFrom, look_cons]
    by_cases e : k = i
    · subst e; rw [upd_same]; simp
    · rw [upd_other _ _ e, hpFrom_look rest]
      by_cases h : i ≤ k
      · rw [if_pos h, if_pos (by omega)]
        have : k - i = (k - (i + 1)) + 1 := by omega
        rw [this]; simp
      · rw [if_neg h, if_neg (by omega)]

theorem idxGo_some {n : Nat} : ∀ {os : List Nat} {i j : Nat}, idxGo n os i = some j → i ≤ j ∧ os[j - i]? = some n
  | [], _, _, h => by simp [idxGo] at h
  | o :: os, i, j, h => by
    simp only [idxGo] at h
    split at h
    · rename_i hb
      simp only [Option.some.injEq] at h
      subst h
      have := Nat.eq_of_beq_eq_true hb
      subst this
      simp
    · obtain ⟨h1, h2⟩ := idxGo_some h
      refine ⟨by omega, ?_⟩
      have : j - i = (j - (i + 1)) + 1 := by omega
      rw [this]; simpa using h2

theorem idx_some {n j : Nat} (h : idx os n = some j) : os[j]? = some n := by
  rw [idx_eq] at h
  simpa using (idxGo_some h).2

theorem pinsB_ok : ∀ {pins : List Nat}, pinsB pins os = true → ∀ i ∈ pins, os[i]? = some i
  | [], _, i, hi => by cases hi
  | p :: pins, h, i, hi => by
    have h' : (match idx os p with
      | some j => match Nat.beq j p with
        | true => pinsB pins os
        | false => false
      | none => false) = true := h
    cases hj : idx os p with
    | none => rw [hj] at h'; cases h'
    | some j =>
      rw [hj] at h'
      simp only at h'
      cases hb : Nat.beq j p with
      | false => rw [hb] at h'; cases h'
      | true =>
        rw [hb] at h'
        have := Nat.eq_of_beq_eq_true hb
        subst this
        rcases List.mem_cons.1 hi with rfl | hi
        · exact idx_some hj
        · exact pinsB_ok h' i hi
end

section
variable {Z X : Nat → Prop} {ρ : Nat → Value} {U : Nat → Prop} {ob : Nat → Option AObj} {os : List Nat} {w : World}

def renV (ρ : Nat → Value) (os : List Nat) (i : Nat) : Value := match os[i]? with
  | some n => ρ n
  | none => undef
def renU (U : Nat → Prop) (os : List Nat) (i : Nat) : Prop := ∃ n, os[i]? = some n ∧ U n
def renOb (ob : Nat → Option AObj) (os : List Nat) (i : Nat) : Option AObj := (os[i]?).bind fun n => renO ob os (ob n)

theorem renV_at {i n : Nat} (h : os[i]? = some n) : renV ρ os i = ρ n := by simp [renV, h]

theorem renOb_some {i : Nat} {o : AObj} (h : renOb ob os i = some o) : ∃ n o', os[i]? = some n ∧ ob n = some o' ∧ renO ob os (some o') = some o := by
  unfold renOb at h
  cases hi : os[i]? with
  | none => rw [hi] at h; cases h
  | some n =>
    rw [hi] at h
    simp only [Option.bind_some] at h
    cases ho : ob n with
    | none => rw [ho] at h; cases h
    | some o' => rw [ho] at h; exact ⟨n, o', rfl, ho, h⟩

theorem renO_owned {o o' : AObj} (h : renO ob os (some o') = some o) : o.owned = o'.owned := by
  cases o' <;> simp only [renO, Option.some.injEq] at h <;> subst h <;> rfl

theorem ren_local {b : Nat} (h : Local (renV ρ os) (renOb ob os) b) : Local ρ ob b := by
  obtain ⟨i, o, h1, h2, h3⟩ := h
  obtain ⟨n, o', h4, h5, h6⟩ := renOb_some h1
  exact ⟨n, o', h5, (renO_owned h6) ▸ h2, by rw [renV_at h4] at h3; exact h3⟩

theorem ren_own {b : Nat} (h : Own (renV ρ os) (renOb ob os) X b) : Own ρ ob X b := h.imp id ren_local

theorem renL_rep (H : Hp Z ρ U ob w X) {l : LV} {v : Value} (h : LRep ρ U w (Own ρ ob X) l v) : LRep (renV ρ os) (renU U os) w (Own (renV ρ os) (renOb ob os) X) (renL ob os l) v := by
  cases l with
  | of κ x => exact Rep.less (fun b => ren_own) (show Rep w _ κ x [v] from h)
  | raw u => exact h
  | any => trivial
  | ptr n off =>
    obtain ⟨h1, b, h2, h3⟩ := h
    simp only [renL]
    split
    · rename_i i hi
      have hi := idx_some hi
      exact ⟨⟨n, hi, h1⟩, b, by rw [renV_at hi]; exact h2, h3⟩
    · trivial
  | rptr n j sz =>
    obtain ⟨h1, g, len, cap, h2, h3⟩ := h
    simp only [renL]
    split
    · rename_i i hi
      have hi := idx_some hi
      exact ⟨⟨n, hi, h1⟩, g, len, cap, by rw [renV_at hi]; exact h2, h3⟩
    · trivial
  | view n =>
    obtain ⟨h1, h2⟩ := h
    subst h2
    simp only [renL]
    split
    · rename_i e l hn
      exact Rep.less (fun b => ren_own) (show Rep w _ (.list e) l [ρ n] from H.objs n _ hn)
    · split
      · rename_i i hi
        have hi := idx_some hi
        exact ⟨⟨n, hi, h1⟩, (renV_at hi).symm⟩
      · trivial

theorem renLs_rep (H : Hp Z ρ U ob w X) : ∀ {ls : List LV} {vs : List Value}, LReps ρ U w (Own ρ ob X) ls vs → LReps (renV ρ os) (renU U os) w (Own (renV ρ os) (renOb ob os) X) (ls.map (renL ob os)) vs
  | [], _, h => h
  | l :: ls, vs, h => by
    obtain ⟨v, vs', h1, h2, h3⟩ := h
    exact ⟨v, vs', h1, renL_rep H h2, renLs_rep H h3⟩

theorem renC_rep (H : Hp Z ρ U ob w X) {c : CV} {v : Value} (h : CRep ρ U w (Own ρ ob X) c v) : CRep (renV ρ os) (renU U os) w (Own (renV ρ os) (renOb ob os) X) (renC ob os c) v := by
  cases c with
  | one l => simp only [CRep, renC] at h ⊢; exact renL_rep H h
  | agg ls =>
    simp only [CRep, renC] at h ⊢
    obtain ⟨vs, h1, h2⟩ := h
    exact ⟨vs, h1, renLs_rep H h2⟩
  | tup cs => simp [CRep, renC]
  | undef => simp [CRep, renC]

theorem ren_hp (H : Hp Z ρ U ob w X) (hd : os.Nodup) : Hp Z (renV ρ os) (renU U os) (renOb ob os) w X := by
  refine ⟨fun i o hi => ?_, fun i j o o' g hi hj ho ho' hb hb' => ?_, fun i o hi => ?_, H.xlt, fun b hb => H.apart b (ren_local hb), fun b hb => H.ours b (ren_local hb), H.znew, fun i hi => ?_⟩
  · obtain ⟨n, o', h1, h2, h3⟩ := renOb_some hi
    exact ⟨n, h1, H.used _ _ h2⟩
  · obtain ⟨n, o1, h1, h2, h3⟩ := renOb_some hi
    obtain ⟨n', o2, h4, h5, h6⟩ := renOb_some hj
    rw [renV_at h1] at hb
    rw [renV_at h4] at hb'
    have := H.inj n n' o1 o2 g h2 h5 ((renO_owned h3) ▸ ho) ((renO_owned h6) ▸ ho') hb hb'
    subst this
    exact nodup_at hd h1 h4
  · obtain ⟨n, o', h1, h2, h3⟩ := renOb_some hi
    have hr := H.objs n _ h2
    rw [renV_at h1]
    cases o' with
    | cell ls =>
      simp only [renO, Option.some.injEq] at h3
      subst h3
      obtain ⟨b, t, vs, g1, g2, g3⟩ := hr
      exact ⟨b, t, vs, g1, g2, renLs_rep H g3⟩
    | row e κ l =>
      simp only [renO, Option.some.injEq] at h3
      subst h3
      obtain ⟨vs, g1, g2⟩ := hr
      exact ⟨vs, g1, Elems.less (fun b => ren_own) g2⟩
    | iter s pos =>
      simp only [renO, Option.some.injEq] at h3
      subst h3
      exact hr
    | shr κ l =>
      simp only [renO, Option.some.injEq] at h3
      subst h3
      exact Rep.less (fun b => ren_own) (show Rep w _ (.list κ) l [ρ n] from hr)
  · obtain ⟨n, h1, h2⟩ := hi
    rw [renV_at h1]; exact H.plain n h2
end
end
end Go.AM

set_option linter.unusedVariables false
set_option linter.unusedSimpArgs false
namespace Go.AM

section
variable {P : Program} {E : Env} {R : Type} {N : Nat} {X Z : Nat → Prop} {ρ0 : Nat → Value} {w0 : World} {pins : List Nat}

/-- what holds from the function's start on; ρ0: the cells handed in; w0: the memory at the start -/
def Inv (N : Nat) (X Z : Nat → Prop) (ρ0 : Nat → Value) (w0 : World) (pins : List Nat) (s : St) (a : Act) (w : World) : Prop :=
  ∃ ρ U, Hp Z ρ U (look none s.hp) w X ∧ TmOk ρ U w (Own ρ (look none s.hp) X) s.tm a ∧ a.tmps.size = N ∧ a.defers = [] ∧ (∀ n, U n → n < s.next) ∧
    (∀ i ∈ pins, U i ∧ ρ i = ρ0 i) ∧ Gr w0 w ∧ ∀ b, b < w0.heap.size → ¬ Z b → w.heap[b]? = w0.heap[b]?

def exOf : Ex → Exit
  | .normal => .normal
  | .exit n => .exit n
  | .ret => .ret

theorem look_map (f : Nat → CV) : ∀ (keep : List Nat) (t : Nat), look CV.undef (keep.map fun t => (t, f t)) t = f t ∨ look CV.undef (keep.map fun t => (t, f t)) t = .undef
  | [], _ => .inr rfl
  | k :: keep, t => by
    rw [List.map_cons, look_cons]
    by_cases e : t = k
    · subst e; rw [upd_same]; exact .inl rfl
    · rw [upd_other _ _ e]; exact look_map f keep t

theorem normK_ok {id : Nat} {keep : List Tmp} {s : St} {K : St → Option R} {r : R} {a : Act} {w : World} (h : normK id pins keep s K = some r) (hI : Inv N X Z ρ0 w0 pins s a w) :
    ∃ s', K s' = some r ∧ Inv N X Z ρ0 w0 pins s' a w := by
  obtain ⟨tm, nx, hp⟩ := s
  simp only [normK] at h
  split at h
  case h_2 => cases h
  rename_i hd hpins
  rw [renTmK_eq, renHpK_eq, hpFrom_length] at h
  refine ⟨_, h, ?_⟩
  obtain ⟨ρ, U, hH, ht, hN, hD, hU, hP, hS, hK⟩ := hI
  generalize collect pins tm (look none hp) keep = os at *
  have hd' := nodupB_ok hd
  have hob : look none (hpFrom (look none hp) os os 0) = renOb (look none hp) os := by
    funext k
    rw [hpFrom_look, if_pos (Nat.zero_le _)]; rfl
  refine ⟨renV ρ os, renU U os, ?_, fun t => ?_, hN, hD, fun i hi => ?_, fun i hi => ?_, hS, hK⟩
  · simp only [hob]; exact ren_hp hH hd'
  · simp only [hob]
    rcases look_map (fun t => renC (look none hp) os (look .undef tm t)) keep t with h1 | h1 <;> rw [h1]
    · exact renC_rep hH (ht t)
    · simp [CRep]
  · obtain ⟨n, h1, _⟩ := hi
    exact (List.getElem?_eq_some_iff.1 h1).1
  · have h1 := pinsB_ok hpins i hi
    obtain ⟨h2, h3⟩ := hP i hi
    exact ⟨⟨i, h1, h2⟩, by rw [renV_at h1]; exact h3⟩

theorem normAt_ok {c : Code} {s : St} {K : St → Option R} {r : R} {a : Act} {w : World} (h : normAt E pins c s K = some r) (hI : Inv N X Z ρ0 w0 pins s a w) :
    ∃ s', K s' = some r ∧ Inv N X Z ρ0 w0 pins s' a w := by
  unfold normAt at h
  split at h
  · exact ⟨s, h, hI⟩
  · split at h
    · exact ⟨s, h, hI⟩
    · exact normK_ok h hI

/-- a runner of codes is sound -/
def RunOk (P : Program) (N : Nat) (X Z : Nat → Prop) (ρ0 : Nat → Value) (w0 : World) (pins : List Nat) (run : Code → St → (Ex → St → Option R) → Option R) (c : Code) : Prop :=
  ∀ (s : St) (K : Ex → St → Option R) (r : R) (a : Act) (w : World) (Q : Exit → Act → World → Prop), run c s K = some r → Inv N X Z ρ0 w0 pins s a w →
    (∀ ex s' a' w', K ex s' = some r → Inv N X Z ρ0 w0 pins s' a' w' → Q (exOf ex) a' w') → c.wp P Q a w

theorem region_ok {C : CallT E} (hop : OpsOk P E C) {id : Nat} {ops : Array Oper} {tm : List (Nat × CV)} {nx : Nat} {hp : List (Nat × Option AObj)} {K : Ex → St → Option R} {r : R} {a : Act} {w : World} {Q : Exit → Act → World → Prop}
    (h : opsRun E C N ops ops.toList nx tm hp (fun tm' hp' nx' => K .normal ⟨tm', nx', hp'⟩) = some r) (hI : Inv N X Z ρ0 w0 pins ⟨tm, nx, hp⟩ a w)
    (hQ : ∀ ex s' a' w', K ex s' = some r → Inv N X Z ρ0 w0 pins s' a' w' → Q (exOf ex) a' w') : (Code.region id ops false).wp P Q a w := by
  obtain ⟨ρ, U, hH, ht, hN, hD, hU, hP, hS, hK⟩ := hI
  refine wp_region_list (opsRun_ok (Z := Z) hop ops.toList h hH hU ht hN fun a' w' hs => ?_)
  obtain ⟨tm', hp', m', ρ', U', h1, h2, h3, h4, h5, h6, h7⟩ := hs
  refine hQ .normal _ a' w' h1 ⟨ρ', U', h5, h6, h2, h3.trans hD, h7, fun i hi => ?_, hS.trans h4.size, fun b hb hZ => ?_⟩
  · obtain ⟨g1, g2⟩ := hP i hi
    exact ⟨h4.used i g1, (h4.same i g1).trans g2⟩
  · rw [← hK b hb hZ]
    exact h4.keep b (Nat.lt_of_lt_of_le hb hS.1) fun hl => hZ (hH.ours b hl)

theorem drawn_ok {C : CallT E} (hE : EnvOk P E) (hop : OpsOk P E C) {id : Nat} {ops : Array Oper} {tm : List (Nat × CV)} {nx : Nat} {hp : List (Nat × Option AObj)} {K : Ex → St → Option R} {r : R} {a : Act} {w : World} {Q : Exit → Act → World → Prop}
    (h : opsRunD E C N ops nx ops.toList 0 tm hp [] (fun tm' hp' => K .normal ⟨tm', nx + 16 * ops.size, hp'⟩) = some r) (hI : Inv N X Z ρ0 w0 pins ⟨tm, nx, hp⟩ a w)
    (hQ : ∀ ex s' a' w', K ex s' = some r → Inv N X Z ρ0 w0 pins s' a' w' → Q (exOf ex) a' w') : (Code.region id ops true).wp P Q a w := by
  obtain ⟨ρ, U, hH, ht, hN, hD, hU, hP, hS, hK⟩ := hI
  obtain ⟨l, tm', hp', h1, h2, h3, h4, h5, h6⟩ := opsRunD_ok (ops := ops) (fun j o hj => by simpa using hj) h
  have hlen : l.length = ops.size := by
    have := congrArg List.length h3
    simpa using this
  have hmem : ∀ j, j ∈ l.map (·.i) ↔ j < ops.size := fun j => by
    rw [h3, List.mem_range'_1]; simp
  have hdir : ∀ i d, Direct ops d i → d < i := fun i d hd => by
    have hd' := hd
    obtain ⟨o, ho, _⟩ := hd'
    have := (Array.getElem?_eq_some_iff.1 ho).1
    exact h6 i (Nat.zero_le _) (by simpa using this) d hd
  refine wp_region_any hE.mixed (any_ok (base := nx) (X := X) (Z := Z) (ρ0 := ρ0) (w0 := w0) (pins := pins) hop hdir ops.size l (look .undef tm, look none hp) (fun _ => False) _ a _ (by omega) h2 h5 ?_ ?_ (fun j hj => ?_) (by simp) (fun j hj => (hmem j).1 hj) (fun j hj => hj.elim)
    (fun i hi hn => absurd ((hmem i).2 hi) hn) (fun dn' a' w' hI' hdn => ?_) (fun j hj => hj.elim))
  · rw [h3]; exact List.pairwise_lt_range'
  · have hlat : Later ρ ρ U U w { w with drawn := w.drawn + 1 } (Own ρ (look none hp) X) (Own ρ (look none hp) X) := ⟨Nat.le_refl _, fun _ _ h => h, fun _ _ _ => rfl, fun _ h => h, fun _ _ => rfl⟩
    exact ⟨ρ, U, ⟨hH.used, hH.inj, fun n o hn => ORep.later hlat (fun _ _ _ => rfl) (hH.objs n o hn), hH.xlt, hH.apart, hH.ours, hH.znew, hH.plain⟩, fun t => CRep.later hlat (ht t), hN, hD, fun n hn => .inl (hU n hn), hP, hS, hK⟩
  · have := (hmem j).2 hj
    simp [hj, this]
  · obtain ⟨ρ', U', g1, g2, g3, g4, g5, g6, g7, g8⟩ := hI'
    refine hQ .normal _ a' w' h1 ⟨ρ', U', g1, g2, g3, g4, fun n hn => ?_, g6, g7, g8⟩
    show n < nx + 16 * ops.size
    rcases g5 n hn with k1 | ⟨i, k1, k2, k3⟩
    · omega
    · have := hdn i k1
      omega

theorem step_ok {C : CallT E} (hE : EnvOk P E) (hop : OpsOk P E C) {low : Code → St → (Ex → St → Option R) → Option R}
    (hloop : ∀ b, RunOk P N X Z ρ0 w0 pins (step E pins C N low) (.loop b)) : ∀ c, RunOk P N X Z ρ0 w0 pins (step E pins C N low) c := by
  intro c
  induction c with
  | skip => intro s K r a w Q h hI hQ; exact wp_skip (hQ .normal s a w h hI)
  | region id ops dr =>
    intro s K r a w Q h hI hQ
    obtain ⟨tm, nx, hp⟩ := s
    cases dr with
    | false => exact region_ok hop h hI hQ
    | true => exact drawn_ok hE hop h hI hQ
  | seq c1 c2 ih1 ih2 =>
    intro s K r a w Q h hI hQ
    have h' : step E pins C N low c1 s (fun e s' => match e with
      | .normal => normAt E pins c2 s' fun s'' => step E pins C N low c2 s'' K
      | .exit n => K (.exit n) s'
      | .ret => K .ret s') = some r := h
    refine wp_seq (ih1 s _ r a w _ h' hI fun ex s' a' w' hk hI' => ?_)
    cases ex with
    | normal =>
      obtain ⟨s'', h1, h2⟩ := normAt_ok hk hI'
      exact ih2 s'' K r a' w' Q h1 h2 hQ
    | exit n => exact hQ (.exit n) s' a' w' hk hI'
    | ret => exact hQ .ret s' a' w' hk hI'
  | cond c x y ih1 ih2 =>
    intro s K r a w Q h hI hQ
    have h' : (match evalO s.tm c with
      | .one (.of .bool t) => if t = true then step E pins C N low x s K else step E pins C N low y s K
      | _ => none) = some r := h
    obtain ⟨ρ, U, hH, ht, hrest⟩ := hI
    have hc := evalO_rep ht c
    split at h'
    · rename_i t hv
      rw [hv] at hc
      have hb := bool_of hc
      cases t
      · exact wp_cond_false hb (ih2 s K r a w Q (by simpa using h') ⟨ρ, U, hH, ht, hrest⟩ hQ)
      · exact wp_cond_true hb (ih1 s K r a w Q (by simpa using h') ⟨ρ, U, hH, ht, hrest⟩ hQ)
    · cases h'
  | block id b ih =>
    intro s K r a w Q h hI hQ
    have h' : step E pins C N low b s (fun e s' => match e with
      | .exit n => match Nat.beq n id with
        | true => K .normal s'
        | false => K (.exit n) s'
      | .normal => K .normal s'
      | .ret => K .ret s') = some r := h
    refine wp_block (ih s _ r a w _ h' hI fun ex s' a' w' hk hI' => ?_)
    cases ex with
    | normal => exact hQ .normal s' a' w' hk hI'
    | ret => exact hQ .ret s' a' w' hk hI'
    | exit n =>
      simp only [exOf, Exit.inBlock]
      simp only at hk
      split at hk
      · rename_i he
        rw [if_pos (Nat.eq_of_beq_eq_true he)]
        exact hQ .normal s' a' w' hk hI'
      · rename_i he
        rw [if_neg (fun e => by rw [e] at he; simp at he)]
        exact hQ (.exit n) s' a' w' hk hI'
  | loop b ih => exact hloop b
  | rangeFunc f ps x y ih1 ih2 => intro s K r a w Q h; cases h
  | exit n => intro s K r a w Q h hI hQ; exact wp_exit (hQ (.exit n) s a w h hI)
  | scope b ih => intro s K r a w Q h; cases h
  | label l => intro s K r a w Q h; cases h
  | goto l => intro s K r a w Q h; cases h
  | ret => intro s K r a w Q h hI hQ; exact wp_ret (hQ .ret s a w h hI)
  | refuse s => intro s K r a w Q h; cases h

def LoopOk (P : Program) (N : Nat) (X Z : Nat → Prop) (ρ0 : Nat → Value) (w0 : World) (pins : List Nat) (run : Code → St → (Ex → St → Option R) → Option R) (k : Nat) : Prop :=
  ∀ (b : Code) (s : St) (K : Ex → St → Option R) (r : R) (a : Act) (w : World) (Q : Exit → Act → World → Prop), run (.loop b) s K = some r → Inv N X Z ρ0 w0 pins s a w →
    (∀ ex s' a' w', K ex s' = some r → Inv N X Z ρ0 w0 pins s' a' w' → Q (exOf ex) a' w') → Code.rounds P b Q k a w

theorem exec_ok {C : Nat → CallT E} (hE : EnvOk P E) (hop : ∀ k, OpsOk P E (C k)) : ∀ k, (∀ c, RunOk (R := R) P N X Z ρ0 w0 pins (exec E pins C N k) c) ∧ LoopOk (R := R) P N X Z ρ0 w0 pins (exec E pins C N k) k
  | 0 => ⟨fun c s K r a w Q h => (by cases h), fun b s K r a w Q h => (by cases h)⟩
  | k + 1 => by
    obtain ⟨ihA, ihB⟩ := exec_ok hE hop k
    have hB : LoopOk (R := R) P N X Z ρ0 w0 pins (exec E pins C N (k + 1)) (k + 1) := by
      intro b s K r a w Q h hI hQ
      have h' : exec E pins C N k b s (backK E pins b (fun s'' => exec E pins C N k (.loop b) s'' K) K) = some r := h
      rw [rounds_succ]
      refine ihA b s _ r a w _ h' hI fun ex s' a' w' hk hI' => ?_
      cases ex with
      | normal =>
        obtain ⟨s'', h1, h2⟩ := normAt_ok (K := fun s'' => exec E pins C N k (.loop b) s'' K) hk hI'
        exact ihB b s'' K r a' w' Q h1 h2 hQ
      | exit n => exact hQ (.exit n) s' a' w' hk hI'
      | ret => exact hQ .ret s' a' w' hk hI'
    refine ⟨?_, hB⟩
    have : exec (R := R) E pins C N (k + 1) = step E pins (C k) N (exec E pins C N k) := rfl
    rw [this]
    refine step_ok hE (hop k) fun b s K r a w Q h hI hQ => wp_loop_rounds (k + 1) (hB b s K r a w Q h hI hQ)
end
end Go.AM

set_option linter.unusedVariables false
set_option linter.unusedSimpArgs false
namespace Go.AM

section
variable {R : Type} {w : World} {Z : Nat → Prop}

theorem cvLs_V {ρ : Nat → Value} {U : Nat → Prop} {Y : Nat → Prop} {κ : Kind} {agg : Bool} : True := trivial

/-- what the first state says of the temporaries i, i+1, .. -/
def TmFrom (ρ : Nat → Value) (U : Nat → Prop) (w : World) (Y : Nat → Prop) (tm : List (Nat × CV)) (i : Nat) (vs : List Value) : Prop :=
  ∀ t v, (∀ j, t = i + j → j < vs.length → vs[j]? = some v) → CRep ρ U w Y (look .undef tm t) v

theorem TmFrom.cons {ρ : Nat → Value} {U : Nat → Prop} {Y : Nat → Prop} {tm : List (Nat × CV)} {i : Nat} {v : Value} {vs : List Value} {c : CV}
    (h : TmFrom ρ U w Y tm (i + 1) vs) (hc : CRep ρ U w Y c v) (hlow : True) : TmFrom ρ U w Y ((i, c) :: tm) i (v :: vs) := by
  intro t u hu
  rw [look_cons]
  by_cases e : t = i
  · subst e
    rw [upd_same]
    have := hu 0 rfl (by simp)
    simp only [List.getElem?_cons_zero, Option.some.injEq] at this
    exact this ▸ hc
  · rw [upd_other _ _ e]
    refine h t u fun j hj hlt => ?_
    have := hu (j + 1) (by omega) (by simpa using hlt)
    simpa using this

theorem startK_ok : ∀ {ps : List PM} {x : (argK ps).T} {i c m : Nat} {K : List (Nat × CV) → List (Nat × Option AObj) → Nat → Option R} {r : R} {ρ : Nat → Value} {U : Nat → Prop} {ob : Nat → Option AObj} {X : Nat → Prop}
    {vs : List Value} {cs bs : List Nat}, startK ps x i c m K = some r → Hp Z ρ U ob w X → (∀ n, m ≤ n → ¬ U n) → (∀ n, c ≤ n → n < c + nio ps → ¬ U n) → c + nio ps ≤ m →
    ArgsRep w (Own ρ ob X) ps x vs cs bs → (cs ++ bs).Nodup → (∀ b ∈ cs ++ bs, X b ∧ Z b) →
    ∃ tm hp m' ρ' U', K tm hp m' = some r ∧ m ≤ m' ∧ Hp Z ρ' U' (applyU hp ob) w (minus X (cs ++ bs)) ∧
      Ad ρ ρ' U U' ob (applyU hp ob) X (minus X (cs ++ bs)) w (fun n => rng m m' n ∨ (c ≤ n ∧ n < c + nio ps)) ∧
      TmFrom ρ' U' w (Own ρ' (applyU hp ob) (minus X (cs ++ bs))) tm i vs ∧ cs.length = nio ps ∧ vs.length = ps.length ∧
      ∀ j b, cs[j]? = some b → U' (c + j) ∧ ρ' (c + j) = .pointer (some ⟨b, 0, none⟩) := by
  intro ps
  induction ps with
  | nil =>
    intro x i c m K r ρ U ob X vs cs bs h H hU hU' hcm hr hd hX
    obtain ⟨rfl, rfl, rfl⟩ := hr
    simp only [startK] at h
    rw [List.append_nil, minus_nil]
    exact ⟨[], [], m, ρ, U, h, Nat.le_refl _, H, Ad.refl, fun t v _ => by simp [look, CRep], rfl, rfl, fun j b hj => by simp at hj⟩
  | cons p ps ih =>
    intro x i c m K r ρ U ob X vs cs bs h H hU hU' hcm hr hd hX
    cases p with
    | val κ agg =>
      obtain ⟨v, vs', bs1, bs2, rfl, rfl, hr1, hr2⟩ := hr
      rw [List.nodup_append] at hd
      obtain ⟨hd1, hd2, hd3⟩ := hd
      rw [List.nodup_append] at hd2
      obtain ⟨hd4, hd5, hd6⟩ := hd2
      simp only [startK] at h
      simp only [nio] at hU' hcm ⊢
      obtain ⟨cv, u, m1, ρ1, U1, g1, g2, g3, g4, g5⟩ := valO_ok h H hU hr1 hd4 fun b hb => hX b (by simp [hb])
      obtain ⟨tm, hp, m2, ρ2, U2, k1, k2, k3, k4, k5, k6, k7, k8⟩ := ih (x := x.2) g1 g3 (fun n hn hu => by
          rcases g4.fresh n hu with h1 | h1
          · exact hU n (by omega) h1
          · exact absurd h1.2 (by omega)) (fun n hn1 hn2 hu => by
          rcases g4.fresh n hu with h1 | h1
          · exact hU' n hn1 hn2 h1
          · exact absurd h1.1 (by omega)) (by omega) (hr2.less (g4.own g3)) (by rw [List.nodup_append]; exact ⟨hd1, hd5, fun p hp q hq e => hd3 p hp q (by simp [hq]) e⟩)
          (fun b hb => by
            have hb' : b ∈ cs ++ (bs1 ++ bs2) := by rcases List.mem_append.1 hb with h1 | h1 <;> simp [h1]
            refine ⟨⟨(hX b hb').1, fun h2 => ?_⟩, (hX b hb').2⟩
            rcases List.mem_append.1 hb with h1 | h1
            · exact hd3 b h1 b (by simp [h2]) rfl
            · exact hd6 b h2 b h1 rfl)
      have hmin : minus (minus X bs1) (cs ++ bs2) = minus X (cs ++ (bs1 ++ bs2)) := by
        funext b
        simp only [minus, List.mem_append, eq_iff_iff]
        constructor
        · rintro ⟨⟨h1, h2⟩, h3⟩
          exact ⟨h1, fun h4 => h4.elim (fun h5 => h3 (.inl h5)) fun h5 => h5.elim h2 fun h6 => h3 (.inr h6)⟩
        · rintro ⟨h1, h2⟩
          exact ⟨⟨h1, fun h3 => h2 (.inr (.inl h3))⟩, fun h3 => h3.elim (fun h4 => h2 (.inl h4)) fun h4 => h2 (.inr (.inr h4))⟩
      rw [hmin] at k3 k4 k5
      refine ⟨(i, cv) :: tm, hp ++ u, m2, ρ2, U2, k1, by omega, by rw [applyU_append]; exact k3, ?_, ?_, k6, by simp [k7], k8⟩
      · rw [applyU_append]
        refine (g4.trans k4).mono fun n hn => ?_
        rcases hn with hn | hn | hn
        · exact .inl ⟨by omega, by omega⟩
        · exact .inl ⟨by omega, by omega⟩
        · exact .inr hn
      · rw [applyU_append]
        exact TmFrom.cons k5 (CRep.later k4.later g5) trivial
    | io κ =>
      obtain ⟨b, vs', cs', t, us, bs1, bs2, rfl, rfl, rfl, hg, hr1, hr2⟩ := hr
      rw [List.cons_append, List.nodup_cons, List.nodup_append] at hd
      obtain ⟨hb, hd1, hd2, hd3⟩ := hd
      rw [List.nodup_append] at hd2
      obtain ⟨hd4, hd5, hd6⟩ := hd2
      simp only [startK] at h
      simp only [nio] at hU' hcm ⊢
      obtain ⟨ls, u, m1, ρ1, U1, g1, g2, g3, g4, g5⟩ := explodeO_ok h H hU hr1 hd4 fun b hb => hX b (by simp [hb])
      have hUc : ¬ U1 c := fun hu => by
        rcases g4.fresh c hu with h1 | h1
        · exact hU' c (Nat.le_refl _) (by omega) h1
        · exact absurd h1.1 (by omega)
      have hobc : applyU u ob c = none := by
        cases hh : applyU u ob c with
        | none => rfl
        | some o => exact absurd (g3.used c o hh) hUc
      have hbX : minus X bs1 b ∧ Z b := ⟨⟨(hX b (by simp)).1, fun hh => hb (by simp [hh])⟩, (hX b (by simp)).2⟩
      obtain ⟨g6, g7⟩ := cell_ok g3 (n := c) (t := t) hobc (.inl hUc) hbX hg g5
      have g8 := g4.trans g6
      rw [minus_append] at g6 g7 g8
      obtain ⟨tm, hp, m2, ρ2, U2, k1, k2, k3, k4, k5, k6, k7, k8⟩ := ih (x := x.2) (i := i + 1) (c := c + 1) g1 g7 (fun n hn hu => by
          rcases hu with hu | hu
          · rcases g4.fresh n hu with h1 | h1
            · exact hU n (by omega) h1
            · exact absurd h1.2 (by omega)
          · omega) (fun n hn1 hn2 hu => by
          rcases hu with hu | hu
          · rcases g4.fresh n hu with h1 | h1
            · exact hU' n (by omega) (by omega) h1
            · exact absurd h1.1 (by omega)
          · omega) (by omega) (hr2.less (g8.own g7)) (by rw [List.nodup_append]; exact ⟨hd1, hd5, fun p hp q hq e => hd3 p hp q (by simp [hq]) e⟩)
          (fun d hd0 => by
            have hd' : d ∈ b :: cs' ++ (bs1 ++ bs2) := by rcases List.mem_append.1 hd0 with h1 | h1 <;> simp [h1]
            refine ⟨⟨(hX d hd').1, fun h2 => ?_⟩, (hX d hd').2⟩
            rcases List.mem_append.1 h2 with h2 | h2
            · rcases List.mem_append.1 hd0 with h1 | h1
              · exact hd3 d h1 d (by simp [h2]) rfl
              · exact hd6 d h2 d h1 rfl
            · simp only [List.mem_singleton] at h2
              subst h2
              rcases List.mem_append.1 hd0 with h1 | h1
              · exact hb (by simp [h1])
              · exact hb (by simp [h1]))
      have hmin : minus (minus X (bs1 ++ [b])) (cs' ++ bs2) = minus X (b :: cs' ++ (bs1 ++ bs2)) := by
        funext d
        simp only [minus, List.mem_append, List.mem_cons, List.not_mem_nil, or_false, eq_iff_iff, List.cons_append]
        constructor
        · rintro ⟨⟨h1, h2⟩, h3⟩
          exact ⟨h1, fun h4 => by
            rcases h4 with h4 | h4 | h4 | h4
            · exact h2 (.inr h4)
            · exact h3 (.inl h4)
            · exact h2 (.inl h4)
            · exact h3 (.inr h4)⟩
        · rintro ⟨h1, h2⟩
          exact ⟨⟨h1, fun h3 => h3.elim (fun h4 => h2 (.inr (.inr (.inl h4)))) fun h4 => h2 (.inl h4)⟩, fun h3 => h3.elim (fun h4 => h2 (.inr (.inl h4))) fun h4 => h2 (.inr (.inr (.inr h4)))⟩
      have happ : applyU (hp ++ ((c, some (.cell ls)) :: u)) ob = applyU hp (upd (applyU u ob) c (some (.cell ls))) := by rw [applyU_append]; rfl
      rw [hmin] at k3 k4 k5
      refine ⟨(i, .one (.ptr c 0)) :: tm, hp ++ ((c, some (.cell ls)) :: u), m2, ρ2, U2, k1, by omega, by rw [happ]; exact k3, ?_, ?_, by simp [k6], by simp [k7], fun j d hj => ?_⟩
      · rw [happ]
        refine (g8.trans k4).mono fun n hn => ?_
        rcases hn with (hn | rfl) | hn | hn
        · exact .inl ⟨by omega, by omega⟩
        · exact .inr ⟨by omega, by omega⟩
        · exact .inl ⟨by omega, by omega⟩
        · exact .inr ⟨by omega, by omega⟩
      · rw [happ]
        refine TmFrom.cons k5 ?_ trivial
        simp only [CRep, LRep]
        have hUc' := k4.later.used c (.inr rfl)
        have hsame := k4.later.same c (.inr rfl)
        rw [upd_same] at hsame
        exact ⟨hUc', b, hsame, rfl⟩
      · cases j with
        | zero =>
          simp only [List.getElem?_cons_zero, Option.some.injEq] at hj
          subst hj
          have hUc' := k4.later.used c (.inr rfl)
          have hsame := k4.later.same c (.inr rfl)
          rw [upd_same] at hsame
          exact ⟨hUc', hsame⟩
        | succ j =>
          simp only [List.getElem?_cons_succ] at hj
          have := k8 j d hj
          rw [show c + 1 + j = c + (j + 1) by omega] at this
          exact this
end
end Go.AM

set_option linter.unusedVariables false
set_option linter.unusedSimpArgs false
namespace Go.AM

def varRun (tmps : Array Value) : ResultVar → Sem Value
  | .tmp t => pure (tmps.getD t undef)
  | .cell a t => do loadVar t (← asAddr (tmps.getD a undef))

section
variable {P : Program} {E : Env} {R : Type} {ρ : Nat → Value} {U : Nat → Prop} {w : World} {X Z Y : Nat → Prop} {a : Act} {s : St} {ob ob1 : Nat → Option AObj}

theorem run_results (fn : Func) (tmps : Array Value) (vals : List Value) (h : (fn.results.toList.mapM (varRun tmps)).run P w = .ok vals w) :
    (results fn tmps).run P w = .ok (tupV vals) w := by
  have e : results fn tmps = (do
      let vs ← fn.results.mapM (varRun tmps)
      pure (if h : vs.size = 1 then vs[0] else .tuple vs)) := by
    unfold results
    congr 1
  rw [e, Array.mapM_eq_mapM_toList]
  simp only [Sem.run_bind, map_eq_pure_bind, h, Result.andThen_ok, Sem.run_pure]
  cases vals with
  | nil => rfl
  | cons v vals =>
    cases vals with
    | nil => rfl
    | cons v' vals => simp [tupV]

theorem run_mapM_cons (v : ResultVar) (l : List ResultVar) (tmps : Array Value) (x : Value) (xs : List Value) (h : (varRun tmps v).run P w = .ok x w) (hs : (l.mapM (varRun tmps)).run P w = .ok xs w) :
    ((v :: l).mapM (varRun tmps)).run P w = .ok (x :: xs) w := by
  simp [List.mapM_cons, Sem.run_bind, h, hs]

theorem resultCV_ok (hE : EnvOk P E) {v : ResultVar} {c : CV} (h : resultCV E s v = some c) (hs : Sharing (look none s.hp) ob1) (H : Hp Z ρ U ob1 w X) (ht : TmOk ρ U w (Own ρ ob1 X) s.tm a) :
    ∃ x, (varRun a.tmps v).run P w = .ok x w ∧ CRep ρ U w (Own ρ ob1 X) c x := by
  cases v with
  | tmp t =>
    simp only [resultCV, Option.some.injEq] at h
    subst h
    exact ⟨_, rfl, ht t⟩
  | cell u t =>
    simp only [resultCV] at h
    split at h
    case h_2 => cases h
    rename_i n off q hv hq
    split at h
    case h_2 => cases h
    rename_i ls hn
    have hx := ht u
    rw [hv] at hx
    simp only [CRep, LRep] at hx
    obtain ⟨_, b, hb, hval⟩ := hx
    obtain ⟨b', t', vs, hb', hg, hr⟩ := H.objs n _ (hs.cell hn)
    rw [hb] at hb'
    simp only [Value.pointer.injEq, Option.some.injEq, Addr.mk.injEq, and_true] at hb'
    subst hb'
    obtain ⟨h1, h2, i, h3, h4, _⟩ := hE.tr t q hq
    have hcell : ∀ j, w.cell? ⟨b, j, none⟩ = vs[j]? := fun j => by simp [World.cell?, hg]
    have fin : ∀ x, (Instr.loadAt t (.pointer (some ⟨b, off, none⟩))).run P w = .ok x w → (varRun a.tmps (.cell u t)).run P w = .ok x w := fun x hx => by
      simp only [varRun]
      rw [hval]
      simpa [Instr.loadAt, Instr.sureAddr, asAddr] using hx
    rcases part_rep hr h with ⟨hq', hlen, hcr⟩ | ⟨hq', v, hv', hcr⟩
    · refine ⟨_, fin _ ?_, hcr⟩
      have := run_loadAt_mid (P := P) w b off t ((vs.drop off).take q.size) q.d (fun j v hj => by
        rw [hcell]
        rw [List.getElem?_take] at hj
        split at hj
        · simpa using hj
        · cases hj) h1 (by rw [← h2, hq']) (by simp [h3, h4, hlen])
      exact this
    · exact ⟨v, fin _ (run_loadAt_one (P := P) w b off t q.d v h1 (by rw [← h2, hq']) (by rw [hcell, hv'])), hcr⟩

def ResS (ρ : Nat → Value) (ob : Nat → Option AObj) (w : World) (Y : Nat → Prop) : (rs : List (Kind × Bool)) → (resK rs).T → List Value → List Nat → Prop
  | [], _, vs, ns => vs = [] ∧ ns = []
  | p :: rs, x, vs, ns => ∃ v vs' ns1 ns2, vs = v :: vs' ∧ ns = ns1 ++ ns2 ∧ SVRep ρ ob w Y p.1 p.2 x.1 v ns1 ∧ ResS ρ ob w Y rs x.2 vs' ns2

def OutS (ρ : Nat → Value) (ob : Nat → Option AObj) (w : World) (Y : Nat → Prop) : (ps : List PM) → (outK ps).T → Nat → List Nat → Prop
  | [], _, _, ns => ns = []
  | .val _ _ :: ps, x, c, ns => OutS ρ ob w Y ps x c ns
  | .io κ :: ps, x, c, ns => ∃ b t us ls ns1 ns2, ρ c = .pointer (some ⟨b, 0, none⟩) ∧ ob c = some (.cell ls) ∧ ns = ns1 ++ ns2 ∧ w.heap[b]? = some (.cells (List.toArray us) t (0, 0)) ∧ SRep ρ ob w Y κ x.1 us ns1 ∧
      OutS ρ ob w Y ps x.2 (c + 1) ns2

theorem ResS.later {ρ' : Nat → Value} {U' : Nat → Prop} {w' : World} {Y Y' : Nat → Prop} (h : Later ρ ρ' U U' w w' Y Y') (hu : ∀ n o, ob n = some o → U n) : ∀ {rs : List (Kind × Bool)} {x : (resK rs).T} {vs : List Value} {ns : List Nat},
    ResS ρ ob w Y rs x vs ns → ResS ρ' ob w' Y' rs x vs ns
  | [], _, _, _, hr => hr
  | p :: rs, x, vs, ns, hr => by
    obtain ⟨v, vs', ns1, ns2, h1, h2, h3, h4⟩ := hr
    exact ⟨v, vs', ns1, ns2, h1, h2, h3.later h hu, ResS.later h hu h4⟩

theorem ResS.rows : ∀ {rs : List (Kind × Bool)} {x : (resK rs).T} {vs : List Value} {ns : List Nat}, ResS ρ ob w Y rs x vs ns → ∀ n ∈ ns, ∃ o, ob n = some o ∧ o.owned = true
  | [], x, vs, ns, h => by
    obtain ⟨_, rfl⟩ := h
    intro n hn; cases hn
  | p :: rs, x, vs, ns, h => by
    obtain ⟨v, vs', ns1, ns2, h1, rfl, h3, h4⟩ := h
    intro n hn
    rcases List.mem_append.1 hn with hn | hn
    · exact h3.rows n hn
    · exact ResS.rows h4 n hn

theorem OutS.rows : ∀ {ps : List PM} {x : (outK ps).T} {c : Nat} {ns : List Nat}, OutS ρ ob w Y ps x c ns → (∀ n ∈ ns, ∃ o, ob n = some o ∧ o.owned = true) ∧ ∀ j, j < nio ps → ∃ ls b, ob (c + j) = some (.cell ls) ∧ ρ (c + j) = .pointer (some ⟨b, 0, none⟩)
  | [], x, c, ns, h => by
    have : ns = [] := h
    subst this
    exact ⟨fun n hn => (by cases hn), fun j hj => absurd hj (by simp [nio])⟩
  | .val κ agg :: ps, x, c, ns, h => OutS.rows (ps := ps) h
  | .io κ :: ps, x, c, ns, h => by
    obtain ⟨b, t, us, ls, ns1, ns2, h1, h2, rfl, h3, h4, h5⟩ := h
    obtain ⟨g1, g2⟩ := OutS.rows (ps := ps) h5
    refine ⟨fun n hn => ?_, fun j hj => ?_⟩
    · rcases List.mem_append.1 hn with hn | hn
      · exact SRep.rows h4 n hn
      · exact g1 n hn
    · cases j with
      | zero => exact ⟨ls, b, h2, h1⟩
      | succ j =>
        have := g2 j (by simp only [nio] at hj; omega)
        rw [show c + 1 + j = c + (j + 1) by omega] at this
        exact this

theorem ResS.res (H : Hp Z ρ U ob1 w X) : ∀ {rs : List (Kind × Bool)} {x : (resK rs).T} {vs : List Value} {ns : List Nat}, ResS ρ ob w (Own ρ ob1 X) rs x vs ns → (∀ n ∈ ns, ob1 n = ob n) →
    ResReps w (Own ρ ob1 X) rs x vs (ns.flatMap (bl ρ))
  | [], x, vs, ns, h, _ => by
    obtain ⟨rfl, rfl⟩ := h
    exact ⟨rfl, rfl⟩
  | p :: rs, x, vs, ns, h, hn => by
    obtain ⟨v, vs', ns1, ns2, rfl, rfl, h3, h4⟩ := h
    exact ⟨v, vs', _, _, rfl, List.flatMap_append, h3.grep H fun n hm => hn n (by simp [hm]), ResS.res H h4 fun n hm => hn n (by simp [hm])⟩

theorem OutS.out (H : Hp Z ρ U ob1 w X) : ∀ {ps : List PM} {x : (outK ps).T} {c : Nat} {ns cs : List Nat}, OutS ρ ob w (Own ρ ob1 X) ps x c ns → (∀ n ∈ ns, ob1 n = ob n) → cs.length = nio ps →
    (∀ j b, cs[j]? = some b → ρ (c + j) = .pointer (some ⟨b, 0, none⟩)) → OutRep w (Own ρ ob1 X) ps x cs (ns.flatMap (bl ρ))
  | [], x, c, ns, cs, h, _, hl, _ => by
    have : ns = [] := h
    subst this
    exact ⟨List.eq_nil_of_length_eq_zero hl, rfl⟩
  | .val κ agg :: ps, x, c, ns, cs, h, hn, hl, hc => OutS.out (ps := ps) H h hn hl hc
  | .io κ :: ps, x, c, ns, cs, h, hn, hl, hc => by
    obtain ⟨b, t, us, ls, ns1, ns2, h1, h2, rfl, h3, h4, h5⟩ := h
    cases cs with
    | nil => simp [nio] at hl
    | cons b' cs =>
      have hb := hc 0 b' rfl
      rw [Nat.add_zero, h1] at hb
      simp only [Value.pointer.injEq, Option.some.injEq, Addr.mk.injEq, and_true] at hb
      subst hb
      refine ⟨b, cs, t, us, _, _, rfl, List.flatMap_append, h3, SRep.grep H h4 fun n hm => hn n (by simp [hm]), OutS.out (ps := ps) (c := c + 1) H h5 (fun n hm => hn n (by simp [hm])) (by simpa [nio] using hl) fun j d hj => ?_⟩
      have := hc (j + 1) d (by simpa using hj)
      rw [show c + 1 + j = c + (j + 1) by omega]
      exact this

theorem resK'_ok (hE : EnvOk P E) : ∀ {l : List ResultVar} {rs : List (Kind × Bool)} {K : (resK rs).T → List (Nat × Option AObj) → List Nat → Option R} {r : R} {ob1 : Nat → Option AObj},
    resK' E s l rs K = some r → Sharing (look none s.hp) ob1 → Hp Z ρ U ob1 w X → TmOk ρ U w (Own ρ ob1 X) s.tm a → (∀ n o, look none s.hp n = some o → U n) →
    ∃ x u ns vals, K x u ns = some r ∧ (l.mapM (varRun a.tmps)).run P w = .ok vals w ∧ Sharing (look none s.hp) (applyU u ob1) ∧ Nx ρ ρ U U ob1 (applyU u ob1) w w ∧ Hp Z ρ U (applyU u ob1) w X ∧
      ResS ρ (look none s.hp) w (Own ρ (applyU u ob1) X) rs x vals ns := by
  intro l
  induction l with
  | nil =>
    intro rs K r ob1 h hs H ht hu
    cases rs with
    | nil => simp only [resK'] at h; exact ⟨(), [], [], [], h, rfl, hs, Nx.refl, H, rfl, rfl⟩
    | cons p rs => simp [resK'] at h
  | cons v l ih =>
    intro rs K r ob1 h hs H ht hu
    cases rs with
    | nil => simp [resK'] at h
    | cons p rs =>
      simp only [resK'] at h
      split at h
      case h_2 => cases h
      rename_i c hc
      obtain ⟨x0, hrun, hrep⟩ := resultCV_ok hE hc hs H ht
      obtain ⟨x, u, ns, h1, h2, h3, h4, h5⟩ := shareCVO_ok hu h hs H hrep
      obtain ⟨xs, u', ns', vals, g1, g2, g3, g4, g5, g6⟩ := ih h1 h2 h4 (ht.later h3.later) hu
      refine ⟨(x, xs), u' ++ u, ns ++ ns', x0 :: vals, g1, run_mapM_cons _ _ _ _ _ hrun g2, ?_, ?_, ?_, ?_⟩
      · rw [applyU_append]; exact g3
      · rw [applyU_append]; exact h3.trans g4
      · rw [applyU_append]; exact g5
      · rw [applyU_append]; exact ⟨x0, vals, ns, ns', rfl, rfl, h5.later g4.later hu, g6⟩

theorem outK'_ok : ∀ {ps : List PM} {c : Nat} {K : (outK ps).T → List (Nat × Option AObj) → List Nat → Option R} {r : R} {ob1 : Nat → Option AObj},
    outK' s ps c K = some r → Sharing (look none s.hp) ob1 → Hp Z ρ U ob1 w X → (∀ n o, look none s.hp n = some o → U n) →
    ∃ x u ns, K x u ns = some r ∧ Sharing (look none s.hp) (applyU u ob1) ∧ Nx ρ ρ U U ob1 (applyU u ob1) w w ∧ Hp Z ρ U (applyU u ob1) w X ∧
      OutS ρ (look none s.hp) w (Own ρ (applyU u ob1) X) ps x c ns := by
  intro ps
  induction ps with
  | nil =>
    intro c K r ob1 h hs H hu
    simp only [outK'] at h
    exact ⟨(), [], [], h, hs, Nx.refl, H, rfl⟩
  | cons p ps ih =>
    intro c K r ob1 h hs H hu
    cases p with
    | val κ agg => exact ih (by simpa only [outK'] using h) hs H hu
    | io κ =>
      simp only [outK'] at h
      split at h
      case h_2 => cases h
      rename_i ls hc
      have hc1 := hs.cell hc
      obtain ⟨b, t, us, hb, hg, hl⟩ := H.objs c _ hc1
      obtain ⟨x, ls', u, ns, vs1, vs2, h1, h2, h3, h4, h5, h6, h7⟩ := shareO_ok hu h hs H hl
      split at h1
      case h_2 => cases h1
      obtain rfl : vs2 = [] := h7
      rw [List.append_nil] at h2
      subst h2
      obtain ⟨xs, u', ns', g1, g2, g3, g4, g5⟩ := ih h1 h3 h5 hu
      refine ⟨(x, xs), u' ++ u, ns ++ ns', g1, ?_, ?_, ?_, ?_⟩
      · rw [applyU_append]; exact g2
      · rw [applyU_append]; exact h4.trans g3
      · rw [applyU_append]; exact g4
      · rw [applyU_append]; exact ⟨b, t, us, ls, ns, ns', hb, hc, rfl, hg, SRep.later g3.later hu h6, g5⟩
end
end Go.AM

set_option linter.unusedVariables false
set_option linter.unusedSimpArgs false
namespace Go.AM

theorem mem_pinsOf : ∀ {n i : Nat}, i ∈ pinsOf n ↔ i < n
  | 0, i => by simp [pinsOf]
  | n + 1, i => by
    simp only [pinsOf, List.mem_append, List.mem_singleton, mem_pinsOf (n := n)]
    omega

/-- what a function promises of one call -/
def CallOk (P : Program) (sg : Sig) (f : FuncId) (x : sg.inK.T) (r : sg.exK.T) : Prop :=
  ∀ (w : World) (X : Nat → Prop) (vs : List Value) (cs bs : List Nat), (∀ b, X b → b < w.heap.size) → (cs ++ bs).Nodup → (∀ b ∈ cs ++ bs, ¬ X b ∧ b < w.heap.size) →
    ArgsRep w (fun b => X b ∨ b ∈ cs ++ bs) sg.ps x vs cs bs →
    Calls P f vs.toArray w fun e w' => ∃ vr bs1 bs2, e = .returned (tupV vr) ∧ Gr w w' ∧ (∀ b, b < w.heap.size → b ∉ cs ++ bs → w'.heap[b]? = w.heap[b]?) ∧
      (cs ++ (bs1 ++ bs2)).Nodup ∧ (∀ b ∈ bs1 ++ bs2, b ∈ bs ∨ w.heap.size ≤ b) ∧ (∀ b ∈ bs1 ++ bs2, b < w'.heap.size) ∧
      ResReps w' (fun b => X b ∨ b ∈ cs ++ (bs1 ++ bs2)) sg.rs r.1 vr bs1 ∧ OutRep w' (fun b => X b ∨ b ∈ cs ++ (bs1 ++ bs2)) sg.ps r.2 cs bs2

theorem callsOk_iff {P : Program} {E : Env} {C : CallT E} : CallsOk P E C ↔ ∀ f x r, C f x = some r → CallOk P (E.sig f) f x r := Iff.rfl

section
variable {P : Program} {E : Env} {C : Nat → CallT E}

theorem body_ok (hE : EnvOk P E) (hop : ∀ k, OpsOk P E (C k)) {f : FuncId} {fn : Func} (hf : P.funcs[f]? = some fn) {sg : Sig} {k : Nat} {x : sg.inK.T} {r : sg.exK.T} (h : body E C fn k sg x = some r) :
    CallOk P sg f x r := by
  intro w X vs cs bs hX hnd hcb hargs
  unfold body at h
  split at h
  case h_2 => cases h
  rename_i c hc
  split at h
  case h_2 => cases h
  rename_i hle
  have hle : sg.ps.length ≤ fn.ntmps := Nat.le_of_ble_eq_true hle
  let Z : Nat → Prop := fun b => b ∈ cs ++ bs ∨ w.heap.size ≤ b
  let X0 : Nat → Prop := fun b => X b ∨ b ∈ cs ++ bs
  have hH0 : Hp Z (fun _ => undef) (fun _ => False) (fun _ => none) w X0 :=
    ⟨fun n o hn => (by cases hn), fun n m o o' g hn => (by cases hn), fun n o hn => (by cases hn), fun b hb => hb.elim (hX b) fun h1 => (hcb b h1).2,
      fun b hb => (by obtain ⟨n, o, h1, _⟩ := hb; cases h1), fun b hb => (by obtain ⟨n, o, h1, _⟩ := hb; cases h1), fun b hb => .inr hb, fun n hn => hn.elim⟩
  have hless0 : ∀ b, Own (fun _ => undef) (fun _ => none) X0 b → X b ∨ b ∈ cs ++ bs := fun b hb => by
    rcases hb with hb | ⟨n, o, h1, _⟩
    · exact hb
    · cases h1
  obtain ⟨tm, hp, m', ρ', U', h1, h2, h3, h4, h5, h6, h7, h8⟩ := startK_ok h hH0 (fun n _ hu => hu) (fun n _ _ hu => hu) (by omega) (hargs.less hless0) hnd fun b hb => ⟨.inr hb, .inl hb⟩
  have hmin : minus X0 (cs ++ bs) = X := by
    funext b
    simp only [minus, eq_iff_iff, X0]
    constructor
    · rintro ⟨h9 | h9, h10⟩
      · exact h9
      · exact absurd h9 h10
    · intro h9
      exact ⟨.inl h9, fun h10 => (hcb b h10).1 h9⟩
  rw [hmin] at h3 h4 h5
  have hlook : look none hp = applyU hp (fun _ => none) := by
    have := look_app hp []
    rw [List.append_nil] at this
    rw [this]
    congr 1
  have hI : Inv fn.ntmps X Z ρ' w (pinsOf (nio sg.ps)) ⟨tm, m', hp⟩ { tmps := vs.toArray ++ Array.replicate (fn.ntmps - vs.toArray.size) undef, defers := [] } w := by
    refine ⟨ρ', U', by simp only [hlook]; exact h3, fun t => ?_, by simp; omega, rfl, fun n hn => ?_, fun i hi => ?_, Gr.refl, fun _ _ _ => rfl⟩
    · simp only [hlook]
      refine h5 t _ fun j hj hlt => ?_
      rw [Nat.zero_add] at hj
      subst hj
      simp [Array.getD_eq_getD_getElem?, Array.getElem?_append, hlt]
    · rcases h4.fresh n hn with h9 | h9 | h9
      · exact h9.elim
      · exact h9.2
      · show n < m'
        omega
    · have := mem_pinsOf.1 hi
      have hlt : i < cs.length := by omega
      have := h8 i cs[i] (by simp [hlt])
      rw [Nat.zero_add] at this
      exact ⟨this.1, rfl⟩
  refine calls_of_wp hf hc ?_
  refine (exec_ok hE hop k).1 c ⟨tm, m', hp⟩ _ r _ w _ h1 hI fun ex s' a' w' hk hI' => ?_
  have hex : (exOf ex = .normal ∨ exOf ex = .ret) ∧ (resK' E s' fn.results.toList sg.rs fun r u ns => outK' s' sg.ps 0 fun x u' ns' => match nodupB (pinsOf (nio sg.ps) ++ (ns ++ ns')), disjB (u' ++ u) (ns ++ ns') with
    | true, true => some (r, x)
    | _, _ => none) = some r := by
    cases ex with
    | normal => exact ⟨.inl rfl, hk⟩
    | ret => exact ⟨.inr rfl, hk⟩
    | exit n => cases hk
  obtain ⟨hex, hk⟩ := hex
  obtain ⟨ρ, U, hH, ht, hN, hD, hU, hP, hS, hK⟩ := hI'
  obtain ⟨x1, u1, ns1, vals, g1, g2, g3, g4, g5, g6⟩ := resK'_ok hE hk (Sharing.refl _) hH ht hH.used
  obtain ⟨x2, u2, ns2, k1, k2, k3, k4, k5⟩ := outK'_ok g1 g3 g5 hH.used
  split at k1
  case h_2 => cases k1
  rename_i hndp hdj
  simp only [Option.some.injEq] at k1
  subst k1
  have hndpp := nodupB_ok hndp
  have hndp := (List.nodup_append.1 hndpp).2.1
  have hpin := (List.nodup_append.1 hndpp).2.2
  have happ : applyU (u2 ++ u1) (look none s'.hp) = applyU u2 (applyU u1 (look none s'.hp)) := applyU_append _ _ _
  have hsame : ∀ n ∈ ns1 ++ ns2, applyU u2 (applyU u1 (look none s'.hp)) n = look none s'.hp n := fun n hn => by rw [← happ]; exact disjB_ok hdj n hn
  have k2' := k2
  generalize applyU u2 (applyU u1 (look none s'.hp)) = obf at *
  have g6' := g6.later k3.later hH.used
  have hrow : ∀ n ∈ ns1 ++ ns2, ∃ o, look none s'.hp n = some o ∧ o.owned = true := fun n hn => by
    rcases List.mem_append.1 hn with hn | hn
    · exact g6.rows n hn
    · exact k5.rows.1 n hn
  have hobj : ∀ n ∈ ns1 ++ ns2, ∃ o, obf n = some o ∧ o.owned = true := fun n hn => by
    obtain ⟨o, h9, h10⟩ := hrow n hn
    exact ⟨_, (hsame n hn).trans h9, h10⟩
  have hρ : ∀ j b, cs[j]? = some b → ρ j = .pointer (some ⟨b, 0, none⟩) := fun j b hj => by
    have hlt : j < nio sg.ps := by have := (List.getElem?_eq_some_iff.1 hj).1; omega
    have h9 := (h8 j b hj).2
    rw [Nat.zero_add] at h9
    rw [(hP j (mem_pinsOf.2 hlt)).2, h9]
  have hcell : ∀ b ∈ cs, ∃ j ls, obf j = some (.cell ls) ∧ ρ j = .pointer (some ⟨b, 0, none⟩) ∧ j ∈ pinsOf (nio sg.ps) := fun b hb => by
    obtain ⟨j, hj, e⟩ := List.mem_iff_getElem.1 hb
    have hj' : cs[j]? = some b := by rw [List.getElem?_eq_getElem hj, e]
    obtain ⟨ls, b', h9, h10⟩ := k5.rows.2 j (by omega)
    rw [Nat.zero_add] at h9 h10
    exact ⟨j, ls, k2'.cell h9, hρ j b hj', mem_pinsOf.2 (by omega)⟩
  have hbs : (ns1.flatMap (bl ρ) ++ ns2.flatMap (bl ρ)) = (ns1 ++ ns2).flatMap (bl ρ) := List.flatMap_append.symm
  have hlocal : ∀ b ∈ ns1.flatMap (bl ρ) ++ ns2.flatMap (bl ρ), ∃ n, n ∈ ns1 ++ ns2 ∧ ∃ o, obf n = some o ∧ o.owned = true ∧ blk (ρ n) = some b := fun b hb => by
    rw [hbs] at hb
    obtain ⟨n, hn, hbn⟩ := mem_flatMap_bl hb
    obtain ⟨o, h9, h10⟩ := hrow n hn
    exact ⟨n, hn, o, (hsame n hn).trans h9, h10, hbn⟩
  have hcross : ∀ b ∈ cs, ∀ b' ∈ ns1.flatMap (bl ρ) ++ ns2.flatMap (bl ρ), b ≠ b' := fun b hb b' hb' e => by
    subst e
    obtain ⟨j, ls, h9, h10, hj⟩ := hcell b hb
    obtain ⟨n, hn, o, h11, ho, h12⟩ := hlocal b hb'
    have := k4.inj j n _ _ b h9 h11 rfl ho (by rw [h10]; rfl) h12
    exact hpin j hj n hn this
  have hsub : ∀ b, (X b ∨ b ∈ cs ++ (ns1.flatMap (bl ρ) ++ ns2.flatMap (bl ρ))) → Own ρ obf X b := fun b hb => by
    rcases hb with hb | hb
    · exact .inl hb
    · rcases List.mem_append.1 hb with hb | hb
      · obtain ⟨j, ls, h9, h10, _⟩ := hcell b hb
        exact .inr ⟨j, _, h9, rfl, by rw [h10]; rfl⟩
      · obtain ⟨n, hn, o, h11, ho, h12⟩ := hlocal b hb
        exact .inr ⟨n, _, h11, ho, h12⟩
  have hpost : a'.defers = [] ∧ ∃ v, (results fn a'.tmps).run P w' = .ok v w' ∧ (∃ vr bs1 bs2, Ending.returned v = .returned (tupV vr) ∧ Gr w w' ∧
      (∀ b, b < w.heap.size → b ∉ cs ++ bs → w'.heap[b]? = w.heap[b]?) ∧ (cs ++ (bs1 ++ bs2)).Nodup ∧ (∀ b ∈ bs1 ++ bs2, b ∈ bs ∨ w.heap.size ≤ b) ∧ (∀ b ∈ bs1 ++ bs2, b < w'.heap.size) ∧
      ResReps w' (fun b => X b ∨ b ∈ cs ++ (bs1 ++ bs2)) sg.rs x1 vr bs1 ∧ OutRep w' (fun b => X b ∨ b ∈ cs ++ (bs1 ++ bs2)) sg.ps x2 cs bs2) := by
    refine ⟨hD, tupV vals, run_results fn a'.tmps vals g2, vals, ns1.flatMap (bl ρ), ns2.flatMap (bl ρ), rfl, hS, fun b hb hnot => hK b hb fun hz => hz.elim hnot fun h9 => by omega, ?_, fun b hb => ?_, fun b hb => ?_, ?_, ?_⟩
    · rw [List.nodup_append]
      rw [List.nodup_append] at hnd
      refine ⟨hnd.1, ?_, hcross⟩
      rw [hbs]
      exact flatMap_bl_nodup k4 hndp hobj
    · obtain ⟨n, hn, o, h11, ho, h12⟩ := hlocal b hb
      rcases k4.ours b ⟨n, _, h11, ho, h12⟩ with h13 | h13
      · rcases List.mem_append.1 h13 with h13 | h13
        · exact absurd rfl (hcross b h13 b hb)
        · exact .inl h13
      · exact .inr h13
    · obtain ⟨n, hn, o, h11, ho, h12⟩ := hlocal b hb
      exact (k4.objs _ _ h11).lt ho h12
    · exact (g6'.res k4 fun n hn => hsame n (by simp [hn])).less hsub
    · exact (k5.out k4 (fun n hn => hsame n (by simp [hn])) h6 (fun j b hj => by rw [Nat.zero_add]; exact hρ j b hj)).less hsub
  rcases hex with hex | hex <;> rw [hex] <;> exact hpost

/-- all functions of the table are the program's -/
def TabOk (P : Program) (Fn : List (Nat × Option (Func × Hint))) : Prop := ∀ f p, look none Fn f = some p → P.funcs[f]? = some p.1

theorem callD_ok (hE : EnvOk P E) (hops : ∀ (h : Hint) (C : CallT E), CallsOk P E C → OpsOk P (E.under h) C) {Fn : List (Nat × Option (Func × Hint))} (hF : TabOk P Fn) {G : CallT E} (hG : CallsOk P E G) :
    ∀ d k, CallsOk P E (callD E Fn G d k)
  | 0, k => fun f x r h => (by cases h)
  | d + 1, k => by
    intro f x r h
    have h' : (match look none Fn f with
      | some p => body (E.under p.2) (callD E Fn G d) p.1 k (E.sig f) x
      | none => G f x) = some r := h
    split at h'
    · rename_i p hp
      have hE' : EnvOk P (E.under p.2) := ⟨hE.mixed, hE.eqs, hE.known, hE.tr, hE.int, hE.row⟩
      exact body_ok (E := E.under p.2) (C := callD E Fn G d) hE' (fun k => hops p.2 _ (callD_ok hE hops hF hG d k)) (hF f p hp) h'
    · exact hG f x r h'
end
end Go.AM
namespace Go.AM
section
variable {P : Program} {E : Env}

theorem ops_ok {C : CallT E} (hE : EnvOk P E) (hC : CallsOk P E C) : OpsOk P E C := fun R o tm hp m K r X Z ρ U w a Q hH hm ht h => op_ok hE hC hH hm ht h

/-- THE MACHINE IS SOUND -/
theorem callD_sound (hE : EnvOk P E) {Fn : List (Nat × Option (Func × Hint))} (hF : TabOk P Fn) {G : CallT E} (hG : CallsOk P E G) (d k : Nat) : CallsOk P E (callD E Fn G d k) :=
  callD_ok hE (fun h C hC => ops_ok (E := E.under h) ⟨hE.mixed, hE.eqs, hE.known, hE.tr, hE.int, hE.row⟩ hC) hF hG d k
#print axioms callD_sound
end
end Go.AM

set_option linter.unusedVariables false
set_option linter.unusedSimpArgs false
namespace Go.AM
noncomputable section

/-! ### the machine without fuel -/

def Ev (p : Nat → Prop) : Prop := ∃ n0, ∀ n, n0 ≤ n → p n
def Tends (g : Nat → Nat) : Prop := ∀ B, Ev fun n => B ≤ g n

theorem Ev.mono {p q : Nat → Prop} (h : Ev p) (hq : ∀ n, p n → q n) : Ev q := let ⟨n0, h0⟩ := h; ⟨n0, fun n hn => hq n (h0 n hn)⟩
theorem Ev.and {p q : Nat → Prop} (h : Ev p) (h' : Ev q) : Ev fun n => p n ∧ q n :=
  let ⟨n0, h0⟩ := h; let ⟨n1, h1⟩ := h'; ⟨max n0 n1, fun n hn => ⟨h0 n (by omega), h1 n (by omega)⟩⟩
theorem Ev.all {p : Nat → Prop} (h : ∀ n, p n) : Ev p := ⟨0, fun n _ => h n⟩
theorem Ev.ex {p : Nat → Prop} (h : Ev p) : ∃ n, p n := let ⟨n0, h0⟩ := h; ⟨n0, h0 n0 (Nat.le_refl _)⟩
theorem Tends.id : Tends fun n => n := fun B => ⟨B, fun n hn => hn⟩
theorem Tends.pred {g : Nat → Nat} (h : Tends g) : Tends fun n => g n - 1 := fun B => (h (B + 1)).mono fun n hn => by
  show B ≤ g n - 1
  omega

structure Filt (F : (Nat → Prop) → Prop) : Prop where
  mono : ∀ {p q : Nat → Prop}, F p → (∀ n, p n → q n) → F q
  and : ∀ {p q : Nat → Prop}, F p → F q → F fun n => p n ∧ q n
  all : ∀ {p : Nat → Prop}, (∀ n, p n) → F p

theorem filtEv : Filt Ev := ⟨Ev.mono, Ev.and, Ev.all⟩
theorem filt0 : Filt (fun p => p 0) := ⟨fun h hq => hq 0 h, fun h h' => ⟨h, h'⟩, fun h => h 0⟩

section
variable {E : Env} {R : Type} {r : R}

theorem does_call_ev {F : (Nat → Prop) → Prop} (hF : Filt F) {C : CallT E} {Cn : Nat → CallT E} {o : Oper} {tm : List (Nat × CV)} {hp : List (Nat × Option AObj)} {m : Nat} {K : CV → Ups → Option R} {c : Call} (ho : o.op = .call c)
    (hC : ∀ f x r, C f x = some r → F fun n => Cn n f x = some r) (h : opEff E C o tm hp m K = some r) : ∃ v u, K v u = some r ∧ F fun n => Does E (Cn n) o tm hp m v u := by
  unfold Does
  unfold opEff at h ⊢
  simp only [ho] at h ⊢
  split at h
  · repeat' split at h
    all_goals first
      | (cases h; done)
      | (refine ⟨_, _, h, hF.all fun n R' K' => ?_⟩; simp only [*]; done)
      | (obtain ⟨l, h1, h2⟩ := lenCV_cps h; refine ⟨_, _, h1, hF.all fun n R' K' => ?_⟩; simp only [*]; done)
  · repeat' split at h
    all_goals first
      | (cases h; done)
      | (refine ⟨_, _, h, hF.all fun n R' K' => ?_⟩; simp only [*, if_true]; done)
  · obtain ⟨l, h1, h2⟩ := minMax_cps h
    exact ⟨_, _, h1, hF.all fun n R' K' => by simp only [*]⟩
  · obtain ⟨l, h1, h2⟩ := minMax_cps h
    exact ⟨_, _, h1, hF.all fun n R' K' => by simp only [*]⟩
  · split at h
    case h_2 => cases h
    split at h
    case h_2 => cases h
    obtain ⟨x, cn, ns, u, h1, h2⟩ := shareArgs_cps h
    split at h1
    case h_2 => cases h1
    obtain ⟨r', hr', h3⟩ := Option.bind_eq_some_iff.1 h1
    obtain ⟨cs, u1, m1, h4, h5⟩ := resCVs_cps h3
    obtain ⟨u2, m2, h6, h7⟩ := outCells_cps h4
    split at h6
    case h_2 => cases h6
    have hev := hC _ _ _ hr'
    clear hr' hC
    refine ⟨_, _, h6, hF.mono hev fun n hn R' K' => ?_⟩
    simp only [*, Option.bind_some]
  · cases h

theorem does_ev {F : (Nat → Prop) → Prop} (hF : Filt F) {C : CallT E} {Cn : Nat → CallT E} {o : Oper} {tm : List (Nat × CV)} {hp : List (Nat × Option AObj)} {m : Nat} {K : CV → Ups → Option R}
    (hC : ∀ f x r, C f x = some r → F fun n => Cn n f x = some r) (h : opEff E C o tm hp m K = some r) : ∃ v u, K v u = some r ∧ F fun n => Does E (Cn n) o tm hp m v u := by
  cases ho : o.op with
  | call c => exact does_call_ev hF ho hC h
  | _ =>
    obtain ⟨v, u, h1, h2⟩ := opEff_does h
    refine ⟨v, u, h1, hF.all fun n R' K' => ?_⟩
    have := h2 R' K'
    unfold opEff at this ⊢
    simp only [ho] at this ⊢
    exact this

variable {C : CallT E} {Cn : Nat → CallT E} {N : Nat} {ops : Array Oper}

theorem opEff_ev {F : (Nat → Prop) → Prop} (hF : Filt F) (hC : ∀ f x r, C f x = some r → F fun n => Cn n f x = some r) {o : Oper} {tm : List (Nat × CV)} {hp : List (Nat × Option AObj)} {m : Nat} {K : CV → Ups → Option R} {Kn : Nat → CV → Ups → Option R}
    (hK : ∀ v u, K v u = some r → F fun n => Kn n v u = some r) (h : opEff E C o tm hp m K = some r) : F fun n => opEff E (Cn n) o tm hp m (Kn n) = some r := by
  obtain ⟨v, u, h1, h2⟩ := does_ev hF hC h
  exact hF.mono (hF.and (hK v u h1) h2) fun n ⟨g1, g2⟩ => by rw [g2 R (Kn n)]; exact g1

theorem opRun_ev {F : (Nat → Prop) → Prop} (hF : Filt F) (hC : ∀ f x r, C f x = some r → F fun n => Cn n f x = some r) {o : Oper} {m : Nat} {tm : List (Nat × CV)} {hp : List (Nat × Option AObj)} {K : List (Nat × CV) → List (Nat × Option AObj) → Option R}
    {Kn : Nat → List (Nat × CV) → List (Nat × Option AObj) → Option R} (hK : ∀ tm hp, K tm hp = some r → F fun n => Kn n tm hp = some r) (h : opRun E C N ops o m tm hp K = some r) :
    F fun n => opRun E (Cn n) N ops o m tm hp (Kn n) = some r := by
  have run : ∀ {tm1 : List (Nat × CV)}, (opEff E C o tm1 hp m fun v u => match o.dst with
      | none => K tm1 (u ++ hp)
      | some d => match Nat.blt d N with
        | true => K ((d, v) :: tm1) (u ++ hp)
        | false => none) = some r → F fun n => (opEff E (Cn n) o tm1 hp m fun v u => match o.dst with
      | none => Kn n tm1 (u ++ hp)
      | some d => match Nat.blt d N with
        | true => Kn n ((d, v) :: tm1) (u ++ hp)
        | false => none) = some r := fun {tm1} hq => by
    refine opEff_ev hF hC (Kn := fun n v u => match o.dst with
      | none => Kn n tm1 (u ++ hp)
      | some d => match Nat.blt d N with
        | true => Kn n ((d, v) :: tm1) (u ++ hp)
        | false => none) (fun v u hk => ?_) hq
    split at hk
    · exact hK _ _ hk
    · split at hk
      · exact hK _ _ hk
      · cases hk
  have skip : ∀ {tm1 : List (Nat × CV)}, (match o.dst with
      | none => K tm1 hp
      | some d => match Nat.blt d N with
        | true => K ((d, .one (.raw undef)) :: tm1) hp
        | false => none) = some r → F fun n => (match o.dst with
      | none => Kn n tm1 hp
      | some d => match Nat.blt d N with
        | true => Kn n ((d, .one (.raw undef)) :: tm1) hp
        | false => none) = some r := fun {tm1} hk => by
    split at hk
    · exact hK _ _ hk
    · split at hk
      · exact hK _ _ hk
      · cases hk
  unfold opRun at h ⊢
  simp only at h ⊢
  split at h
  · exact run h
  · split at h
    · cases h
    · split at h
      · split at h
        · split at h
          · first | exact run h | (simp only [*, if_true]; exact run h)
          · first | exact skip h | (simp only [*, if_true]; exact skip h)
        · split at h
          · first | exact skip h | (simp only [*, if_false]; exact skip h)
          · first | exact run h | (simp only [*, if_false]; exact run h)
      · first | exact skip h | (simp only [*]; exact skip h)
      · cases h

theorem opsRun_ev {F : (Nat → Prop) → Prop} (hF : Filt F) (hC : ∀ f x r, C f x = some r → F fun n => Cn n f x = some r) : ∀ {os : List Oper} {m : Nat} {tm : List (Nat × CV)} {hp : List (Nat × Option AObj)} {K : List (Nat × CV) → List (Nat × Option AObj) → Nat → Option R}
    {Kn : Nat → List (Nat × CV) → List (Nat × Option AObj) → Nat → Option R}, (∀ tm hp m, K tm hp m = some r → F fun n => Kn n tm hp m = some r) → opsRun E C N ops os m tm hp K = some r →
    F fun n => opsRun E (Cn n) N ops os m tm hp (Kn n) = some r
  | [], m, tm, hp, K, Kn, hK, h => hK _ _ _ h
  | o :: os, m, tm, hp, K, Kn, hK, h =>
    opRun_ev hF (Kn := fun n tm' hp' => opsRun E (Cn n) N ops os (m + 16) tm' hp' (Kn n)) hC (fun tm' hp' hk => opsRun_ev hF hC hK hk) h

theorem entRun_ev {F : (Nat → Prop) → Prop} (hF : Filt F) (hC : ∀ f x r, C f x = some r → F fun n => Cn n f x = some r) {base : Nat} {o : Oper} {i : Nat} {tm : List (Nat × CV)} {hp : List (Nat × Option AObj)} {tr : List Ent}
    {K : List (Nat × CV) → List (Nat × Option AObj) → List Ent → Option R} {Kn : Nat → List (Nat × CV) → List (Nat × Option AObj) → List Ent → Option R}
    (hK : ∀ tm hp tr, K tm hp tr = some r → F fun n => Kn n tm hp tr = some r) (h : entRun E C N ops base o i tm hp tr K = some r) : F fun n => entRun E (Cn n) N ops base o i tm hp tr (Kn n) = some r := by
  have fin : ∀ {tm1 : List (Nat × CV)} {p : Option (CV × Ups)}, (match indAll ops tr ⟨i, o, o.looksAt ops, rnOf (o.looksAt ops) (look .undef tm) (look none hp), p⟩ with
      | true => K (putT o.dst (Ent.val ⟨i, o, o.looksAt ops, rnOf (o.looksAt ops) (look .undef tm) (look none hp), p⟩) tm1)
          (Ent.ups ⟨i, o, o.looksAt ops, rnOf (o.looksAt ops) (look .undef tm) (look none hp), p⟩ ++ hp) (⟨i, o, o.looksAt ops, rnOf (o.looksAt ops) (look .undef tm) (look none hp), p⟩ :: tr)
      | false => none) = some r → F fun n => (match indAll ops tr ⟨i, o, o.looksAt ops, rnOf (o.looksAt ops) (look .undef tm) (look none hp), p⟩ with
      | true => Kn n (putT o.dst (Ent.val ⟨i, o, o.looksAt ops, rnOf (o.looksAt ops) (look .undef tm) (look none hp), p⟩) tm1)
          (Ent.ups ⟨i, o, o.looksAt ops, rnOf (o.looksAt ops) (look .undef tm) (look none hp), p⟩ ++ hp) (⟨i, o, o.looksAt ops, rnOf (o.looksAt ops) (look .undef tm) (look none hp), p⟩ :: tr)
      | false => none) = some r := fun {tm1 p} hk => by
    split at hk
    · exact hK _ _ _ hk
    · cases hk
  have run : ∀ {tm1 : List (Nat × CV)}, (opEff E C o (restT (o.looksAt ops) (look .undef tm1)) (restH (rnOf (o.looksAt ops) (look .undef tm) (look none hp)) (look none hp)) (base + 16 * i) fun v u =>
      match indAll ops tr ⟨i, o, o.looksAt ops, rnOf (o.looksAt ops) (look .undef tm) (look none hp), some (v, u)⟩ with
      | true => K (putT o.dst (Ent.val ⟨i, o, o.looksAt ops, rnOf (o.looksAt ops) (look .undef tm) (look none hp), some (v, u)⟩) tm1)
          (Ent.ups ⟨i, o, o.looksAt ops, rnOf (o.looksAt ops) (look .undef tm) (look none hp), some (v, u)⟩ ++ hp) (⟨i, o, o.looksAt ops, rnOf (o.looksAt ops) (look .undef tm) (look none hp), some (v, u)⟩ :: tr)
      | false => none) = some r → F fun n => (opEff E (Cn n) o (restT (o.looksAt ops) (look .undef tm1)) (restH (rnOf (o.looksAt ops) (look .undef tm) (look none hp)) (look none hp)) (base + 16 * i) fun v u =>
      match indAll ops tr ⟨i, o, o.looksAt ops, rnOf (o.looksAt ops) (look .undef tm) (look none hp), some (v, u)⟩ with
      | true => Kn n (putT o.dst (Ent.val ⟨i, o, o.looksAt ops, rnOf (o.looksAt ops) (look .undef tm) (look none hp), some (v, u)⟩) tm1)
          (Ent.ups ⟨i, o, o.looksAt ops, rnOf (o.looksAt ops) (look .undef tm) (look none hp), some (v, u)⟩ ++ hp) (⟨i, o, o.looksAt ops, rnOf (o.looksAt ops) (look .undef tm) (look none hp), some (v, u)⟩ :: tr)
      | false => none) = some r := fun {tm1} hq => opEff_ev hF hC (fun v u hk => fin hk) hq
  unfold entRun at h ⊢
  simp only at h ⊢
  split at h
  case h_2 => cases h
  split at h
  · first | exact run h | (simp only [*]; exact run h)
  · split at h
    · cases h
    · split at h
      · split at h
        · split at h
          · first | exact run h | (simp only [*, if_true]; exact run h)
          · first | exact fin h | (simp only [*, if_true]; exact fin h)
        · split at h
          · first | exact fin h | (simp only [*, if_false]; exact fin h)
          · first | exact run h | (simp only [*, if_false]; exact run h)
      · first | exact fin h | (simp only [*]; exact fin h)
      · cases h

theorem opsRunD_ev {F : (Nat → Prop) → Prop} (hF : Filt F) (hC : ∀ f x r, C f x = some r → F fun n => Cn n f x = some r) {base : Nat} : ∀ {os : List Oper} {i : Nat} {tm : List (Nat × CV)} {hp : List (Nat × Option AObj)} {tr : List Ent} {K : List (Nat × CV) → List (Nat × Option AObj) → Option R}
    {Kn : Nat → List (Nat × CV) → List (Nat × Option AObj) → Option R}, (∀ tm hp, K tm hp = some r → F fun n => Kn n tm hp = some r) → opsRunD E C N ops base os i tm hp tr K = some r →
    F fun n => opsRunD E (Cn n) N ops base os i tm hp tr (Kn n) = some r
  | [], i, tm, hp, tr, K, Kn, hK, h => hK _ _ h
  | o :: os, i, tm, hp, tr, K, Kn, hK, h =>
    entRun_ev hF (Kn := fun n tm' hp' tr' => opsRunD E (Cn n) N ops base os (i + 1) tm' hp' tr' (Kn n)) hC (fun tm' hp' tr' hk => opsRunD_ev hF hC hK hk) h

theorem normAt_ev {F : (Nat → Prop) → Prop} (hF : Filt F) {pins : List Nat} {c : Code} {s : St} {K : St → Option R} {Kn : Nat → St → Option R} (hK : ∀ s, K s = some r → F fun n => Kn n s = some r) (h : normAt E pins c s K = some r) :
    F fun n => normAt E pins c s (Kn n) = some r := by
  unfold normAt at h ⊢
  split at h
  · first | exact hK _ h | (simp only [*]; exact hK _ h)
  · split at h
    · first | exact hK _ h | (simp only [*]; exact hK _ h)
    · try simp only [*]
      obtain ⟨tm, nx, hp⟩ := s
      simp only [normK] at h ⊢
      split at h
      case h_2 => cases h
      rename_i h1 h2
      rw [renTmK_eq, renHpK_eq] at h
      simp only [h1, h2, renTmK_eq, renHpK_eq]
      exact hK _ h

theorem backK_ev {F : (Nat → Prop) → Prop} (hF : Filt F) {pins : List Nat} {b : Code} {lp : St → Option R} {lpn : Nat → St → Option R} {K : Ex → St → Option R} {Kn : Nat → Ex → St → Option R} (hl : ∀ s, lp s = some r → F fun n => lpn n s = some r)
    (hK : ∀ e s, K e s = some r → F fun n => Kn n e s = some r) : ∀ e s, backK E pins b lp K e s = some r → F fun n => backK E pins b (lpn n) (Kn n) e s = some r
  | .normal, s, h => normAt_ev hF hl h
  | .exit n, s, h => hK _ _ h
  | .ret, s, h => hK _ _ h

theorem stepI_ev {F : (Nat → Prop) → Prop} (hF : Filt F) {pins : List Nat} (hC : ∀ f x r, C f x = some r → F fun n => Cn n f x = some r) {lp : Code → St → (Ex → St → Option R) → Option R} {lpn : Nat → Code → St → (Ex → St → Option R) → Option R}
    (hl : ∀ b s K (Kn : Nat → Ex → St → Option R), (∀ e s, K e s = some r → F fun n => Kn n e s = some r) → lp b s K = some r → F fun n => lpn n b s (Kn n) = some r) (c : Code) :
    ∀ (s : St) (K : Ex → St → Option R) (Kn : Nat → Ex → St → Option R), (∀ e s, K e s = some r → F fun n => Kn n e s = some r) → stepI E pins C N lp c s K = some r →
      F fun n => stepI E pins (Cn n) N (lpn n) c s (Kn n) = some r := by
  induction c with
  | skip => intro s K Kn hK h; exact hK _ _ h
  | region id ops dr =>
    intro s K Kn hK h
    obtain ⟨tm, nx, hp⟩ := s
    cases dr with
    | false => exact opsRun_ev hF (Kn := fun n tm' hp' nx' => Kn n .normal ⟨tm', nx', hp'⟩) hC (fun tm' hp' m' hk => hK _ _ hk) h
    | true => exact opsRunD_ev hF (Kn := fun n tm' hp' => Kn n .normal ⟨tm', nx + 16 * ops.size, hp'⟩) hC (fun tm' hp' hk => hK _ _ hk) h
  | seq c1 c2 ih1 ih2 =>
    intro s K Kn hK h
    exact ih1 s _ (fun n => seqK E pins c2 (fun s K => stepI E pins (Cn n) N (lpn n) c2 s K) (Kn n)) (fun e s' hk => by
        cases e with
        | normal => exact normAt_ev hF (fun s'' h' => ih2 s'' K Kn hK h') hk
        | exit k => exact hK _ _ hk
        | ret => exact hK _ _ hk) h
  | cond c x y ih1 ih2 =>
    intro s K Kn hK h
    have h' : (match evalO s.tm c with
      | .one (.of .bool t) => if t = true then stepI E pins C N lp x s K else stepI E pins C N lp y s K
      | _ => none) = some r := h
    show F fun n => (match evalO s.tm c with
      | .one (.of .bool t) => if t = true then stepI E pins (Cn n) N (lpn n) x s (Kn n) else stepI E pins (Cn n) N (lpn n) y s (Kn n)
      | _ => none) = some r
    split at h'
    · try simp only [*]
      split at h'
      · first | exact ih1 s K Kn hK h' | (simp only [*, if_true]; exact ih1 s K Kn hK h')
      · first | exact ih2 s K Kn hK h' | (simp only [*, if_false]; exact ih2 s K Kn hK h')
    · cases h'
  | block id b ih =>
    intro s K Kn hK h
    exact ih s _ (fun n => blockK id (Kn n)) (fun e s' hk => by
        cases e with
        | normal => exact hK _ _ hk
        | ret => exact hK _ _ hk
        | exit k =>
          unfold blockK at hk ⊢
          simp only at hk ⊢
          cases hb : Nat.beq k id <;> rw [hb] at hk
          · exact hK _ _ hk
          · exact hK _ _ hk) h
  | loop b ih => intro s K Kn hK h; exact hl b s K Kn hK h
  | rangeFunc f ps x y ih1 ih2 => intro s K Kn hK h; cases h
  | exit n => intro s K Kn hK h; exact hK _ _ h
  | scope b ih => intro s K Kn hK h; cases h
  | label l => intro s K Kn hK h; cases h
  | goto l => intro s K Kn hK h; cases h
  | ret => intro s K Kn hK h; exact hK _ _ h
  | refuse s => intro s K Kn hK h; cases h

theorem exec_ev {pins : List Nat} {C : Nat → CallT E} {Cf : Nat → Nat → CallT E} (hC : ∀ k f x r, C k f x = some r → ∀ kn, Tends kn → Ev fun n => Cf n (kn n) f x = some r) : ∀ (k : Nat) (c : Code) (s : St) (K : Ex → St → Option R) (Kn : Nat → Ex → St → Option R) (kn : Nat → Nat),
    Tends kn → (∀ e s, K e s = some r → Ev fun n => Kn n e s = some r) → exec E pins C N k c s K = some r → Ev fun n => exec E pins (Cf n) N (kn n) c s (Kn n) = some r
  | 0, c, s, K, Kn, kn, hk, hK, h => (by cases h)
  | k + 1, c, s, K, Kn, kn, hk, hK, h => by
    have key := stepI_ev filtEv (pins := pins) (N := N) (C := C k) (Cn := fun n => Cf n (kn n - 1)) (lp := fun b s K => exec E pins C N k b s (backK E pins b (fun s'' => exec E pins C N k (.loop b) s'' K) K))
      (lpn := fun n b s K => exec E pins (Cf n) N (kn n - 1) b s (backK E pins b (fun s'' => exec E pins (Cf n) N (kn n - 1) (.loop b) s'' K) K))
      (fun f x r hf => hC k f x r hf _ hk.pred) (fun b s K Kn hK hb => exec_ev hC k b s _ _ _ hk.pred (backK_ev filtEv (fun s'' hs => exec_ev hC k (.loop b) s'' K Kn _ hk.pred hK hs) hK) hb) c s K Kn hK h
    refine (key.and (hk 1)).mono fun n ⟨h1, h2⟩ => ?_
    obtain ⟨k', hk'⟩ : ∃ k', kn n = k' + 1 := ⟨kn n - 1, by omega⟩
    simp only [hk', Nat.add_sub_cancel] at h1
    rw [hk']
    exact h1

theorem startK_cps : ∀ {ps : List PM} {x : (argK ps).T} {i c m : Nat} {K : List (Nat × CV) → List (Nat × Option AObj) → Nat → Option R}, startK ps x i c m K = some r →
    ∃ tm hp nx, K tm hp nx = some r ∧ ∀ (R' : Type) (K' : List (Nat × CV) → List (Nat × Option AObj) → Nat → Option R'), startK ps x i c m K' = K' tm hp nx := by
  intro ps
  induction ps with
  | nil => intro x i c m K h; exact ⟨_, _, _, h, fun R' K' => rfl⟩
  | cons p ps ih =>
    intro x i c m K h
    cases p with
    | val κ agg =>
      simp only [startK] at h
      obtain ⟨ls, u, m1, h1, h2⟩ := explodeO_cps h
      split at h1
      · rename_i cv hcv
        obtain ⟨tm, hp, nx, h3, h4⟩ := ih h1
        exact ⟨_, _, _, h3, fun R' K' => by simp only [startK, h2, hcv, h4]⟩
      · cases h1
    | io κ =>
      simp only [startK] at h
      obtain ⟨ls, u, m1, h1, h2⟩ := explodeO_cps h
      obtain ⟨tm, hp, nx, h3, h4⟩ := ih h1
      exact ⟨_, _, _, h3, fun R' K' => by simp only [startK, h2, h4]⟩
end

section
variable {E : Env} {Fn : List (Nat × Option (Func × Hint))} {G : CallT E}

theorem callD_ev : ∀ (d k : Nat) (f : FuncId) (x : (E.sig f).inK.T) (r : (E.sig f).exK.T), callD E Fn G d k f x = some r → ∀ dn kn, Tends dn → Tends kn → Ev fun n => callD E Fn G (dn n) (kn n) f x = some r
  | 0, k, f, x, r, h, dn, kn, hd, hk => (by cases h)
  | d + 1, k, f, x, r, h, dn, kn, hd, hk => by
    have h' : (match look none Fn f with
      | some p => body (E.under p.2) (callD E Fn G d) p.1 k (E.sig f) x
      | none => G f x) = some r := h
    have key : Ev fun n => (match look none Fn f with
      | some p => body (E.under p.2) (callD E Fn G (dn n - 1)) p.1 (kn n) (E.sig f) x
      | none => G f x) = some r := by
      split at h'
      · rename_i p hp
        unfold body at h'
        split at h'
        case h_2 => cases h'
        rename_i c hc
        split at h'
        case h_2 => cases h'
        rename_i hle
        obtain ⟨tm, hp', nx, h1, h2⟩ := startK_cps h'
        have e1 : ∀ n, body (E.under p.2) (callD E Fn G (dn n - 1)) p.1 (kn n) (E.sig f) x =
            exec (E.under p.2) (pinsOf (nio (E.sig f).ps)) (callD E Fn G (dn n - 1)) p.1.ntmps (kn n) c ⟨tm, nx, hp'⟩ (retK (E.under p.2) p.1 (E.sig f)) := fun n => by
          unfold body
          simp only [hc, hle]
          exact h2 _ _
        refine Ev.mono ?_ fun n hn => (e1 n).trans hn
        exact exec_ev (E := E.under p.2) (Cf := fun n => callD E Fn G (dn n - 1)) (fun k f x r hf kn' hk' => callD_ev d k f x r hf _ kn' hd.pred hk') k c _ _ (fun n => retK (E.under p.2) p.1 (E.sig f)) kn hk (fun e s h => Ev.all fun n => h) h1
      · exact Ev.all fun n => h'
    exact (key.and (hd 1)).mono fun n ⟨h1, h2⟩ => (congrArg (fun m => callD E Fn G m (kn n) f x) (show dn n = (dn n - 1) + 1 by omega)).trans h1

open Classical in
def lim {α : Type} (f : Nat → Option α) : Option α := if h : ∃ r, Ev fun n => f n = some r then some h.choose else none

theorem lim_some {α : Type} {f : Nat → Option α} {r : α} : lim f = some r ↔ Ev fun n => f n = some r := by
  unfold lim
  constructor
  · intro h
    split at h
    · rename_i he
      simp only [Option.some.injEq] at h
      rw [← h]; exact he.choose_spec
    · cases h
  · intro h
    have he : ∃ r, Ev fun n => f n = some r := ⟨r, h⟩
    rw [dif_pos he]
    obtain ⟨n, h1, h2⟩ := (he.choose_spec.and h).ex
    rw [h1] at h2
    simpa using h2

variable (E Fn G)

/-- THE FUNCTIONS, WITHOUT FUEL -/
def callI : CallT E := fun f x => lim fun n => callD E Fn G n n f x

/-- a loop of the function with the hints h -/
def loopI (h : Hint) (pins : List Nat) (N : Nat) {R : Type} (b : Code) (s : St) (K : Ex → St → Option R) : Option R := lim fun n => exec (E.under h) pins (callD E Fn G n) N n (.loop b) s K

def runI (h : Hint) (pins : List Nat) (N : Nat) {R : Type} (c : Code) (s : St) (K : Ex → St → Option R) : Option R :=
  stepI (E.under h) pins (callI E Fn G) N (fun b s K => loopI E Fn G h pins N b s K) c s K

variable {E Fn G}

theorem callI_ev {f : FuncId} {x : (E.sig f).inK.T} {r : (E.sig f).exK.T} (h : callI E Fn G f x = some r) {dn kn : Nat → Nat} (hd : Tends dn) (hk : Tends kn) : Ev fun n => callD E Fn G (dn n) (kn n) f x = some r := by
  obtain ⟨n, hn⟩ := (lim_some.1 h).ex
  exact callD_ev n n f x r hn dn kn hd hk

theorem callI_of {d k : Nat} {f : FuncId} {x : (E.sig f).inK.T} {r : (E.sig f).exK.T} (h : callD E Fn G d k f x = some r) : callI E Fn G f x = some r :=
  lim_some.2 (callD_ev d k f x r h _ _ Tends.id Tends.id)

section
variable {h : Hint} {pins : List Nat} {N : Nat} {R : Type} {r : R}

theorem exec_all {d k : Nat} {c : Code} {s : St} {K : Ex → St → Option R} {Kn : Nat → Ex → St → Option R} {dn kn : Nat → Nat} (hd : Tends dn) (hk : Tends kn) (hK : ∀ e s, K e s = some r → Ev fun n => Kn n e s = some r)
    (hx : exec (E.under h) pins (callD E Fn G d) N k c s K = some r) : Ev fun n => exec (E.under h) pins (callD E Fn G (dn n)) N (kn n) c s (Kn n) = some r :=
  exec_ev (E := E.under h) (Cf := fun n => callD E Fn G (dn n)) (fun k f x r hf kn' hk' => callD_ev d k f x r hf dn kn' hd hk') k c s K Kn kn hk hK hx

theorem loopI_ev {b : Code} {s : St} {K : Ex → St → Option R} {Kn : Nat → Ex → St → Option R} {dn kn : Nat → Nat} (hd : Tends dn) (hk : Tends kn) (hK : ∀ e s, K e s = some r → Ev fun n => Kn n e s = some r)
    (hx : loopI E Fn G h pins N b s K = some r) : Ev fun n => exec (E.under h) pins (callD E Fn G (dn n)) N (kn n) (.loop b) s (Kn n) = some r := by
  obtain ⟨n, hn⟩ := (lim_some.1 hx).ex
  exact exec_all hd hk hK hn

theorem loopI_of {d k : Nat} {b : Code} {s : St} {K K' : Ex → St → Option R} (hK : ∀ e s, K e s = some r → K' e s = some r) (hx : exec (E.under h) pins (callD E Fn G d) N k (.loop b) s K = some r) :
    loopI E Fn G h pins N b s K' = some r := lim_some.2 (exec_all Tends.id Tends.id (fun e s h => Ev.all fun n => hK e s h) hx)

/-- what runs with fuel runs without -/
theorem runI_of {d k : Nat} {c : Code} {s : St} {K K' : Ex → St → Option R} (hK : ∀ e s, K e s = some r → K' e s = some r) (hx : exec (E.under h) pins (callD E Fn G d) N k c s K = some r) :
    runI E Fn G h pins N c s K' = some r := by
  cases k with
  | zero => cases hx
  | succ k =>
    exact stepI_ev filt0 (E := E.under h) (C := callD E Fn G d k) (Cn := fun _ => callI E Fn G) (lp := fun b s K => exec (E.under h) pins (callD E Fn G d) N k b s (backK (E.under h) pins b (fun s'' => exec (E.under h) pins (callD E Fn G d) N k (.loop b) s'' K) K))
      (lpn := fun _ b s K => loopI E Fn G h pins N b s K) (fun f x r hf => callI_of hf) (fun b s K Kn hK hb => loopI_of (k := k + 1) hK hb) c s K (fun _ => K') hK hx

theorem runI_ev {c : Code} {s : St} {K : Ex → St → Option R} {Kn : Nat → Ex → St → Option R} {dn kn : Nat → Nat} (hd : Tends dn) (hk : Tends kn) (hK : ∀ e s, K e s = some r → Ev fun n => Kn n e s = some r)
    (hx : runI E Fn G h pins N c s K = some r) : Ev fun n => exec (E.under h) pins (callD E Fn G (dn n)) N (kn n) c s (Kn n) = some r := by
  have key := stepI_ev filtEv (E := E.under h) (pins := pins) (N := N) (C := callI E Fn G) (Cn := fun n => callD E Fn G (dn n) (kn n - 1)) (lp := fun b s K => loopI E Fn G h pins N b s K)
    (lpn := fun n b s K => exec (E.under h) pins (callD E Fn G (dn n)) N (kn n - 1) b s (backK (E.under h) pins b (fun s'' => exec (E.under h) pins (callD E Fn G (dn n)) N (kn n - 1) (.loop b) s'' K) K))
    (fun f x r hf => callI_ev hf hd hk.pred) (fun b s K Kn hK hb => ?_) c s K Kn hK hx
  · refine (key.and (hk 1)).mono fun n ⟨h1, h2⟩ => ?_
    obtain ⟨k', hk'⟩ : ∃ k', kn n = k' + 1 := ⟨kn n - 1, by omega⟩
    simp only [hk', Nat.add_sub_cancel] at h1
    rw [hk']
    exact h1
  · refine ((loopI_ev hd hk hK hb).and (hk 1)).mono fun n ⟨h1, h2⟩ => ?_
    obtain ⟨k', hk'⟩ : ∃ k', kn n = k' + 1 := ⟨kn n - 1, by omega⟩
    rw [hk'] at h1
    simp only [hk', Nat.add_sub_cancel]
    exact h1

/-- ONE ROUND OF A LOOP -/
theorem loopI_eq {b : Code} {s : St} {K : Ex → St → Option R} : loopI E Fn G h pins N b s K = runI E Fn G h pins N b s (backK (E.under h) pins b (fun s'' => loopI E Fn G h pins N b s'' K) K) := by
  have le : ∀ r, loopI E Fn G h pins N b s K = some r → runI E Fn G h pins N b s (backK (E.under h) pins b (fun s'' => loopI E Fn G h pins N b s'' K) K) = some r := by
    intro r hr
    obtain ⟨n, hn⟩ := (lim_some.1 hr).ex
    cases n with
    | zero => cases hn
    | succ n =>
      have hn' : exec (E.under h) pins (callD E Fn G (n + 1)) N n b s (backK (E.under h) pins b (fun s'' => exec (E.under h) pins (callD E Fn G (n + 1)) N n (.loop b) s'' K) K) = some r := hn
      exact runI_of (fun e s' h' => backK_ev filt0 (lpn := fun _ s'' => loopI E Fn G h pins N b s'' K) (Kn := fun _ => K) (fun s'' hs => loopI_of (fun _ _ h => h) hs) (fun _ _ h => h) e s' h') hn'
  have ge : ∀ r, runI E Fn G h pins N b s (backK (E.under h) pins b (fun s'' => loopI E Fn G h pins N b s'' K) K) = some r → loopI E Fn G h pins N b s K = some r := by
    intro r hr
    have key := runI_ev (dn := fun n => n) (kn := fun n => n) (Kn := fun n => backK (E.under h) pins b (fun s'' => exec (E.under h) pins (callD E Fn G n) N n (.loop b) s'' K) K) Tends.id Tends.id
      (fun e s' h' => backK_ev filtEv (fun s'' hs => loopI_ev (dn := fun n => n) (kn := fun n => n) Tends.id Tends.id (fun _ _ h => Ev.all fun _ => h) hs) (fun _ _ h => Ev.all fun _ => h) e s' h') hr
    obtain ⟨n, hn⟩ := key.ex
    exact loopI_of (d := n) (k := n + 1) (fun _ _ h => h) hn
  cases h1 : loopI E Fn G h pins N b s K with
  | some r => exact (le r h1).symm
  | none => cases h2 : runI E Fn G h pins N b s (backK (E.under h) pins b (fun s'' => loopI E Fn G h pins N b s'' K) K) with
    | none => rfl
    | some r => rw [ge r h2] at h1; cases h1
end

def bodyI (E : Env) (Fn : List (Nat × Option (Func × Hint))) (G : CallT E) (h : Hint) (fn : Func) (sg : Sig) (x : sg.inK.T) : Option sg.exK.T :=
  match fn.body with
  | some c => match Nat.ble sg.ps.length fn.ntmps with
    | true => startK sg.ps x 0 0 (nio sg.ps) fun tm hp nx => runI E Fn G h (pinsOf (nio sg.ps)) fn.ntmps c ⟨tm, nx, hp⟩ (retK (E.under h) fn sg)
    | false => none
  | none => none

/-- A FUNCTION BY ITS CODE -/
theorem callI_eq {f : FuncId} {x : (E.sig f).inK.T} : callI E Fn G f x = (match look none Fn f with
    | some p => bodyI E Fn G p.2 p.1 (E.sig f) x
    | none => G f x) := by
  have le : ∀ r, callI E Fn G f x = some r → (match look none Fn f with
    | some p => bodyI E Fn G p.2 p.1 (E.sig f) x
    | none => G f x) = some r := by
    intro r hr
    obtain ⟨n, hn⟩ := (lim_some.1 hr).ex
    cases n with
    | zero => cases hn
    | succ n =>
      have hn' : (match look none Fn f with
        | some p => body (E.under p.2) (callD E Fn G n) p.1 (n + 1) (E.sig f) x
        | none => G f x) = some r := hn
      cases hp : look none Fn f with
      | none => rw [hp] at hn'; exact hn'
      | some p =>
        rw [hp] at hn'
        replace hn' : body (E.under p.2) (callD E Fn G n) p.1 (n + 1) (E.sig f) x = some r := hn'
        show bodyI E Fn G p.2 p.1 (E.sig f) x = some r
        unfold body at hn'
        unfold bodyI
        split at hn'
        case h_2 => cases hn'
        rename_i c hc
        split at hn'
        case h_2 => cases hn'
        rename_i hle
        obtain ⟨tm, hp', nx, h1, h2⟩ := startK_cps hn'
        first
          | (rw [h2]; exact runI_of (fun _ _ h => h) h1)
          | (simp only [hc, hle]; rw [h2]; exact runI_of (fun _ _ h => h) h1)
  have ge : ∀ r, (match look none Fn f with
    | some p => bodyI E Fn G p.2 p.1 (E.sig f) x
    | none => G f x) = some r → callI E Fn G f x = some r := by
    intro r hr
    cases hp : look none Fn f with
    | none =>
      rw [hp] at hr
      refine callI_of (d := 1) (k := 0) ?_
      show (match look none Fn f with
        | some p => body (E.under p.2) (callD E Fn G 0) p.1 0 (E.sig f) x
        | none => G f x) = some r
      rw [hp]; exact hr
    | some p =>
      rw [hp] at hr
      replace hr : bodyI E Fn G p.2 p.1 (E.sig f) x = some r := hr
      unfold bodyI at hr
      split at hr
      case h_2 => cases hr
      rename_i c hc
      split at hr
      case h_2 => cases hr
      rename_i hle
      obtain ⟨tm, hp', nx, h1, h2⟩ := startK_cps hr
      obtain ⟨n, hn⟩ := (runI_ev (dn := fun n => n) (kn := fun n => n) (Kn := fun _ => retK (E.under p.2) p.1 (E.sig f)) Tends.id Tends.id (fun _ _ h => Ev.all fun _ => h) h1).ex
      refine callI_of (d := n + 1) (k := n) ?_
      show (match look none Fn f with
        | some p => body (E.under p.2) (callD E Fn G n) p.1 n (E.sig f) x
        | none => G f x) = some r
      rw [hp]
      show body (E.under p.2) (callD E Fn G n) p.1 n (E.sig f) x = some r
      unfold body
      simp only [hc, hle]
      exact (h2 _ _).trans hn
  cases h1 : callI E Fn G f x with
  | some r => exact (le r h1).symm
  | none => cases h2 : (match look none Fn f with
    | some p => bodyI E Fn G p.2 p.1 (E.sig f) x
    | none => G f x) with
    | none => rfl
    | some r => rw [ge r h2] at h1; cases h1

/-- THE MACHINE WITHOUT FUEL IS SOUND -/
theorem callI_sound {P : Program} (hE : EnvOk P E) (hF : TabOk P Fn) (hG : CallsOk P E G) : CallsOk P E (callI E Fn G) := by
  intro f x r h
  obtain ⟨n, hn⟩ := (lim_some.1 h).ex
  exact callD_sound hE hF hG n n f x r hn
#print axioms callI_sound
end
end
end Go.AM

set_option linter.unusedVariables false
namespace Go.AM
noncomputable section

/-- what goes on behind the part at the path -/
def kontI (E : Env) (Fn : List (Nat × Option (Func × Hint))) (G : CallT E) (h : Hint) (pins : List Nat) (N : Nat) {R : Type} (p : List Nat) : Code → (Ex → St → Option R) → (Ex → St → Option R) :=
  List.rec (motive := fun _ => Code → (Ex → St → Option R) → (Ex → St → Option R)) (fun _ K => K) (fun i _ ih c K => match c with
    | .seq a b => match i with
      | 0 => ih a (seqK (E.under h) pins b (fun s'' K => runI E Fn G h pins N b s'' K) K)
      | _ => ih b K
    | .cond _ a b => match i with
      | 0 => ih a K
      | _ => ih b K
    | .block id b => ih b (blockK id K)
    | .loop b => ih b (backK (E.under h) pins b (fun s'' => loopI E Fn G h pins N b s'' K) K)
    | _ => K) p

def bodyOf (fn : Func) : Code := match fn.body with
  | some c => c
  | none => .skip

/-- the part of a function at a path, from a state on -/
def goJ (E : Env) (Fn : List (Nat × Option (Func × Hint))) (G : CallT E) (h : Hint) (fn : Func) (sg : Sig) (p : List Nat) (s : St) : Option sg.exK.T :=
  runI E Fn G h (pinsOf (nio sg.ps)) fn.ntmps (sub (bodyOf fn) p) s (kontI E Fn G h (pinsOf (nio sg.ps)) fn.ntmps p (bodyOf fn) (retK (E.under h) fn sg))

def loopOf (c : Code) : Code := match c with
  | .loop b => b
  | c => c

/-- the loop of a function at a path, from a state on -/
def goL (E : Env) (Fn : List (Nat × Option (Func × Hint))) (G : CallT E) (h : Hint) (fn : Func) (sg : Sig) (p : List Nat) (s : St) : Option sg.exK.T :=
  loopI E Fn G h (pinsOf (nio sg.ps)) fn.ntmps (loopOf (sub (bodyOf fn) p)) s (kontI E Fn G h (pinsOf (nio sg.ps)) fn.ntmps p (bodyOf fn) (retK (E.under h) fn sg))

/-- the same behind a cut: so they stand in the equations -/
def partJ (E : Env) (Fn : List (Nat × Option (Func × Hint))) (G : CallT E) (h : Hint) (fn : Func) (sg : Sig) (id : Nat) (p : List Nat) (s : St) : Option sg.exK.T :=
  cut id (fun s => goJ E Fn G h fn sg p s) s

def partL (E : Env) (Fn : List (Nat × Option (Func × Hint))) (G : CallT E) (h : Hint) (fn : Func) (sg : Sig) (id : Nat) (p : List Nat) (s : St) : Option sg.exK.T :=
  cut id (fun s => goL E Fn G h fn sg p s) s

theorem partJ_go {E : Env} {Fn : List (Nat × Option (Func × Hint))} {G : CallT E} {h : Hint} {fn : Func} {sg : Sig} {id : Nat} {p : List Nat} {s : St} :
    partJ E Fn G h fn sg id p s = runI E Fn G h (pinsOf (nio sg.ps)) fn.ntmps (sub (bodyOf fn) p) s (kontI E Fn G h (pinsOf (nio sg.ps)) fn.ntmps p (bodyOf fn) (retK (E.under h) fn sg)) := rfl

theorem partL_go {E : Env} {Fn : List (Nat × Option (Func × Hint))} {G : CallT E} {h : Hint} {fn : Func} {sg : Sig} {id : Nat} {p : List Nat} {s : St} :
    partL E Fn G h fn sg id p s = loopI E Fn G h (pinsOf (nio sg.ps)) fn.ntmps (loopOf (sub (bodyOf fn) p)) s (kontI E Fn G h (pinsOf (nio sg.ps)) fn.ntmps p (bodyOf fn) (retK (E.under h) fn sg)) := rfl

theorem callI_code {E : Env} {Fn : List (Nat × Option (Func × Hint))} {G : CallT E} {f : FuncId} {x : (E.sig f).inK.T} {fn : Func} {h : Hint} (hf : look none Fn f = some (fn, h)) :
    callI E Fn G f x = bodyI E Fn G h fn (E.sig f) x := by
  rw [callI_eq, hf]
end
end Go.AM

set_option linter.unusedVariables false
set_option linter.unusedSimpArgs false
namespace Go.AM

/-! ### the tables are the program's: checked entry by entry -/

def kval : (κ : Kind) → κ.T → Option Value
  | .int k, n => some (.int k n)
  | .bool, b => some (.bool b)
  | .str, s => some (.string (strOf s))
  | _, _ => none

def zvals : List LV → Option (List Value)
  | [] => some []
  | .of κ x :: ls => match kval κ x, zvals ls with
    | some v, some vs => some (v :: vs)
    | _, _ => none
  | .raw u :: ls => match zvals ls with
    | some vs => some (u :: vs)
    | none => none
  | _ => none

def zeroV (r : TR) : Option Value := match zvals r.zero with
  | none => none
  | some vs => match r.agg with
    | true => some (.agg vs.toArray)
    | false => match vs with
      | [.agg _] => none
      | [v] => some v
      | _ => none

def zeroB (r : TR) : Bool := match zeroV r with
  | some z => (z.cells.all (·.oneCell')) && Nat.beq z.cells.size r.size
  | none => false

def TyIn (P : Program) (t : TypeId) (r : TR) : Prop :=
  P.underlying t = some r.d ∧ r.agg = r.d.isRow ∧ (P.info? t).map (fun i => (i.size, i.bytes, i.zero)) = some (r.size, r.bytes, zeroV r) ∧ zeroB r = true

def TysIn (P : Program) : List (TypeId × Option TR) → Prop
  | [] => True
  | (t, some r) :: l => TyIn P t r ∧ TysIn P l
  | (_, none) :: l => TysIn P l

def dvals : Kind → Option (List Value)
  | .int k => some [.int k 0]
  | .bool => some [.bool false]
  | .str => some [.string (strOf [])]
  | .list _ => some [.slice none 0 0]
  | .unit => some []
  | .pair a b => match dvals a, dvals b with
    | some x, some y => some (x ++ y)
    | _, _ => none
  | _ => none

def KdIn (P : Program) (ty : List (TypeId × Option TR)) (t : TypeId) : Kind → Prop
  | .int k => P.underlying t = some (.int k)
  | .list e => match look none ty t with
    | some q => match q.d with
      | .slice te => ∃ vs, dvals e = some vs ∧ (P.info? te).map (fun i => i.zero.map (·.cells.toList)) = some (some vs)
      | _ => True
    | none => True
  | _ => True

def KdsIn (P : Program) (ty : List (TypeId × Option TR)) : List (TypeId × Option Kind) → Prop
  | [] => True
  | (t, some κ) :: l => KdIn P ty t κ ∧ KdsIn P ty l
  | (_, none) :: l => KdsIn P ty l

def EqsIn (P : Program) : List (TypeId × Bool) → Prop
  | [] => True
  | (t, true) :: l => (P.stoodInHeld t = false ∧ P.eqGuardType P.depth t = false ∧ (match P.underlying t with
      | some (.struct fs) => fs.toList.all (fun f => f.name != "_")
      | _ => true) = true) ∧ EqsIn P l
  | (_, false) :: l => EqsIn P l

def KnownIn (P : Program) : List (FuncId × Bool) → Prop
  | [] => True
  | (f, true) :: l => (P.funcs[f]?).map (fun fn => (fn.body.isSome, fn.name != "runtime.NumGoroutine")) = some (true, true) ∧ KnownIn P l
  | (_, false) :: l => KnownIn P l

def FnIn (P : Program) : List (Nat × Option (Func × Hint)) → Prop
  | [] => True
  | (f, some p) :: l => P.funcs[f]? = some p.1 ∧ FnIn P l
  | (_, none) :: l => FnIn P l

theorem look_nil {α : Type} (d : α) (t : Nat) : look d [] t = d := rfl

theorem look_hd {α : Type} (d : α) (n : Nat) (x : α) (l : List (Nat × α)) (t : Nat) : look d ((n, x) :: l) t = if n = t then x else look d l t := by
  rw [look_cons]
  unfold upd
  by_cases h : t = n
  · simp [h]
  · have h2 : ¬ n = t := fun e => h e.symm
    simp [h, h2]

theorem TysIn.of {P : Program} : ∀ {l : List (TypeId × Option TR)}, TysIn P l → ∀ t r, look none l t = some r → TyIn P t r
  | [], _, t, r, h => by cases h
  | (n, none) :: l, hl, t, r, h => by
    rw [look_hd] at h
    split at h
    · cases h
    · exact TysIn.of (l := l) hl t r h
  | (n, some q) :: l, hl, t, r, h => by
    rw [look_hd] at h
    split at h
    · rename_i e
      cases h
      subst e
      exact hl.1
    · exact TysIn.of (l := l) hl.2 t r h

theorem KdsIn.of {P : Program} {ty : List (TypeId × Option TR)} : ∀ {l : List (TypeId × Option Kind)}, KdsIn P ty l → ∀ t r, look none l t = some r → KdIn P ty t r
  | [], _, t, r, h => by cases h
  | (n, none) :: l, hl, t, r, h => by
    rw [look_hd] at h
    split at h
    · cases h
    · exact KdsIn.of (l := l) hl t r h
  | (n, some q) :: l, hl, t, r, h => by
    rw [look_hd] at h
    split at h
    · rename_i e
      cases h
      subst e
      exact hl.1
    · exact KdsIn.of (l := l) hl.2 t r h

theorem EqsIn.of {P : Program} : ∀ {l : List (TypeId × Bool)}, EqsIn P l → ∀ t, look false l t = true → P.stoodInHeld t = false ∧ P.eqGuardType P.depth t = false ∧ (match P.underlying t with
      | some (.struct fs) => fs.toList.all (fun f => f.name != "_")
      | _ => true) = true
  | [], _, t, h => by cases h
  | (n, false) :: l, hl, t, h => by
    rw [look_hd] at h
    split at h
    · cases h
    · exact EqsIn.of (l := l) hl t h
  | (n, true) :: l, hl, t, h => by
    rw [look_hd] at h
    split at h
    · rename_i e
      subst e
      exact hl.1
    · exact EqsIn.of (l := l) hl.2 t h

theorem KnownIn.of {P : Program} : ∀ {l : List (FuncId × Bool)}, KnownIn P l → ∀ f, look false l f = true → (P.funcs[f]?).map (fun fn => (fn.body.isSome, fn.name != "runtime.NumGoroutine")) = some (true, true)
  | [], _, t, h => by cases h
  | (n, false) :: l, hl, t, h => by
    rw [look_hd] at h
    split at h
    · cases h
    · exact KnownIn.of (l := l) hl t h
  | (n, true) :: l, hl, t, h => by
    rw [look_hd] at h
    split at h
    · rename_i e
      subst e
      exact hl.1
    · exact KnownIn.of (l := l) hl.2 t h

theorem FnIn.of {P : Program} : ∀ {l : List (Nat × Option (Func × Hint))}, FnIn P l → TabOk P l
  | [], _, t, r, h => by cases h
  | (n, none) :: l, hl, t, r, h => by
    rw [look_hd] at h
    split at h
    · cases h
    · exact FnIn.of (l := l) hl t r h
  | (n, some q) :: l, hl, t, r, h => by
    rw [look_hd] at h
    split at h
    · rename_i e
      cases h
      subst e
      exact hl.1
    · exact FnIn.of (l := l) hl.2 t r h

theorem zvals_reps {ρ : Nat → Value} {U : Nat → Prop} {w : World} {Y : Nat → Prop} : ∀ {ls : List LV} {vs : List Value}, zvals ls = some vs → LReps ρ U w Y ls vs
  | [], vs, h => by
    simp only [zvals, Option.some.injEq] at h
    exact h.symm
  | .of κ x :: ls, vs, h => by
    simp only [zvals] at h
    split at h
    · rename_i v vs' h1 h2
      cases h
      refine ⟨v, vs', rfl, ?_, zvals_reps h2⟩
      unfold kval at h1
      split at h1 <;> first | (cases h1; rfl) | cases h1
    · cases h
  | .raw u :: ls, vs, h => by
    simp only [zvals] at h
    split at h
    · rename_i vs' h2
      cases h
      exact ⟨u, vs', rfl, rfl, zvals_reps h2⟩
    · cases h
  | .ptr _ _ :: _, _, h => by cases h
  | .view _ :: _, _, h => by cases h
  | .rptr _ _ _ :: _, _, h => by cases h
  | .any :: _, _, h => by cases h

theorem dvals_rep {w : World} {Y : Nat → Prop} : ∀ {e : Kind} {vs : List Value}, dvals e = some vs → Rep w Y e e.dflt vs
  | .int k, vs, h => by cases h; rfl
  | .bool, vs, h => by cases h; rfl
  | .str, vs, h => by cases h; rfl
  | .list e, vs, h => by
    cases h
    exact ⟨none, 0, rfl, Nat.le_refl _, fun _ => rfl, fun a' ha => by cases ha⟩
  | .unit, vs, h => by cases h; rfl
  | .pair a b, vs, h => by
    simp only [dvals] at h
    split at h
    · rename_i x y h1 h2
      cases h
      exact ⟨x, y, rfl, dvals_rep h1, dvals_rep h2⟩
    · cases h
  | .own _ _, vs, h => by cases h
  | .cel _, vs, h => by cases h
  | .ownc _ _, vs, h => by cases h
  | .fn, vs, h => by cases h
  | .ref _, vs, h => by cases h

theorem EnvOk.of_table {P : Program} {E : Env} (h1 : P.follows .mixedOrders = true) (h2 : TysIn P E.ty) (h3 : KdsIn P E.ty E.kd) (h4 : EqsIn P E.eqs) (h5 : KnownIn P E.known) : EnvOk P E where
  mixed := h1
  eqs := fun t ht => by
    obtain ⟨a, b, c⟩ := h4.of t ht
    refine ⟨a, b, fun fs hfs f hf => ?_⟩
    rw [hfs] at c
    have := List.all_eq_true.1 c f hf
    simpa using this
  known := fun f hf => by
    have := h5.of f hf
    cases hq : P.funcs[f]? with
    | none => rw [hq] at this; cases this
    | some fn =>
      rw [hq] at this
      simp only [Option.map_some, Option.some.injEq, Prod.mk.injEq] at this
      refine ⟨fn, rfl, fun hb => ?_, by simpa using this.2⟩
      rw [hb] at this
      simp at this
  tr := fun t r ht => by
    obtain ⟨a, b, c, d⟩ := h2.of t r ht
    refine ⟨a, b, ?_⟩
    cases hq : P.info? t with
    | none => rw [hq] at c; cases c
    | some i =>
      rw [hq] at c
      simp only [Option.map_some, Option.some.injEq, Prod.mk.injEq] at c
      refine ⟨i, rfl, c.1, c.2.1, ?_⟩
      unfold zeroB at d
      cases hz : zeroV r with
      | none => rw [hz] at d; cases d
      | some z =>
        rw [hz] at d c
        rw [Bool.and_eq_true] at d
        refine ⟨z, c.2.2, d.1, Nat.eq_of_beq_eq_true d.2, fun ρ U w Y => zvals_reps ?_⟩
        unfold zeroV at hz
        split at hz
        · cases hz
        · rename_i vs hvs
          rw [hvs]
          split at hz
          · cases hz; rfl
          · split at hz
            · cases hz
            · rename_i v hv
              cases hz
              cases z <;> first | rfl | exact absurd rfl (hv _)
            · cases hz
  int := fun t k ht => (h3.of t _ ht)
  row := fun t e q te hk hq hd w Y z i hi hz => by
    have := h3.of t _ hk
    have hq' : look none E.ty t = some q := hq
    simp only [KdIn, hq', hd] at this
    obtain ⟨vs, h6, h7⟩ := this
    rw [hi] at h7
    simp only [Option.map_some, Option.some.injEq, hz] at h7
    rw [h7]
    exact dvals_rep h6
/-! ### functions proved otherwise -/

def gNone {E : Env} : CallT E := fun _ _ => none

def gOne {E : Env} (f0 : FuncId) (g : (E.sig f0).inK.T → Option (E.sig f0).exK.T) (rest : CallT E) : CallT E := fun f x => if h : f0 = f then (by subst h; exact g x) else rest f x

theorem gNone_ok {P : Program} {E : Env} : CallsOk P E gNone := callsOk_iff.2 fun f x r h => by cases h

theorem gOne_eq {E : Env} {f0 : FuncId} {g : (E.sig f0).inK.T → Option (E.sig f0).exK.T} {rest : CallT E} {x : (E.sig f0).inK.T} : gOne f0 g rest f0 x = g x := by
  unfold gOne
  rw [dif_pos rfl]

theorem gOne_ne {E : Env} {f0 f : FuncId} {g : (E.sig f0).inK.T → Option (E.sig f0).exK.T} {rest : CallT E} {x : (E.sig f).inK.T} (h : ¬ f0 = f) : gOne f0 g rest f x = rest f x := by
  unfold gOne
  rw [dif_neg h]

theorem gOne_ok {P : Program} {E : Env} {f0 : FuncId} {g : (E.sig f0).inK.T → Option (E.sig f0).exK.T} {rest : CallT E} (hg : ∀ x r, g x = some r → CallOk P (E.sig f0) f0 x r) (hr : CallsOk P E rest) : CallsOk P E (gOne f0 g rest) :=
  callsOk_iff.2 fun f x r h => by
    by_cases e : f0 = f
    · subst e
      rw [gOne_eq] at h
      exact hg x r h
    · rw [gOne_ne e] at h
      exact callsOk_iff.1 hr f x r h

theorem callI_foreign {E : Env} {Fn : List (Nat × Option (Func × Hint))} {G : CallT E} {f : FuncId} {x : (E.sig f).inK.T} (hf : look none Fn f = none) : callI E Fn G f x = G f x := by
  rw [callI_eq, hf]
end Go.AM

set_option linter.unusedVariables false
set_option linter.unusedSimpArgs false
namespace Go.AM

/-! ### a row's own call: arguments are read, nothing is handed over -/

theorem CallsOk.row {P : Program} {E : Env} {C : CallT E} (hC : CallsOk P E C) {f : FuncId} {x : (E.sig f).inK.T} {r : (E.sig f).exK.T} (hx : C f x = some r) {w : World} {vs : List Value}
    (ha : ArgsRep w (fun _ => False) (E.sig f).ps x vs [] []) :
    Calls P f vs.toArray w fun e w' => ∃ vr bs, e = .returned (tupV vr) ∧ Go.RowKit.Below w.heap.size w w' ∧ ResReps w' (fun b => b ∈ bs) (E.sig f).rs r.1 vr bs := by
  have ha' : ArgsRep w (fun b => (fun _ => False) b ∨ b ∈ ([] : List Nat) ++ []) (E.sig f).ps x vs [] [] := by
    have e : (fun b => (fun _ => False) b ∨ b ∈ ([] : List Nat) ++ []) = (fun _ : Nat => False) := by funext b; simp
    rw [e]; exact ha
  refine (callsOk_iff.1 hC f x r hx w (fun _ => False) vs [] [] (fun b hb => hb.elim) (by simp) (fun b hb => by simp at hb) ha').mono ?_
  rintro e w' ⟨vr, bs1, bs2, rfl, hg, hk, hnd, hnew, hlt, hres, hout⟩
  have key : ∀ (Y : Nat → Prop) (ps : List PM) (y : (outK ps).T), OutRep w' Y ps y [] bs2 → bs2 = [] := by
    intro Y ps
    induction ps with
    | nil => intro y h; exact h.2
    | cons p ps ih =>
      intro y h
      cases p with
      | val κ agg => exact ih y h
      | io κ =>
        obtain ⟨b, cs', t, us, b1, b2, hc, _⟩ := h
        cases hc
  have e2 := key _ _ _ hout
  subst e2
  have e3 : (fun b => (fun _ => False) b ∨ b ∈ [] ++ (bs1 ++ [])) = (fun b => b ∈ bs1) := by funext b; simp
  rw [e3] at hres
  exact ⟨vr, bs1, rfl, ⟨hg.2.1, hg.2.2.2, hg.2.2.1, hg.1, fun k hk' => hk k hk' (by simp)⟩, hres⟩

/-- a row of numbers, as a reading of the arguments shows it -/
theorem rep_ints {w : World} {k : IntKind} {a : Option Addr} {len cap : Nat} {zs : List Int}
    (hz : (a = none ∧ len = 0 ∧ cap = 0 ∧ zs = []) ∨ ∃ x, a = some x ∧ len ≤ cap ∧ cap ≤ maxLen ∧ zs.length = cap ∧ (∀ i, i < zs.length → w.cell? (x.add i) = some (.int k (zs.getD i 0))) ∧ ∀ n ∈ zs, (Lit.int k n).wf = true)
    (hok : ∀ x, a = some x → x.spot = none ∧ x.block < w.heap.size) :
    Rep w (fun _ => False) (.list (.int k)) (zs.take len) [.slice a len cap] ∧ (zs.take len).length = len ∧ len ≤ maxLen ∧ ∀ n ∈ zs.take len, (Lit.int k n).wf = true := by
  rcases hz with ⟨rfl, rfl, rfl, rfl⟩ | ⟨x, rfl, h1, h2, h3, h4, h5⟩
  · exact ⟨⟨none, 0, rfl, Nat.le_refl _, fun _ => rfl, fun _ h => by cases h⟩, rfl, Nat.zero_le _, fun n hn => by simp at hn⟩
  · have hl : (zs.take len).length = len := by rw [List.length_take]; omega
    refine ⟨⟨some x, cap, by rw [hl], by omega, (fun h => by cases h), fun a' ha => ?_⟩, hl, by omega, fun n hn => h5 n (List.mem_of_mem_take hn)⟩
    cases ha
    obtain ⟨s1, s2⟩ := hok x rfl
    refine ⟨s1, s2, fun h => h, fun i y hy => ?_⟩
    have hi : i < len := by
      have := (List.getElem?_eq_some_iff.1 hy).1
      rw [hl] at this
      exact this
    have hy2 : zs[i]? = some y := by
      rw [List.getElem?_take, if_pos hi] at hy
      exact hy
    refine ⟨[.int k y], rfl, fun j c hj => ?_⟩
    cases j with
    | succ j => simp at hj
    | zero =>
      simp only [List.getElem?_cons_zero, Option.some.injEq] at hj
      subst hj
      have := h4 i (by omega)
      obtain ⟨b, o, sp⟩ := x
      simp only at s1
      subst s1
      have e : (⟨b, o, none⟩ : Addr).add i = ⟨b, o + i * Kind.size (.int k) + 0, none⟩ := by simp [Addr.add, Kind.size]
      rw [e] at this
      rw [this]
      simp [List.getD, hy2]

end Go.AM
