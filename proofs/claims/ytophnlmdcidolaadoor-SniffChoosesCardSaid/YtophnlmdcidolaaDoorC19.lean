import Derived.Test.YtophnlmdcidolaaDoorC18
set_option linter.all false
namespace Go.Am
variable {P : Program}

/-! A region that draws its order. -/

/-- operations that only read -/
def quiet (P : Program) : Op → Bool
  | .move _ => true
  | .pick .. => true
  | .build .. => true
  | .load .. => true
  | .nilCheck _ => true
  | .binOp .. => true
  | .unOp .. => true
  | .makeInterface .. => true
  | .makeFunc .. => true
  | .slice .. => true
  | .fieldAddr .. => true
  | .field .. => true
  | .indexAddr .. => true
  | .index .. => true
  | .extract .. => true
  | .convert _ d _ => match P.underlying d with
    | some (.slice _) => false
    | _ => true
  | .call c => match c.callee with
    | .builtin .len => true
    | .builtin .cap => true
    | .builtin .min => true
    | .builtin .max => true
    | _ => false
  | _ => false

def opTmps : List Operand → List Nat
  | [] => []
  | .tmp t :: l => t :: opTmps l
  | _ :: l => opTmps l

def guardTmp (ops : Array Oper) (o : Oper) : List Nat :=
  match o.guard with
  | some (j, _) => match ops[j]? with
    | some g => g.dst.toList
    | none => []
  | none => []

def looks (ops : Array Oper) (o : Oper) : List Nat := opTmps o.op.operands.toList ++ guardTmp ops o

def predsOf (o : Oper) : List Nat := (o.after.toList.filter (Region.binds .any)).map (·.on)

def maskOf (ps acc : List Nat) : Nat := ps.foldl (fun s p => s ||| (2 ^ p ||| acc.getD p 0)) 0

def masksGo : List Oper → List Nat → List Nat
  | [], acc => acc
  | o :: l, acc => masksGo l (acc ++ [maskOf (predsOf o) acc])

def masks (ops : Array Oper) : List Nat := masksGo ops.toList []

def planSteps (P : Program) (ops : Array Oper) (n : Nat) (ms : List Nat) : List Nat → List Nat → Bool
  | [], _ => true
  | i :: rest, done => match ops[i]? with
    | none => false
    | some o =>
      (predsOf o).all (done.contains ·) && !done.contains i &&
      (match o.dst with | some d => Nat.blt d n | none => true) &&
      (match o.guard with | some (j, _) => (predsOf o).contains j | none => true) &&
      (match quiet P o.op with
        | true => match o.dst with
          | some d => !(looks ops o).contains d && (List.range ops.size).all fun j => Nat.beq j i || (match ops[j]? with
            | some x => (!(looks ops x).contains d && x.dst != some d) || (ms.getD j 0).testBit i
            | none => true)
          | none => true
        | false => rest.all fun j => match ops[j]? with
          | some x => (predsOf x).any fun p => !done.contains p
          | none => false) &&
      planSteps P ops n ms rest (i :: done)

def planOk (P : Program) (ops : Array Oper) (n : Nat) (order : List Nat) : Bool :=
  (List.range ops.size).all (order.contains ·) && planSteps P ops n (masks ops) order []

/-- an operation that may still be to come gives what it gave -/
def Redo (P : Program) (n : Nat) (ops : Array Oper) (fr : PT AV) (σ : AHeap) (j : Nat) : Prop :=
  match ops[j]? with
  | none => False
  | some o => match wantedA ops fr o with
    | true => ∃ v, opOk P o.op = true ∧ rd P (aeval fr) σ.m o.op = some v ∧ ∀ d, o.dst = some d → fget fr d = v
    | false => ∀ d, o.dst = some d → fget fr d = .undef

def ADraw (P : Program) (n : Nat) (ops : Array Oper) (ms : List Nat) (Q : PT AV → AHeap → Prop) : List Nat → List Nat → PT AV → AHeap → Prop
  | [], _, fr, σ => Q fr σ
  | i :: rest, done, fr, σ => match ops[i]? with
    | none => False
    | some o => match quiet P o.op with
      | true => match wantedA ops fr o with
        | true => opOk P o.op = true ∧ ∃ v, rd P (aeval fr) σ.m o.op = some v ∧ ADraw P n ops ms Q rest (i :: done) (fput n fr o.dst v) σ
        | false => ADraw P n ops ms Q rest (i :: done) (fput n fr o.dst .undef) σ
      | false =>
        let K := fun fr' σ' => (∀ j ∈ done, (match ops[j]? with | some x => quiet P x.op | none => false) = true → (ms.getD i 0).testBit j = false → Redo P n ops fr' σ' j) ∧ ADraw P n ops ms Q rest (i :: done) fr' σ'
        match wantedA ops fr o with
        | true => AExec P n o fr σ K
        | false => K (fput n fr o.dst .undef) σ

theorem mem_opTmps : ∀ {l : List Operand} {t : Nat}, t ∈ opTmps l ↔ Operand.tmp t ∈ l
  | [], t => by simp [opTmps]
  | .tmp u :: l, t => by simp [opTmps, mem_opTmps (l := l)]
  | .const v :: l, t => by simp [opTmps, mem_opTmps (l := l)]
  | .global g :: l, t => by simp [opTmps, mem_opTmps (l := l)]
  | .func f :: l, t => by simp [opTmps, mem_opTmps (l := l)]

theorem mapOps_congr {ρ ρ' : Operand → AV} : ∀ {l : List Operand}, (∀ x ∈ l, ρ x = ρ' x) → mapOps ρ l = mapOps ρ' l
  | [], _ => rfl
  | x :: l, h => by simp only [mapOps]; rw [h x (by simp), mapOps_congr fun y hy => h y (by simp [hy])]
theorem mapParts_congr {ρ ρ' : Operand → AV} : ∀ {l : List (Nat × Operand)}, (∀ x ∈ l.map (·.2), ρ x = ρ' x) → mapParts ρ l = mapParts ρ' l
  | [], _ => rfl
  | (i, x) :: l, h => by
    simp only [mapParts]
    rw [h x (by simp), mapParts_congr fun y hy => h y (by simp at hy ⊢; exact .inr hy)]
theorem optMap_congr {ρ ρ' : Operand → AV} {o : Option Operand} (h : ∀ x ∈ o.toArray, ρ x = ρ' x) : optMap ρ o = optMap ρ' o := by
  cases o with
  | none => rfl
  | some x => simp only [optMap]; rw [h x (by simp)]

theorem rd_congr {ρ ρ' : Operand → AV} {σ : PT ABlock} {op : Op} (h : ∀ x ∈ op.operands, ρ x = ρ' x) : rd P ρ σ op = rd P ρ' σ op := by
  cases op <;> simp only [Op.operands] at h <;> simp only [rd]
  case move x => rw [h x (by simp)]
  case assign x => rw [h x (by simp)]
  case pick c a b => rw [h c (by simp), h a (by simp), h b (by simp)]
  case build t ps => rw [mapParts_congr fun x hx => h x (by simpa using hx)]
  case load t a => rw [h a (by simp)]
  case nilCheck x => rw [h x (by simp)]
  case binOp op t x y yt => rw [h x (by simp), h y (by simp)]
  case unOp op t x => rw [h x (by simp)]
  case convert s d x => rw [h x (by simp)]
  case makeInterface t x => rw [h x (by simp)]
  case makeFunc fn a b =>
    rw [mapOps_congr (l := a.toList) fun x hx => h x (by simp only [Array.mem_append]; exact .inl (by simpa using hx)), mapOps_congr (l := b.toList) fun x hx => h x (by simp only [Array.mem_append]; exact .inr (by simpa using hx))]
  case slice t x lo hi mx =>
    rw [h x (by simp), optMap_congr (o := lo) fun y hy => h y (by simp only [Array.mem_append]; exact .inl (.inl (.inr hy))),
      optMap_congr (o := hi) fun y hy => h y (by simp only [Array.mem_append]; exact .inl (.inr hy)), optMap_congr (o := mx) fun y hy => h y (by simp only [Array.mem_append]; exact .inr hy)]
  case fieldAddr s x f => rw [h x (by simp)]
  case field t x f => rw [h x (by simp)]
  case indexAddr t x i => rw [h x (by simp), h i (by simp)]
  case index t x i => rw [h x (by simp), h i (by simp)]
  case extract t i => rw [h t (by simp)]
  case call c =>
    rw [mapOps_congr (l := c.args.toList) fun x hx => h x (by simp only [Call.operands, Array.mem_append]; exact .inr (by simpa using hx))]

theorem fget_fput {n : Nat} {fr : PT AV} {d t : Nat} {v : AV} (hd : Nat.blt d n = true) : fget (fput n fr (some d) v) t = if d = t then v else fget fr t := by
  simp only [fput, hd, fget, PT.get_set]
  by_cases e : d = t <;> simp [e]

/-- a piece of frame that is as it was, for an operation that doesn't look there -/
theorem aeval_fput {n : Nat} {fr : PT AV} {dst : Option Tmp} {v : AV} {x : Operand} (h : ∀ d, dst = some d → x ≠ .tmp d) : aeval (fput n fr dst v) x = aeval fr x := by
  cases dst with
  | none => rfl
  | some d =>
    cases x with
    | tmp t =>
      have hne : d ≠ t := fun e => h d rfl (e ▸ rfl)
      simp only [aeval, fput]
      split
      · simp [fget, PT.get_set, hne]
      · rfl
    | _ => rfl

theorem wantedA_fput {n : Nat} {ops : Array Oper} {fr : PT AV} {dst : Option Tmp} {v : AV} {o : Oper} (h : ∀ d, dst = some d → d ∉ guardTmp ops o) : wantedA ops (fput n fr dst v) o = wantedA ops fr o := by
  cases dst with
  | none => rfl
  | some d =>
    have h' := h d rfl
    unfold wantedA guardTmp at *
    cases hg : o.guard with
    | none => rfl
    | some g =>
      obtain ⟨j, b⟩ := g
      simp only [hg] at h' ⊢
      cases hj : ops[j]? with
      | none => rfl
      | some g =>
        simp only [hj] at h' ⊢
        cases hd : g.dst with
        | none => rfl
        | some e =>
          simp only [hd, Option.toList_some, List.mem_singleton] at h' ⊢
          have hne : d ≠ e := h'
          have : fget (fput n fr (some d) v) e = fget fr e := by
            simp only [fput]
            split
            · simp [fget, PT.get_set, hne]
            · rfl
          rw [this]

theorem masksGo_prefix : ∀ (l : List Oper) (acc : List Nat) (i : Nat), i < acc.length → (masksGo l acc).getD i 0 = acc.getD i 0
  | [], acc, i, h => rfl
  | o :: l, acc, i, h => by
    simp only [masksGo]
    rw [masksGo_prefix l _ i (by simp; omega)]
    simp [List.getD, List.getElem?_append_left h]

theorem masksGo_get : ∀ (l : List Oper) (acc : List Nat) (k : Nat) (o : Oper), l[k]? = some o → ∃ acc', (∀ p, acc'.getD p 0 = 0 ∨ (p < acc.length + k ∧ acc'.getD p 0 = (masksGo l acc).getD p 0)) ∧ (masksGo l acc).getD (acc.length + k) 0 = maskOf (predsOf o) acc'
  | [], acc, k, o, h => by simp at h
  | x :: l, acc, 0, o, h => by
    simp at h; subst h
    refine ⟨acc, fun p => ?_, ?_⟩
    · by_cases hp : p < acc.length
      · right
        refine ⟨by omega, ?_⟩
        simp only [masksGo]
        rw [masksGo_prefix l _ p (by simp; omega)]
        simp [List.getD, List.getElem?_append_left hp]
      · left; simp [List.getD, List.getElem?_eq_none (Nat.le_of_not_lt hp)]
    · simp only [masksGo, Nat.add_zero]
      rw [masksGo_prefix l _ _ (by simp)]
      simp [List.getD]
  | x :: l, acc, k + 1, o, h => by
    simp only [masksGo]
    have := masksGo_get l (acc ++ [maskOf (predsOf x) acc]) k o (by simpa using h)
    simp only [List.length_append, List.length_cons, List.length_nil] at this
    obtain ⟨acc', h1, h2⟩ := this
    refine ⟨acc', fun p => ?_, by rw [show acc.length + (k + 1) = acc.length + (0 + 1) + k by omega]; exact h2⟩
    rcases h1 p with h1 | ⟨h1, h3⟩
    · exact .inl h1
    · exact .inr ⟨by omega, h3⟩

theorem maskOf_bit {ps acc : List Nat} {j : Nat} (h : (maskOf ps acc).testBit j = true) : ∃ p ∈ ps, p = j ∨ (acc.getD p 0).testBit j = true := by
  unfold maskOf at h
  have key : ∀ (ps : List Nat) (s : Nat), (ps.foldl (fun s p => s ||| (2 ^ p ||| acc.getD p 0)) s).testBit j = true → s.testBit j = true ∨ ∃ p ∈ ps, p = j ∨ (acc.getD p 0).testBit j = true := by
    intro ps
    induction ps with
    | nil => intro s h; exact .inl h
    | cons p ps ih =>
      intro s h
      rcases ih _ h with h | ⟨q, hq, h⟩
      · rw [Nat.testBit_or, Nat.testBit_or, Bool.or_eq_true, Bool.or_eq_true] at h
        rcases h with h | h | h
        · exact .inl h
        · rw [Nat.testBit_two_pow] at h
          exact .inr ⟨p, by simp, .inl (by simpa using h)⟩
        · exact .inr ⟨p, by simp, .inr h⟩
      · exact .inr ⟨q, by simp [hq], h⟩
  rcases key ps 0 h with h | h
  · simp at h
  · exact h

/-- what is marked as ahead of an operation is in every set that is closed downward and holds it -/
theorem mask_closed {ops : Array Oper} {D : Nat → Prop} (hD : ∀ i o p, ops[i]? = some o → D i → p ∈ predsOf o → D p) : ∀ (i : Nat) (j : Nat), D i → ((masks ops).getD i 0).testBit j = true → D j := by
  intro i
  induction i using Nat.strongRecOn with
  | _ i ih =>
    intro j hi hb
    cases ho : ops[i]? with
    | none =>
      have hlen : ∀ (l : List Oper) (acc : List Nat), (masksGo l acc).length = acc.length + l.length := by
        intro l
        induction l with
        | nil => intro acc; simp [masksGo]
        | cons o l ih => intro acc; simp only [masksGo]; rw [ih]; simp; omega
      have : (masks ops).getD i 0 = 0 := by
        rw [List.getD, List.getElem?_eq_none]
        · rfl
        · rw [masks, hlen]
          have := Array.getElem?_eq_none_iff.1 ho
          simpa using this
      rw [this] at hb; simp at hb
    | some o =>
      obtain ⟨acc', h1, h2⟩ := masksGo_get ops.toList [] i o (by rw [Array.getElem?_toList]; exact ho)
      simp only [List.length_nil, Nat.zero_add] at h1 h2
      have hm : (masks ops).getD i 0 = maskOf (predsOf o) acc' := h2
      rw [hm] at hb
      obtain ⟨p, hp, h | h⟩ := maskOf_bit hb
      · subst h; exact hD i o p ho hi hp
      · have hDp := hD i o p ho hi hp
        rcases h1 p with h0 | ⟨hlt, he⟩
        · rw [h0] at h; simp at h
        · rw [he] at h
          exact ih p hlt j hDp h

end Go.Am
