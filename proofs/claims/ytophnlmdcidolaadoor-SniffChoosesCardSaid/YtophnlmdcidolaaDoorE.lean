import Derived.Test.YtophnlmdcidolaaDoorD
set_option linter.all false
namespace Go.Am
variable {P : Program}

/-! Running: what a call comes to, reckoned by the machine itself. -/

mutual
def avEq : AV → AV → Bool
  | .bool a, .bool b => a == b
  | .int k n, .int k' n' => decide (k = k') && decide (n = n')
  | .str a, .str b => beqL a b
  | .nilptr, .nilptr => true
  | .ptr b o, .ptr b' o' => Nat.beq b b' && Nat.beq o o'
  | .nilslice, .nilslice => true
  | .slice b o n c e z, .slice b' o' n' c' e' z' => Nat.beq b b' && (Nat.beq o o' && (Nat.beq n n' && (Nat.beq c c' && ((e == e') && Nat.beq z z'))))
  | .nilmap, .nilmap => true
  | .map b, .map b' => Nat.beq b b'
  | .nilFunc, .nilFunc => true
  | .nilIface, .nilIface => true
  | .iface t v, .iface t' v' => Nat.beq t t' && avEq v v'
  | .agg xs, .agg ys => avsEq xs ys
  | .tuple xs, .tuple ys => avsEq xs ys
  | _, _ => false
def avsEq : List AV → List AV → Bool
  | [], [] => true
  | x :: xs, y :: ys => avEq x y && avsEq xs ys
  | _, _ => false
end

mutual
theorem avEq_eq : ∀ {a b : AV}, avEq a b = true → a = b := by
  intro a b h
  cases a <;> cases b <;> simp only [avEq, Bool.and_eq_true, Nat.beq_eq, decide_eq_true_eq, beq_iff_eq, Bool.false_eq_true] at h
  all_goals first
    | rfl
    | (obtain ⟨rfl, rfl⟩ := h; rfl)
    | (obtain ⟨rfl, rfl, rfl, rfl, rfl, rfl⟩ := h; rfl)
    | (subst h; rfl)
    | (rw [(beqL_iff _ _).1 h])
    | (obtain ⟨rfl, h⟩ := h; rw [avEq_eq h])
    | (rw [avsEq_eq h])
theorem avsEq_eq : ∀ {a b : List AV}, avsEq a b = true → a = b := by
  intro a b h
  cases a <;> cases b <;> simp only [avsEq, Bool.and_eq_true, Bool.false_eq_true] at h
  · rfl
  · obtain ⟨h1, h2⟩ := h
    rw [avEq_eq h1, avsEq_eq h2]
end

def redoB (P : Program) (arr : Array Oper) (fr : PT AV) (σ : AHeap) (j : Nat) : Bool :=
  match arr[j]? with
  | none => false
  | some o => match wantedA arr fr o with
    | true => opOk P o.op && (match rd P (aeval fr) σ.m o.op with
      | some v => match o.dst with
        | some d => avEq (fget fr d) v
        | none => true
      | none => false)
    | false => match o.dst with
      | some d => avEq (fget fr d) .undef
      | none => true

theorem redoB_sound {n : Nat} {arr : Array Oper} {fr : PT AV} {σ : AHeap} {j : Nat} (h : redoB P arr fr σ j = true) : Redo P n arr fr σ j := by
  unfold redoB at h
  unfold Redo
  cases ho : arr[j]? with
  | none => rw [ho] at h; simp at h
  | some o =>
    rw [ho] at h
    simp only at h ⊢
    cases hw : wantedA arr fr o with
    | true =>
      rw [hw] at h
      simp only [Bool.and_eq_true] at h ⊢
      obtain ⟨h1, h2⟩ := h
      cases hr : rd P (aeval fr) σ.m o.op with
      | none => rw [hr] at h2; simp at h2
      | some v =>
        rw [hr] at h2
        refine ⟨v, h1, rfl, fun d hd => ?_⟩
        rw [hd] at h2
        exact avEq_eq h2
    | false =>
      rw [hw] at h
      simp only at h ⊢
      intro d hd
      rw [hd] at h
      exact avEq_eq h

abbrev Caller := FuncId → List AV → AHeap → Option (AV × AHeap)
def CallerOk (P : Program) (call : Caller) : Prop := ∀ f args σ v σ', call f args σ = some (v, σ') → Tr P f args σ fun a b => a = v ∧ b = σ'

def evExec (P : Program) (n : Nat) (call : Caller) (o : Oper) (fr : PT AV) (σ : AHeap) : Option (PT AV × AHeap) :=
  match opOk P o.op with
  | false => none
  | true => match rd P (aeval fr) σ.m o.op with
    | some v => some (fput n fr o.dst v, σ)
    | none => match wr P (aeval fr) σ o.op with
      | some r => some (fput n fr o.dst r.1, r.2)
      | none => match aCallee P (aeval fr) σ.m o.op with
        | some c => match call c.1 c.2 σ with
          | some r => some (fput n fr o.dst r.1, r.2)
          | none => none
        | none => none

theorem evExec_sound {n : Nat} {call : Caller} (hc : CallerOk P call) {o : Oper} {fr : PT AV} {σ : AHeap} {r : PT AV × AHeap} {K : PT AV → AHeap → Prop} (h : evExec P n call o fr σ = some r) (hK : K r.1 r.2) : AExec P n o fr σ K := by
  unfold evExec at h
  split at h
  · simp at h
  · rename_i hok
    refine ⟨hok, ?_⟩
    split at h
    · rename_i v hr
      simp only [Option.some.injEq] at h; subst h
      exact .inl ⟨v, hr, hK⟩
    · split at h
      · rename_i x hw
        simp only [Option.some.injEq] at h; subst h
        exact .inr (.inl ⟨x.1, x.2, hw, hK⟩)
      · split at h
        · rename_i c hcl
          split at h
          · rename_i x hx
            simp only [Option.some.injEq] at h; subst h
            exact .inr (.inr ⟨c.1, c.2, hcl, (hc _ _ _ _ _ hx).mono fun a b ⟨e1, e2⟩ => by subst e1; subst e2; exact hK⟩)
          · simp at h
        · simp at h

def evOps (P : Program) (n : Nat) (call : Caller) (arr : Array Oper) : List Oper → PT AV → AHeap → Option (PT AV × AHeap)
  | [], fr, σ => some (fr, σ)
  | o :: rest, fr, σ => match wantedA arr fr o with
    | true => match evExec P n call o fr σ with
      | some r => evOps P n call arr rest r.1 r.2
      | none => none
    | false => evOps P n call arr rest (fput n fr o.dst .undef) σ

theorem evOps_sound {n : Nat} {call : Caller} (hc : CallerOk P call) {arr : Array Oper} {K : PT AV → AHeap → Prop} : ∀ {l : List Oper} {fr : PT AV} {σ : AHeap} {r : PT AV × AHeap}, evOps P n call arr l fr σ = some r → K r.1 r.2 → AOps P n arr K l fr σ
  | [], fr, σ, r, h, hK => by simp only [evOps, Option.some.injEq] at h; subst h; exact hK
  | o :: rest, fr, σ, r, h, hK => by
    simp only [evOps] at h
    simp only [AOps]
    cases hw : wantedA arr fr o with
    | true =>
      rw [hw] at h
      simp only at h ⊢
      split at h
      · rename_i x hx
        exact evExec_sound hc hx (evOps_sound hc h hK)
      · simp at h
    | false =>
      rw [hw] at h
      simp only at h ⊢
      exact evOps_sound hc h hK

def redosB (P : Program) (arr : Array Oper) (ms : List Nat) (i : Nat) (done : List Nat) (fr : PT AV) (σ : AHeap) : Bool :=
  done.all fun j => !(match arr[j]? with | some x => quiet P x.op | none => false) || ((ms.getD i 0).testBit j || redoB P arr fr σ j)

theorem redosB_sound {n : Nat} {arr : Array Oper} {ms : List Nat} {i : Nat} {done : List Nat} {fr : PT AV} {σ : AHeap} (h : redosB P arr ms i done fr σ = true) :
    ∀ j ∈ done, (match arr[j]? with | some x => quiet P x.op | none => false) = true → (ms.getD i 0).testBit j = false → Redo P n arr fr σ j := by
  intro j hj e1 e2
  unfold redosB at h
  rw [List.all_eq_true] at h
  have := h j hj
  rw [e1, e2] at this
  exact redoB_sound (by simpa using this)

def evDraw (P : Program) (n : Nat) (call : Caller) (arr : Array Oper) (ms : List Nat) : List Nat → List Nat → PT AV → AHeap → Option (PT AV × AHeap)
  | [], _, fr, σ => some (fr, σ)
  | i :: rest, done, fr, σ => match arr[i]? with
    | none => none
    | some o => match quiet P o.op with
      | true => match wantedA arr fr o with
        | true => match opOk P o.op with
          | false => none
          | true => match rd P (aeval fr) σ.m o.op with
            | some v => evDraw P n call arr ms rest (i :: done) (fput n fr o.dst v) σ
            | none => none
        | false => evDraw P n call arr ms rest (i :: done) (fput n fr o.dst .undef) σ
      | false => match wantedA arr fr o with
        | true => match evExec P n call o fr σ with
          | some r => match redosB P arr ms i done r.1 r.2 with
            | true => evDraw P n call arr ms rest (i :: done) r.1 r.2
            | false => none
          | none => none
        | false => match redosB P arr ms i done (fput n fr o.dst .undef) σ with
          | true => evDraw P n call arr ms rest (i :: done) (fput n fr o.dst .undef) σ
          | false => none

theorem evDraw_sound {n : Nat} {call : Caller} (hc : CallerOk P call) {arr : Array Oper} {ms : List Nat} {K : PT AV → AHeap → Prop} : ∀ {l done : List Nat} {fr : PT AV} {σ : AHeap} {r : PT AV × AHeap}, evDraw P n call arr ms l done fr σ = some r → K r.1 r.2 → ADraw P n arr ms K l done fr σ
  | [], done, fr, σ, r, h, hK => by simp only [evDraw, Option.some.injEq] at h; subst h; exact hK
  | i :: rest, done, fr, σ, r, h, hK => by
    simp only [evDraw] at h
    simp only [ADraw]
    cases ho : arr[i]? with
    | none => rw [ho] at h; simp at h
    | some o =>
      rw [ho] at h
      simp only at h ⊢
      cases hq : quiet P o.op with
      | true =>
        rw [hq] at h
        simp only at h ⊢
        cases hw : wantedA arr fr o with
        | true =>
          rw [hw] at h
          simp only at h ⊢
          cases hok : opOk P o.op with
          | false => rw [hok] at h; simp at h
          | true =>
            rw [hok] at h
            simp only at h ⊢
            cases hr : rd P (aeval fr) σ.m o.op with
            | none => rw [hr] at h; simp at h
            | some v => rw [hr] at h; exact ⟨trivial, v, rfl, evDraw_sound hc h hK⟩
        | false => rw [hw] at h; exact evDraw_sound hc h hK
      | false =>
        rw [hq] at h
        simp only at h ⊢
        cases hw : wantedA arr fr o with
        | true =>
          rw [hw] at h
          simp only at h ⊢
          cases hx : evExec P n call o fr σ with
          | none => rw [hx] at h; simp at h
          | some x =>
            rw [hx] at h
            simp only at h
            cases hb : redosB P arr ms i done x.1 x.2 with
            | false => rw [hb] at h; simp at h
            | true =>
              rw [hb] at h
              exact evExec_sound hc hx ⟨redosB_sound hb, evDraw_sound hc h hK⟩
        | false =>
          rw [hw] at h
          simp only at h ⊢
          cases hb : redosB P arr ms i done (fput n fr o.dst .undef) σ with
          | false => rw [hb] at h; simp at h
          | true =>
            rw [hb] at h
            exact ⟨redosB_sound hb, evDraw_sound hc h hK⟩

/-- an order: what only reads first -/
def planGo (P : Program) (arr : Array Oper) : Nat → List Nat → List Nat
  | 0, _ => []
  | k + 1, done =>
    let free := fun i => !done.contains i && (match arr[i]? with | some o => (predsOf o).all (done.contains ·) | none => false)
    match (List.range arr.size).find? fun i => free i && (match arr[i]? with | some o => quiet P o.op | none => false) with
    | some i => i :: planGo P arr k (i :: done)
    | none => match (List.range arr.size).find? free with
      | some i => i :: planGo P arr k (i :: done)
      | none => []

abbrev EvC := Code → PT AV → AHeap → Option (Exit × PT AV × AHeap)

/-- one step of the running of code; 'go' runs the parts -/
def evStep (P : Program) (n : Nat) (call : Caller) (go : EvC) : EvC := fun c fr σ =>
  match c with
  | .skip => some (.normal, fr, σ)
  | .label _ => some (.normal, fr, σ)
  | .exit id => some (.exit id, fr, σ)
  | .ret => some (.ret, fr, σ)
  | .seq x y => match go x fr σ with
    | some (.normal, fr', σ') => go y fr' σ'
    | r => r
  | .cond c x y => match opdOk P c with
    | true => match aeval fr c with
      | .bool true => go x fr σ
      | .bool false => go y fr σ
      | _ => none
    | false => none
  | .block id c => match go c fr σ with
    | some (.exit id', fr', σ') => if id' = id then some (.normal, fr', σ') else some (.exit id', fr', σ')
    | r => r
  | .loop c => match go c fr σ with
    | some (.normal, fr', σ') => go (.loop c) fr' σ'
    | r => r
  | .region _ ops false => match evOps P n call ops ops.toList fr σ with
    | some r => some (.normal, r.1, r.2)
    | none => none
  | .region _ ops true => match planOk P ops n (planGo P ops ops.size []) with
    | true => match evDraw P n call ops (masks ops) (planGo P ops ops.size []) [] fr σ with
      | some r => some (.normal, r.1, r.2)
      | none => none
    | false => none
  | _ => none

noncomputable def evCode (P : Program) (n : Nat) (call : Caller) (fuel : Nat) : EvC :=
  Nat.rec (motive := fun _ => EvC) (fun _ _ _ => none) (fun _ ih => evStep P n call ih) fuel
end Go.Am
