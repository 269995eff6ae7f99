import Derived.Test.YtophnlmdcidolaaDoorC16
set_option linter.all false
namespace Go.Am
variable {P : Program}

/-- one operation, then K -/
def AExec (P : Program) (n : Nat) (o : Oper) (fr : PT AV) (σ : AHeap) (K : PT AV → AHeap → Prop) : Prop :=
  opOk P o.op = true ∧
  ((∃ v, rd P (aeval fr) σ.m o.op = some v ∧ K (fput n fr o.dst v) σ) ∨
   (∃ v σ', wr P (aeval fr) σ o.op = some (v, σ') ∧ K (fput n fr o.dst v) σ') ∨
   (∃ f args, aCallee P (aeval fr) σ.m o.op = some (f, args) ∧ Tr P f args σ fun v σ' => K (fput n fr o.dst v) σ'))

def isBool : AV → Bool → Bool
  | .bool b', b => b' == b
  | _, _ => false

def wantedA (ops : Array Oper) (fr : PT AV) (o : Oper) : Bool :=
  match o.guard with
  | none => true
  | some (j, b) => match ops[j]? with
    | some g => match g.dst with
      | some d => isBool (fget fr d) b
      | none => false
    | none => false

def AOps (P : Program) (n : Nat) (ops : Array Oper) (Q : PT AV → AHeap → Prop) : List Oper → PT AV → AHeap → Prop
  | [], fr, σ => Q fr σ
  | o :: rest, fr, σ => match wantedA ops fr o with
    | true => AExec P n o fr σ (AOps P n ops Q rest)
    | false => AOps P n ops Q rest (fput n fr o.dst .undef) σ

def optBool : Option Value → Option Bool
  | some (.bool b) => some b
  | _ => none

theorem vrel_is_bool {θ : Where} {v : AV} {b : Bool} (h : VRel θ v (.bool b)) : v = .bool b := by
  cases v <;> simp_all [VRel]

theorem wanted_core {θ : Where} {v : AV} {c : Option Value} (ht : VRel θ v (c.getD Go.undef)) (b : Bool) : (optBool c == some b) = isBool v b := by
  by_cases hb : ∃ b', c = some (.bool b')
  · obtain ⟨b', rfl⟩ := hb
    rw [vrel_is_bool ht]
    simp [optBool, isBool]
  · have hv : ∀ b', v ≠ .bool b' := by
      intro b' e
      subst e
      rw [vrel_bool] at ht
      cases c with
      | none => simp [Go.undef] at ht
      | some c => simp at ht; exact hb ⟨b', by rw [ht]⟩
    have e1 : optBool c = none := by
      cases c with
      | none => rfl
      | some c => cases c <;> first | rfl | exact absurd ⟨_, rfl⟩ hb
    have e2 : isBool v b = false := by
      cases v <;> first | rfl | exact absurd rfl (hv _)
    rw [e1, e2]; rfl

theorem wanted_of {θ : Where} {fr : PT AV} {a : Act} {ops : Array Oper} {o : Oper}
    (h : ∀ j b g d, o.guard = some (j, b) → ops[j]? = some g → g.dst = some d → VRel θ (fget fr d) (a.tmps.getD d Go.undef)) : Region.wanted o (yielded ops a.tmps) = wantedA ops fr o := by
  unfold Region.wanted wantedA
  cases hg : o.guard with
  | none => rfl
  | some g =>
    obtain ⟨j, b⟩ := g
    simp only
    cases hj : ops[j]? with
    | none => simp [yielded, hj]
    | some g =>
      simp only
      cases hd : g.dst with
      | none => simp [yielded, hj, hd]
      | some d =>
        simp only
        have ht := h j b g d hg hj hd
        rw [Array.getD_eq_getD_getElem?] at ht
        have e : yielded ops a.tmps j = optBool a.tmps[d]? := by
          simp only [yielded, hj, hd, Option.bind_some]
          cases a.tmps[d]? with
          | none => rfl
          | some c => cases c <;> rfl
        rw [e]
        exact wanted_core ht b

theorem wanted_eq {θ : Where} {n : Nat} {fr : PT AV} {a : Act} (hF : FRel θ n fr a) (ops : Array Oper) (o : Oper) : Region.wanted o (yielded ops a.tmps) = wantedA ops fr o :=
  wanted_of fun _ _ _ d _ _ _ => hF.tmps d

/-- what holds where a piece of code ends -/
def Out (θ : Where) (σ : AHeap) (w : World) (n : Nat) (Q : Exit → PT AV → AHeap → Prop) : Exit → Act → World → Prop :=
  fun e a' w' => ∃ fr' σ' θ', Q e fr' σ' ∧ Ev θ σ w θ' σ' w' ∧ FRel θ' n fr' a'

theorem aexec_sound {θ0 θ : Where} {σ0 σ : AHeap} {w0 w : World} {n : Nat} {fr : PT AV} {a : Act} {o : Oper} {K : PT AV → AHeap → Prop} {next : Act → World → Prop} {Q : Exit → Act → World → Prop}
    (h : AExec P n o fr σ K) (hS : SRel P θ σ w) (hF : FRel θ n fr a) (hE : Ev θ0 σ0 w0 θ σ w)
    (hK : ∀ fr' σ' θ' a' w', K fr' σ' → SRel P θ' σ' w' → FRel θ' n fr' a' → Ev θ0 σ0 w0 θ' σ' w' → next a' w') : o.wp P a w next Q := by
  obtain ⟨hok, h⟩ := h
  have hρ := opds_rel (a := a) hS hF hok
  unfold Oper.wp
  rcases h with ⟨v, hv, hk⟩ | ⟨v, σ', hv, hk⟩ | ⟨f, args, hc, htr⟩
  · obtain ⟨cv, h1, h2⟩ := rd_sound hS.rel.mem hρ hv
    rw [h1, Oper.upon_value]
    exact hK _ _ _ _ _ hk hS (hF.put o.dst h2) hE
  · obtain ⟨θ', w', hev, cv, hvr, h1 | ⟨h1, h2⟩⟩ := wr_sound hS.rel hρ hv
    · rw [h1, Oper.upon_value]
      exact hK _ _ _ _ _ hk (hS.ev hev) ((hF.mono (hev.le hS.rel)).put o.dst hvr) (hE.trans hev)
    · subst h2
      rw [h1, Oper.upon_skip]
      exact hK _ _ _ _ _ hk (hS.ev hev) ((hF.mono (hev.le hS.rel)).put o.dst hvr) (hE.trans hev)
  · obtain ⟨cargs, h1, h2⟩ := aCallee_run (w := w) hρ hc
    rw [h1]
    rcases htr θ w cargs hS h2 with ⟨cv, w', v, σ', θ', k1, k2, k3, k4⟩ | ⟨k1, k2⟩
    · rw [k1, Oper.upon_value]
      exact hK _ _ _ _ _ k2 (hS.ev k3) ((hF.mono (k3.le hS.rel)).put o.dst k4) (hE.trans k3)
    · rw [k1, Oper.upon_enter]
      refine k2.mono fun e w' ⟨cv, v, σ', θ', q1, q2, q3, q4⟩ => ?_
      subst q1
      exact hK _ _ _ _ _ q2 (hS.ev q3) ((hF.mono (q3.le hS.rel)).put o.dst q4) (hE.trans q3)

theorem aops_sound {n : Nat} {ops : Array Oper} {Q : Exit → PT AV → AHeap → Prop} {θ0 : Where} {σ0 : AHeap} {w0 : World} : ∀ (l : List Oper) (θ : Where) (σ : AHeap) (w : World) (fr : PT AV) (a : Act),
    AOps P n ops (Q .normal) l fr σ → SRel P θ σ w → FRel θ n fr a → Ev θ0 σ0 w0 θ σ w → wpList P ops (Out θ0 σ0 w0 n Q) l a w
  | [], θ, σ, w, fr, a, h, hS, hF, hE => ⟨fr, σ, θ, h, hE, hF⟩
  | o :: rest, θ, σ, w, fr, a, h, hS, hF, hE => by
    simp only [AOps] at h
    simp only [wpList, wanted_eq hF ops o]
    split at h
    · rename_i hw
      rw [hw, if_pos rfl]
      exact .inl (aexec_sound h hS hF hE fun fr' σ' θ' a' w' hk hS' hF' hE' => aops_sound rest θ' σ' w' fr' a' hk hS' hF' hE')
    · rename_i hw
      rw [hw, if_neg (by simp)]
      exact aops_sound rest θ σ w _ _ h hS (hF.put o.dst vrel_undef) hE

/-- a piece of code -/
def ACode (P : Program) (n : Nat) (c : Code) (Q : Exit → PT AV → AHeap → Prop) (fr : PT AV) (σ : AHeap) : Prop :=
  ∀ θ w a, SRel P θ σ w → FRel θ n fr a → c.wp P (Out θ σ w n Q) a w

def AThen (K : PT AV → AHeap → Prop) (Q : Exit → PT AV → AHeap → Prop) : Exit → PT AV → AHeap → Prop
  | .normal, fr, σ => K fr σ
  | e, fr, σ => Q e fr σ

def AIn (id : Nat) (Q : Exit → PT AV → AHeap → Prop) : Exit → PT AV → AHeap → Prop
  | .exit id', fr, σ => if id' = id then Q .normal fr σ else Q (.exit id') fr σ
  | e, fr, σ => Q e fr σ

section
variable {n : Nat} {Q Q' : Exit → PT AV → AHeap → Prop} {fr : PT AV} {σ : AHeap}

theorem acode_mono {c : Code} (h : ACode P n c Q fr σ) (hq : ∀ e fr' σ', Q e fr' σ' → Q' e fr' σ') : ACode P n c Q' fr σ :=
  fun θ w a hS hF => wp_mono (h θ w a hS hF) fun e a' w' ⟨fr', σ', θ', k1, k2, k3⟩ => ⟨fr', σ', θ', hq _ _ _ k1, k2, k3⟩

theorem acode_skip (h : Q .normal fr σ) : ACode P n .skip Q fr σ := fun θ w a hS hF => wp_skip ⟨fr, σ, θ, h, Ev.refl hS.rel, hF⟩
theorem acode_label {l : Nat} (h : Q .normal fr σ) : ACode P n (.label l) Q fr σ := fun θ w a hS hF => wp_label ⟨fr, σ, θ, h, Ev.refl hS.rel, hF⟩
theorem acode_exit {id : Nat} (h : Q (.exit id) fr σ) : ACode P n (.exit id) Q fr σ := fun θ w a hS hF => wp_exit ⟨fr, σ, θ, h, Ev.refl hS.rel, hF⟩
theorem acode_goto {l : Nat} (h : Q (.goto l) fr σ) : ACode P n (.goto l) Q fr σ := fun θ w a hS hF => wp_goto ⟨fr, σ, θ, h, Ev.refl hS.rel, hF⟩
theorem acode_ret (h : Q .ret fr σ) : ACode P n .ret Q fr σ := fun θ w a hS hF => wp_ret ⟨fr, σ, θ, h, Ev.refl hS.rel, hF⟩

theorem acode_seq {x y : Code} (h : ACode P n x (AThen (ACode P n y Q) Q) fr σ) : ACode P n (.seq x y) Q fr σ := by
  intro θ w a hS hF
  refine wp_seq (wp_mono (h θ w a hS hF) ?_)
  rintro e a' w' ⟨fr', σ', θ', hq, hev, hf⟩
  cases e with
  | normal =>
    refine wp_mono (hq θ' w' a' (hS.ev hev) hf) ?_
    rintro e a'' w'' ⟨fr'', σ'', θ'', k1, k2, k3⟩
    exact ⟨fr'', σ'', θ'', k1, hev.trans k2, k3⟩
  | _ => exact ⟨fr', σ', θ', hq, hev, hf⟩

theorem acode_cond {c : Operand} {x y : Code} {b : Bool} (hc : aeval fr c = .bool b) (hok : opdOk P c = true) (h : ACode P n (if b then x else y) Q fr σ) : ACode P n (.cond c x y) Q fr σ := by
  intro θ w a hS hF
  have := opd_rel hS hF hok
  rw [hc, vrel_bool] at this
  exact wp_cond this (h θ w a hS hF)

theorem acode_block {id : Nat} {c : Code} (h : ACode P n c (AIn id Q) fr σ) : ACode P n (.block id c) Q fr σ := by
  intro θ w a hS hF
  refine wp_block (wp_mono (h θ w a hS hF) ?_)
  rintro e a' w' ⟨fr', σ', θ', hq, hev, hf⟩
  cases e with
  | exit id' =>
    simp only [AIn, Exit.inBlock] at hq ⊢
    split at hq
    · rename_i e; rw [if_pos e]; exact ⟨fr', σ', θ', hq, hev, hf⟩
    · rename_i e; rw [if_neg e]; exact ⟨fr', σ', θ', hq, hev, hf⟩
  | _ => exact ⟨fr', σ', θ', hq, hev, hf⟩

theorem least_exists {p : Nat → Prop} (h : ∃ m, p m) : ∃ m, p m ∧ ∀ k, p k → m ≤ k := by
  obtain ⟨m, hm⟩ := h
  induction m using Nat.strongRecOn with
  | _ m ih =>
    by_cases hex : ∃ k, k < m ∧ p k
    · obtain ⟨k, hk, hp⟩ := hex
      exact ih k hk hp
    · exact ⟨m, hm, fun k hk => by
        rcases Nat.lt_or_ge k m with h | h
        · exact (hex ⟨k, h, hk⟩).elim
        · exact h⟩

theorem acode_loop {c : Code} (I : Nat → PT AV → AHeap → Prop) (m0 : Nat) (h0 : I m0 fr σ)
    (round : ∀ m fr σ, I m fr σ → ACode P n c (AThen (fun fr' σ' => ∃ m', m' < m ∧ I m' fr' σ') Q) fr σ) : ACode P n (.loop c) Q fr σ := by
  intro θ w a hS hF
  let J : Nat → Act → World → Prop := fun m a' w' => ∃ fr' σ' θ', I m fr' σ' ∧ Ev θ σ w θ' σ' w' ∧ FRel θ' n fr' a'
  classical
  let μ : Act → World → Nat := fun a' w' => if h : ∃ m, J m a' w' then Classical.choose (least_exists h) else 0
  have hμ : ∀ m a' w', J m a' w' → J (μ a' w') a' w' ∧ μ a' w' ≤ m := by
    intro m a' w' hj
    have hex : ∃ m, J m a' w' := ⟨m, hj⟩
    have e : μ a' w' = Classical.choose (least_exists hex) := dif_pos hex
    rw [e]
    have := Classical.choose_spec (least_exists hex)
    exact ⟨this.1, this.2 m hj⟩
  refine wp_loop (fun a' w' => ∃ m, J m a' w') μ ⟨m0, fr, σ, θ, h0, Ev.refl hS.rel, hF⟩ ?_
  rintro a1 w1 ⟨m, hj⟩
  obtain ⟨⟨fr1, σ1, θ1, hI, hev, hf⟩, _⟩ := hμ m a1 w1 hj
  refine wp_mono (round _ fr1 σ1 hI θ1 w1 a1 (hS.ev hev) hf) ?_
  rintro e a' w' ⟨fr', σ', θ', hq, hev', hf'⟩
  cases e with
  | normal =>
    obtain ⟨m', hlt, hI'⟩ := hq
    have hj' : J m' a' w' := ⟨fr', σ', θ', hI', hev.trans hev', hf'⟩
    exact ⟨⟨m', hj'⟩, Nat.lt_of_le_of_lt (hμ m' a' w' hj').2 hlt⟩
  | _ => exact ⟨fr', σ', θ', hq, hev.trans hev', hf'⟩

theorem acode_region {id : Nat} {ops : Array Oper} (h : AOps P n ops (Q .normal) ops.toList fr σ) : ACode P n (.region id ops false) Q fr σ :=
  fun θ w a hS hF => wp_region_list (aops_sound ops.toList θ σ w fr a h hS hF (Ev.refl hS.rel))
end

/-- what a body's result variables hold -/
def aResult (P : Program) (fr : PT AV) (σ : PT ABlock) : ResultVar → Option AV
  | .tmp t => some (fget fr t)
  | .cell a t => aLoad P σ t (fget fr a)

def aResults (P : Program) (fr : PT AV) (σ : PT ABlock) : List ResultVar → Option (List AV)
  | [] => some []
  | r :: l => match aResult P fr σ r, aResults P fr σ l with
    | some v, some vs => some (v :: vs)
    | _, _ => none

def aRet (P : Program) (fn : Func) (fr : PT AV) (σ : PT ABlock) : Option AV :=
  match aResults P fr σ fn.results.toList with
  | some [v] => some v
  | some vs => some (.tuple vs)
  | none => none

theorem loadVar_of_loadAt {t : TypeId} {c : Value} {w : World} {cv : Value} (h : (Instr.loadAt t c).run P w = .ok cv w) : ∃ a, c = .pointer (some a) ∧ (loadVar t a).run P w = .ok cv w := by
  cases c with
  | pointer a =>
    cases a with
    | none => simp [Instr.loadAt, Instr.sureAddr] at h
    | some a => exact ⟨a, rfl, by simpa [Instr.loadAt, Instr.sureAddr] using h⟩
  | _ => simp [Instr.loadAt, Instr.sureAddr] at h

def resSem (a : Act) : ResultVar → Sem Value
  | .tmp t => pure (a.tmps.getD t Go.undef)
  | .cell x t => do loadVar t (← asAddr (a.tmps.getD x Go.undef))

theorem results_eq (fn : Func) (a : Act) : results fn a.tmps = (do
    let vs ← fn.results.mapM (resSem a)
    pure (if h : vs.size = 1 then vs[0] else .tuple vs)) := by
  have e : resSem a = (fun x => match x with
      | ResultVar.tmp t => (pure (a.tmps.getD t Go.undef) : Sem Value)
      | ResultVar.cell y t => (do loadVar t (← asAddr (a.tmps.getD y Go.undef)))) := by
    funext r
    cases r <;> rfl
  rw [e]
  rfl

theorem aResults_run {θ : Where} {σ : AHeap} {w : World} {n : Nat} {fr : PT AV} {a : Act} (hS : SRel P θ σ w) (hF : FRel θ n fr a) : ∀ {l : List ResultVar} {vs : List AV}, aResults P fr σ.m l = some vs →
    ∃ cvs : List Value, (l.mapM (resSem a)).run P w = .ok cvs w ∧ VRels θ vs cvs
  | [], vs, h => by simp [aResults] at h; subst h; exact ⟨[], rfl, by simp [VRels]⟩
  | r :: l, vs, h => by
    simp only [aResults] at h
    split at h
    · rename_i v vs' hv hvs
      simp at h; subst h
      obtain ⟨cvs, h1, h2⟩ := aResults_run (a := a) hS hF hvs
      cases r with
      | tmp t =>
        simp [aResult] at hv; subst hv
        exact ⟨a.tmps.getD t Go.undef :: cvs, by simp [List.mapM_cons, resSem, h1], by simp only [VRels]; exact ⟨hF.tmps t, h2⟩⟩
      | cell x t =>
        simp only [aResult] at hv
        obtain ⟨cv, k1, k2⟩ := aLoad_sound (P := P) hS.rel.mem hv (hF.tmps x)
        obtain ⟨ad, e, k3⟩ := loadVar_of_loadAt k1
        rw [Array.getD_eq_getD_getElem?] at e
        exact ⟨cv :: cvs, by simp [List.mapM_cons, resSem, e, asAddr, k3, h1], by simp only [VRels]; exact ⟨k2, h2⟩⟩
    · simp at h

theorem aRet_run {θ : Where} {σ : AHeap} {w : World} {n : Nat} {fr : PT AV} {a : Act} {fn : Func} {v : AV} (hS : SRel P θ σ w) (hF : FRel θ n fr a) (h : aRet P fn fr σ.m = some v) :
    ∃ cv, (results fn a.tmps).run P w = .ok cv w ∧ VRel θ v cv := by
  unfold aRet at h
  have hm : ∀ cvs : List Value, (fn.results.toList.mapM (resSem a)).run P w = .ok cvs w → (fn.results.mapM (resSem a)).run P w = .ok cvs.toArray w := by
    intro cvs h1
    rw [Array.mapM_eq_mapM_toList]
    simp [h1]
  split at h
  · rename_i v' hv
    simp at h; subst h
    obtain ⟨cvs, h1, h2⟩ := aResults_run (a := a) hS hF hv
    match cvs, h2, h1 with
    | [cv], h2, h1 =>
      refine ⟨cv, ?_, by simpa [VRels] using h2⟩
      rw [results_eq]
      simp [hm _ h1]
    | [], h2, _ => simp [VRels] at h2
    | _ :: _ :: _, h2, _ => simp [VRels] at h2
  · rename_i vs hne hv
    simp at h; subst h
    obtain ⟨cvs, h1, h2⟩ := aResults_run (a := a) hS hF hv
    refine ⟨.tuple cvs.toArray, ?_, by rw [vrel_tuple]; exact ⟨_, rfl, by simpa using h2⟩⟩
    rw [results_eq]
    have hl := vrels_len h2
    have : cvs.length ≠ 1 := by
      intro e
      rw [e] at hl
      match vs, hl with
      | [v], _ => exact hne v rfl
    simp [hm _ h1, this]
  · simp at h

end Go.Am
