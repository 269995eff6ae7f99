import Derived.Test.YtophnlmdcidolaaDoorC15
set_option linter.all false
namespace Go.Am
variable {P : Program}

/-! Frames, operations in a row, code, calls. -/

def fget (fr : PT AV) (t : Nat) : AV := match fr.get t with
  | some v => v
  | none => .undef

def fput (n : Nat) (fr : PT AV) (dst : Option Tmp) (v : AV) : PT AV := match dst with
  | none => fr
  | some d => match Nat.blt d n with
    | true => fr.set d v
    | false => fr

def aeval (fr : PT AV) : Operand → AV
  | .tmp t => fget fr t
  | .const v => match AV.ofValue v with
    | some x => x
    | none => .undef
  | .global g => .ptr g 0
  | .func f => .func (.func f) [] []

def opdOk (P : Program) : Operand → Bool
  | .tmp _ => true
  | .const v => (AV.ofValue v).isSome
  | .global g => Nat.blt g P.globals.size
  | .func _ => true

def allOk (P : Program) : List Operand → Bool
  | [] => true
  | x :: l => match opdOk P x with
    | true => allOk P l
    | false => false

def opOk (P : Program) (op : Op) : Bool := allOk P op.operands.toList

structure SRel (P : Program) (θ : Where) (σ : AHeap) (w : World) : Prop where
  rel : Rel θ σ w.heap
  glob : ∀ g, g < P.globals.size → θ g = some (g, 0)

structure FRel (θ : Where) (n : Nat) (fr : PT AV) (a : Act) : Prop where
  size : a.tmps.size = n
  tmps : ∀ t, VRel θ (fget fr t) (a.tmps.getD t Go.undef)
  defers : a.defers = []

theorem SRel.ev {θ θ' : Where} {σ σ' : AHeap} {w w' : World} (h : SRel P θ σ w) (e : Ev θ σ w θ' σ' w') : SRel P θ' σ' w' :=
  ⟨e.rel, fun g hg => (e.le h.rel g _ (h.glob g hg)).1⟩

theorem FRel.mono {θ θ' : Where} {n : Nat} {fr : PT AV} {a : Act} (h : FRel θ n fr a) (hle : θ.le θ') : FRel θ' n fr a :=
  ⟨h.size, fun t => VRel.mono hle _ _ (h.tmps t), h.defers⟩

theorem FRel.put {θ : Where} {n : Nat} {fr : PT AV} {a : Act} (h : FRel θ n fr a) (dst : Option Tmp) {v : AV} {cv : Value} (hv : VRel θ v cv) : FRel θ n (fput n fr dst v) (a.put dst cv) := by
  cases dst with
  | none => exact h
  | some d =>
    refine ⟨by simp [Act.put, h.size], fun t => ?_, h.defers⟩
    simp only [fput, Act.put]
    split
    · rename_i hlt
      have hlt' : d < a.tmps.size := by rw [h.size]; exact Nat.le_of_ble_eq_true hlt
      by_cases e : d = t
      · subst e
        simp [fget, PT.get_set, hlt', hv]
      · have := h.tmps t
        simp only [fget, PT.get_set, if_neg e] at this ⊢
        rw [Array.getD_eq_getD_getElem?] at this ⊢
        rw [Array.getElem?_setIfInBounds_ne e]; exact this
    · rename_i hge
      have hge' : ¬ d < a.tmps.size := by
        rw [h.size]; intro hlt
        have : Nat.blt d n = true := by simpa [Nat.blt_eq] using hlt
        rw [this] at hge; simp at hge
      have := h.tmps t
      rw [Array.getD_eq_getD_getElem?] at this ⊢
      rw [Array.setIfInBounds, dif_neg hge']; exact this

theorem opd_rel {θ : Where} {σ : AHeap} {w : World} {n : Nat} {fr : PT AV} {a : Act} (hS : SRel P θ σ w) (hF : FRel θ n fr a) {x : Operand} (h : opdOk P x = true) : VRel θ (aeval fr x) (a.eval x) := by
  cases x with
  | tmp t => exact hF.tmps t
  | const v =>
    simp only [opdOk, Option.isSome_iff_exists] at h
    obtain ⟨y, hy⟩ := h
    simp only [aeval, hy, Act.eval]
    exact ofValue_rel v y hy
  | global g =>
    simp only [aeval, Act.eval]
    rw [vrel_ptr]
    exact ⟨g, 0, hS.glob g (Nat.le_of_ble_eq_true h), rfl⟩
  | func f => simp [aeval, Act.eval, VRel, VRels]

theorem allOk_mem : ∀ {l : List Operand} {x : Operand}, allOk P l = true → x ∈ l → opdOk P x = true
  | y :: l, x, h, hm => by
    simp only [allOk] at h
    split at h
    · rename_i hy
      rcases List.mem_cons.1 hm with rfl | hm
      · exact hy
      · exact allOk_mem h hm
    · simp at h

theorem opds_rel {θ : Where} {σ : AHeap} {w : World} {n : Nat} {fr : PT AV} {a : Act} (hS : SRel P θ σ w) (hF : FRel θ n fr a) {op : Op} (h : opOk P op = true) : ∀ x ∈ op.operands, VRel θ (aeval fr x) (a.eval x) :=
  fun x hx => opd_rel hS hF (allOk_mem h (by simpa using hx))

/-- what a call of function f does -/
def Tr (P : Program) (f : FuncId) (args : List AV) (σ : AHeap) (Q : AV → AHeap → Prop) : Prop :=
  ∀ θ w (cargs : Array Value), SRel P θ σ w → VRels θ args cargs.toList →
    (∃ cv w' v σ' θ', (callFunc f cargs).run P w = .ok (.value cv) w' ∧ Q v σ' ∧ Ev θ σ w θ' σ' w' ∧ VRel θ' v cv) ∨
    ((callFunc f cargs).run P w = .ok (.enter f cargs) w ∧ Calls P f cargs w fun e w' => ∃ cv v σ' θ', e = .returned cv ∧ Q v σ' ∧ Ev θ σ w θ' σ' w' ∧ VRel θ' v cv)

theorem Tr.mono {f : FuncId} {args : List AV} {σ : AHeap} {Q Q' : AV → AHeap → Prop} (h : Tr P f args σ Q) (hq : ∀ v σ', Q v σ' → Q' v σ') : Tr P f args σ Q' := by
  intro θ w cargs hS hr
  rcases h θ w cargs hS hr with ⟨cv, w', v, σ', θ', h1, h2, h3⟩ | ⟨h1, h2⟩
  · exact .inl ⟨cv, w', v, σ', θ', h1, hq _ _ h2, h3⟩
  · exact .inr ⟨h1, h2.mono fun e w' ⟨cv, v, σ', θ', k1, k2, k3⟩ => ⟨cv, v, σ', θ', k1, hq _ _ k2, k3⟩⟩

/-- the method that a call through an interface value comes to: those of the type's own alone -/
def aMethod (P : Program) (σ : PT ABlock) (t : TypeId) (v : AV) (name : String) : Option (FuncId × AV) :=
  match P.info? t with
  | some i => match i.methods.find? (·.name == name) with
    | some m => match m.path.isEmpty, m.func with
      | true, some (f, ptr) => match P.underlying t, ptr with
        | some (.pointer _), true => some (f, v)
        | some (.pointer _), false => none
        | some _, false => some (f, v)
        | _, _ => none
      | _, _ => none
    | none => none
  | none => none

def aCallee (P : Program) (ρ : Operand → AV) (σ : PT ABlock) (op : Op) : Option (FuncId × List AV) :=
  match op with
  | .call c => match c.callee with
    | .value x => match ρ x with
      | .func (.func f) first captured => some (f, first ++ mapOps ρ c.args.toList ++ captured)
      | .func (.method name) first _ => match first ++ mapOps ρ c.args.toList with
        | .iface t v :: rest => match aMethod P σ t v name with
          | some (f, r) => some (f, r :: rest)
          | none => none
        | _ => none
      | .func (.methodOf t name) first _ => match P.underlying t, first ++ mapOps ρ c.args.toList with
        | some (.interface _), .iface t' v :: rest => match aMethod P σ t' v name with
          | some (f, r) => some (f, r :: rest)
          | none => none
        | some (.interface _), _ => none
        | some _, v :: rest => match aMethod P σ t v name with
          | some (f, r) => some (f, r :: rest)
          | none => none
        | _, _ => none
      | _ => none
    | .invoke x name => match ρ x with
      | .iface t v => match aMethod P σ t v name with
        | some (f, r) => some (f, r :: mapOps ρ c.args.toList)
        | none => none
      | _ => none
    | .builtin _ => none
  | _ => none

theorem aMethod_run {θ : Where} {σ : PT ABlock} {w : World} {t : TypeId} {v r : AV} {cv : Value} {name : String} {f : FuncId} (h : aMethod P σ t v name = some (f, r)) (hv : VRel θ v cv) :
    ∃ cr, (method (P.types.size + Made.depth) t cv name).run P w = .ok (f, cr) w ∧ VRel θ r cr := by
  unfold aMethod at h
  split at h
  · rename_i i hi
    split at h
    · rename_i m hm
      split at h
      · rename_i f' ptr hp hf
        have hfuel : ∃ k, P.types.size + Made.depth = k + 1 := ⟨P.types.size + 99, by simp [Made.depth]⟩
        obtain ⟨k, hk⟩ := hfuel
        have hpl : m.path.toList = [] := by
          have := Array.isEmpty_iff.1 hp
          rw [this]
        split at h
        · rename_i el hu
          simp at h; obtain ⟨rfl, rfl⟩ := h
          refine ⟨cv, ?_, hv⟩
          rw [hk]
          simp [method, typeInfo, hi, hm, hpl, follow, hf, receiverAt, run_underlying hu, Place.get]
        · simp at h
        · rename_i d hne hu
          simp at h; obtain ⟨rfl, rfl⟩ := h
          refine ⟨cv, ?_, hv⟩
          rw [hk]
          simp only [method, Sem.run_bind, typeInfo, run_program, Result.andThen_ok, hi, Sem.run_pure, hm, hpl, follow, hf, receiverAt, run_underlying hu]
          cases d <;> first
            | (simp [Place.get]; done)
            | (exfalso; exact hne _ rfl)
        · simp at h
      · simp at h
    · simp at h
  · simp at h

theorem aCallee_run {θ : Where} {σ : PT ABlock} {w : World} {ρ : Operand → AV} {ρ' : Operand → Value} {o : Oper} {f : FuncId} {args : List AV} (hρ : ∀ x ∈ o.op.operands, VRel θ (ρ x) (ρ' x))
    (h : aCallee P ρ σ o.op = some (f, args)) : ∃ cargs : Array Value, (execOp ρ' o).run P w = (callFunc f cargs).run P w ∧ VRels θ args cargs.toList := by
  obtain ⟨dst, op, type, pos, after, guard⟩ := o
  simp only at hρ h
  unfold aCallee at h
  split at h
  case h_2 => simp at h
  rename_i c
  obtain ⟨callee, cargs, ts⟩ := c
  simp only at h
  have hr : VRels θ (mapOps ρ cargs.toList) (cargs.map ρ').toList := by
    rw [Array.toList_map]
    exact mapOps_rel fun x hx => hρ x (by simp only [Op.operands, Call.operands, Array.mem_append]; exact .inr (by simpa using hx))
  split at h
  · rename_i x
    have hx := hρ x (by simp [Op.operands, Call.operands])
    split at h
    · rename_i f' first captured e
      rw [e, vrel_func] at hx
      obtain ⟨a', b', hc, h1, h2⟩ := hx
      simp at h; obtain ⟨rfl, rfl⟩ := h
      refine ⟨a' ++ cargs.map ρ' ++ b', ?_, ?_⟩
      · simp only [execOp, resolve, hc, Deferred.ofValue, Sem.run_bind, Sem.run_pure, Result.andThen_ok, invoke]
      · rw [← List.append_assoc, Array.toList_append, Array.toList_append]
        exact vrels_append (vrels_append h1 hr) h2
    · rename_i name first captured e
      rw [e, vrel_func] at hx
      obtain ⟨a', b', hc, h1, h2⟩ := hx
      have hall := vrels_append h1 hr
      split at h
      · rename_i t v rest e2
        rw [e2] at hall
        split at h
        · rename_i f' r hm
          simp at h; obtain ⟨rfl, rfl⟩ := h
          cases hcs : a'.toList ++ (cargs.map ρ').toList with
          | nil => rw [hcs] at hall; simp [VRels] at hall
          | cons c0 cs =>
            rw [hcs] at hall
            simp only [VRels] at hall
            obtain ⟨hc0, hrest⟩ := hall
            rw [vrel_iface] at hc0
            obtain ⟨cv, rfl, hcv⟩ := hc0
            obtain ⟨cr, hmr, hrr⟩ := aMethod_run (P := P) (w := w) hm hcv
            have ea : a' ++ cargs.map ρ' = ⟨.iface t cv :: cs⟩ := by
              apply Array.ext'
              rw [Array.toList_append, hcs]
            refine ⟨⟨cr :: cs⟩, ?_, by simp only [VRels]; exact ⟨hrr, hrest⟩⟩
            simp only [execOp, resolve, hc, Deferred.ofValue, Sem.run_bind, Sem.run_pure, Result.andThen_ok, invoke, ea]
            simp [callMethod, hmr]
        · simp at h
      · simp at h
    · rename_i t name first captured e
      rw [e, vrel_func] at hx
      obtain ⟨a', b', hc, h1, h2⟩ := hx
      have hall := vrels_append h1 hr
      split at h
      · rename_i ms t' v rest hu e2
        rw [e2] at hall
        split at h
        · rename_i f' r hm
          simp at h; obtain ⟨rfl, rfl⟩ := h
          cases hcs : a'.toList ++ (cargs.map ρ').toList with
          | nil => rw [hcs] at hall; simp [VRels] at hall
          | cons c0 cs =>
            rw [hcs] at hall
            simp only [VRels] at hall
            obtain ⟨hc0, hrest⟩ := hall
            rw [vrel_iface] at hc0
            obtain ⟨cv, rfl, hcv⟩ := hc0
            obtain ⟨cr, hmr, hrr⟩ := aMethod_run (P := P) (w := w) hm hcv
            have ea : a' ++ cargs.map ρ' = ⟨.iface t' cv :: cs⟩ := by
              apply Array.ext'
              rw [Array.toList_append, hcs]
            refine ⟨⟨cr :: cs⟩, ?_, by simp only [VRels]; exact ⟨hrr, hrest⟩⟩
            simp only [execOp, resolve, hc, Deferred.ofValue, Sem.run_bind, Sem.run_pure, Result.andThen_ok, invoke, ea]
            simp [callMethod, hmr, run_underlying hu]
        · simp at h
      · simp at h
      · rename_i d v rest hne hu e2
        rw [e2] at hall
        split at h
        · rename_i f' r hm
          simp at h; obtain ⟨rfl, rfl⟩ := h
          cases hcs : a'.toList ++ (cargs.map ρ').toList with
          | nil => rw [hcs] at hall; simp [VRels] at hall
          | cons c0 cs =>
            rw [hcs] at hall
            simp only [VRels] at hall
            obtain ⟨hc0, hrest⟩ := hall
            obtain ⟨cr, hmr, hrr⟩ := aMethod_run (P := P) (w := w) hm hc0
            have ea : a' ++ cargs.map ρ' = ⟨c0 :: cs⟩ := by
              apply Array.ext'
              rw [Array.toList_append, hcs]
            refine ⟨⟨cr :: cs⟩, ?_, by simp only [VRels]; exact ⟨hrr, hrest⟩⟩
            simp only [execOp, resolve, hc, Deferred.ofValue, Sem.run_bind, Sem.run_pure, Result.andThen_ok, invoke, ea]
            cases d <;> first
              | (exfalso; exact hne _ rfl)
              | simp [callMethod, hmr, run_underlying hu]
        · simp at h
      · simp at h
    · simp at h
  · rename_i x name
    have hx := hρ x (by simp [Op.operands, Call.operands])
    split at h
    · rename_i t v e
      rw [e, vrel_iface] at hx
      obtain ⟨cv, hc, hcv⟩ := hx
      split at h
      · rename_i f' r hm
        simp at h; obtain ⟨rfl, rfl⟩ := h
        obtain ⟨cr, hmr, hrr⟩ := aMethod_run (P := P) (w := w) hm hcv
        have ea : #[ρ' x] ++ cargs.map ρ' = ⟨.iface t cv :: (cargs.map ρ').toList⟩ := by
          apply Array.ext'
          rw [hc]; simp
        refine ⟨⟨cr :: (cargs.map ρ').toList⟩, ?_, by simp only [VRels]; exact ⟨hrr, hr⟩⟩
        simp only [execOp, resolve, Sem.run_bind, Sem.run_pure, Result.andThen_ok, invoke, ea]
        generalize (Array.map ρ' cargs).toList = l
        simp [callMethod, hmr]
      · simp at h
    · simp at h
  · simp at h

end Go.Am
