import Derived.Test.YtophnlmdcidolaaDoorC19
set_option linter.all false
namespace Go.Am
variable {P : Program}

structure Static (P : Program) (ops : Array Oper) (n i : Nat) (o : Oper) : Prop where
  dst : ∀ d, o.dst = some d → Nat.blt d n = true
  guard : ∀ g b, o.guard = some (g, b) → g ∈ predsOf o
  ssa : quiet P o.op = true → ∀ d, o.dst = some d → d ∉ looks ops o ∧ ∀ j x, ops[j]? = some x → j ≠ i → (d ∈ looks ops x ∨ x.dst = some d) → ((masks ops).getD j 0).testBit i = true

theorem planSteps_static {ops : Array Oper} {n : Nat} : ∀ {todo done : List Nat}, planSteps P ops n (masks ops) todo done = true → ∀ i ∈ todo, ∃ o, ops[i]? = some o ∧ Static P ops n i o
  | [], _, _, i, hi => by simp at hi
  | k :: rest, done, h, i, hi => by
    simp only [planSteps] at h
    split at h
    · simp at h
    · rename_i o ho
      simp only [Bool.and_eq_true] at h
      obtain ⟨⟨⟨⟨⟨h1, h2⟩, h3⟩, h4⟩, h5⟩, h6⟩ := h
      rcases List.mem_cons.1 hi with rfl | hi
      · refine ⟨o, ho, ⟨fun d hd => by rw [hd] at h3; exact h3, fun g b hg => by rw [hg] at h4; simpa using h4, fun hq d hd => ?_⟩⟩
        rw [hq, hd] at h5
        simp only [Bool.and_eq_true, Bool.not_eq_true', List.all_eq_true, List.mem_range, Bool.or_eq_true] at h5
        refine ⟨by simpa using h5.1, fun j x hx hne hor => ?_⟩
        have hj : j < ops.size := by
          rcases Nat.lt_or_ge j ops.size with h' | h'
          · exact h'
          · simp [Array.getElem?_eq_none h'] at hx
        rcases h5.2 j hj with hb | hb
        · exact absurd (Nat.eq_of_beq_eq_true hb) hne
        · rw [hx] at hb
          simp only [Bool.or_eq_true, Bool.and_eq_true, Bool.not_eq_true'] at hb
          rcases hb with ⟨hb1, hb2⟩ | hb
          · exfalso
            rcases hor with hor | hor
            · have : (looks ops x).contains d = true := by simpa using hor
              rw [this] at hb1; simp at hb1
            · simp [hor] at hb2
          · exact hb
      · exact planSteps_static h6 i hi

theorem planSteps_cons {ops : Array Oper} {n k : Nat} {rest done : List Nat} (h : planSteps P ops n (masks ops) (k :: rest) done = true) :
    ∃ o, ops[k]? = some o ∧ (∀ p ∈ predsOf o, p ∈ done) ∧ k ∉ done ∧ planSteps P ops n (masks ops) rest (k :: done) = true ∧
      (quiet P o.op = false → ∀ j ∈ rest, ∃ x, ops[j]? = some x ∧ ∃ p ∈ predsOf x, p ∉ done) := by
  simp only [planSteps] at h
  split at h
  · simp at h
  · rename_i o ho
    simp only [Bool.and_eq_true] at h
    obtain ⟨⟨⟨⟨⟨h1, h2⟩, h3⟩, h4⟩, h5⟩, h6⟩ := h
    refine ⟨o, ho, fun p hp => ?_, by simpa using h2, h6, fun hq j hj => ?_⟩
    · have := List.all_eq_true.1 h1 p hp
      simpa using this
    · rw [hq] at h5
      have := List.all_eq_true.1 h5 j hj
      split at this
      · rename_i x hx
        refine ⟨x, hx, ?_⟩
        obtain ⟨p, hp, hc⟩ := List.any_eq_true.1 this
        exact ⟨p, hp, by simpa using hc⟩
      · simp at this

structure DInv (P : Program) (n : Nat) (ops : Array Oper) (θ0 : Where) (σ0 : AHeap) (w0 : World) (listed : Array Bool) (todo C : List Nat) (fr : PT AV) (σ : AHeap) (θ : Where) (a : Act) (w : World) : Prop where
  size : listed.size = ops.size
  dc : ∀ i, listed.getD i false = true → i ∈ C
  ec : ∀ i ∈ C, ∀ o, ops[i]? = some o → quiet P o.op = false → listed.getD i false = true
  cclosed : ∀ i o p, ops[i]? = some o → i ∈ C → p ∈ predsOf o → p ∈ C
  dclosed : ∀ i o p, ops[i]? = some o → listed.getD i false = true → p ∈ predsOf o → listed.getD p false = true
  cbound : ∀ i ∈ C, i < ops.size
  all : ∀ i, i < ops.size → i ∈ C ∨ i ∈ todo
  plan : planSteps P ops n (masks ops) todo C = true
  redo : ∀ j ∈ C, listed.getD j false = false → Redo P n ops fr σ j
  tsize : a.tmps.size = n
  defers : a.defers = []
  tmps : ∀ t, (∀ j ∈ C, listed.getD j false = false → ∀ o, ops[j]? = some o → o.dst ≠ some t) → VRel θ (fget fr t) (a.tmps.getD t Go.undef)
  srel : SRel P θ σ w
  ev : Ev θ0 σ0 w0 θ σ w

theorem ready_spec {ops : Array Oper} {listed : Array Bool} {i : Nat} (h : i ∈ Region.ready .any ops listed) (hs : listed.size = ops.size) :
    i < ops.size ∧ listed.getD i false = false ∧ ∃ o, ops[i]? = some o ∧ ∀ p ∈ predsOf o, listed.getD p false = true := by
  unfold Region.ready at h
  simp only [List.mem_filter, List.mem_range, Bool.and_eq_true, Bool.not_eq_true'] at h
  obtain ⟨h1, h2, h3⟩ := h
  refine ⟨h1, ?_, ?_⟩
  · rw [Array.getD_eq_getD_getElem?] at h2 ⊢
    have : i < listed.size := by omega
    simpa [this] using h2
  · cases ho : ops[i]? with
    | none => rw [ho] at h3; simp at h3
    | some o =>
      rw [ho] at h3
      simp only [Option.map_some, Option.getD_some] at h3
      refine ⟨o, rfl, fun p hp => ?_⟩
      simp only [predsOf, List.mem_map, List.mem_filter] at hp
      obtain ⟨e, ⟨he, hb⟩, rfl⟩ := hp
      have := Array.all_eq_true'.1 h3 e (by simpa using he)
      simpa [hb] using this

theorem ready_of {ops : Array Oper} {listed : Array Bool} {i : Nat} {o : Oper} (hs : listed.size = ops.size) (h1 : i < ops.size) (h2 : listed.getD i false = false) (ho : ops[i]? = some o) (h3 : ∀ p ∈ predsOf o, listed.getD p false = true) :
    i ∈ Region.ready .any ops listed := by
  unfold Region.ready
  simp only [List.mem_filter, List.mem_range, Bool.and_eq_true, Bool.not_eq_true']
  refine ⟨h1, ?_, ?_⟩
  · rw [Array.getD_eq_getD_getElem?] at h2 ⊢
    have : i < listed.size := by omega
    simpa [this] using h2
  · rw [ho]
    simp only [Option.map_some, Option.getD_some]
    rw [Array.all_eq_true']
    intro e he
    by_cases hb : Region.binds .any e = true
    · have := h3 e.on (by simp only [predsOf, List.mem_map, List.mem_filter]; exact ⟨e, ⟨by simpa using he, hb⟩, rfl⟩)
      simp [hb, this]
    · simp [hb]

section
variable {n : Nat} {ops : Array Oper} {θ0 θ : Where} {σ0 σ : AHeap} {w0 w : World} {listed : Array Bool} {todo C : List Nat} {fr : PT AV} {a : Act}

/-- where an operation that may come next looks, nothing is still to come -/
theorem DInv.look (hst : ∀ i, i < ops.size → ∃ o, ops[i]? = some o ∧ Static P ops n i o) (h : DInv P n ops θ0 σ0 w0 listed todo C fr σ θ a w) {i : Nat} {o : Oper} (ho : ops[i]? = some o)
    (hp : ∀ p ∈ predsOf o, listed.getD p false = true) {t : Nat} (ht : t ∈ looks ops o) : VRel θ (fget fr t) (a.tmps.getD t Go.undef) := by
  refine h.tmps t fun j hj hl x hx hd => ?_
  obtain ⟨x', hx', hs⟩ := hst j (h.cbound j hj)
  rw [hx] at hx'; simp at hx'; subst hx'
  have hq : quiet P x.op = true := by
    cases hq : quiet P x.op with
    | true => rfl
    | false => have := h.ec j hj x hx hq; rw [hl] at this; simp at this
  obtain ⟨h1, h2⟩ := hs.ssa hq t hd
  by_cases e : i = j
  · subst e; rw [ho] at hx; simp at hx; subst hx; exact h1 ht
  · have hb := h2 i o ho e (.inl ht)
    have := mask_closed (ops := ops) (D := fun k => listed.getD k false = true ∨ k = i) (fun k y p hy hk hpp => by
      rcases hk with hk | rfl
      · exact .inl (h.dclosed k y p hy hk hpp)
      · rw [ho] at hy; simp at hy; subst hy; exact .inl (hp p hpp)) i j (.inr rfl) hb
    rcases this with this | rfl
    · rw [hl] at this; simp at this
    · exact e rfl

theorem DInv.opds (hst : ∀ i, i < ops.size → ∃ o, ops[i]? = some o ∧ Static P ops n i o) (h : DInv P n ops θ0 σ0 w0 listed todo C fr σ θ a w) {i : Nat} {o : Oper} (ho : ops[i]? = some o)
    (hp : ∀ p ∈ predsOf o, listed.getD p false = true) (hok : opOk P o.op = true) : ∀ x ∈ o.op.operands, VRel θ (aeval fr x) (a.eval x) := by
  intro x hx
  have hx' := allOk_mem hok (by simpa using hx)
  cases x with
  | tmp t => exact h.look hst ho hp (by simp only [looks, List.mem_append]; exact .inl (mem_opTmps.2 (by simpa using hx)))
  | const v =>
    simp only [opdOk, Option.isSome_iff_exists] at hx'
    obtain ⟨y, hy⟩ := hx'
    simp only [aeval, hy, Act.eval]
    exact ofValue_rel v y hy
  | global g =>
    simp only [aeval, Act.eval]
    rw [vrel_ptr]
    exact ⟨g, 0, h.srel.glob g (Nat.le_of_ble_eq_true hx'), rfl⟩
  | func f => simp [aeval, Act.eval, VRel, VRels]

theorem DInv.wanted (hst : ∀ i, i < ops.size → ∃ o, ops[i]? = some o ∧ Static P ops n i o) (h : DInv P n ops θ0 σ0 w0 listed todo C fr σ θ a w) {i : Nat} {o : Oper} (ho : ops[i]? = some o)
    (hp : ∀ p ∈ predsOf o, listed.getD p false = true) : Region.wanted o (yielded ops a.tmps) = wantedA ops fr o := by
  refine wanted_of fun j b g d hg hj hd => h.look hst ho hp ?_
  simp [looks, guardTmp, hg, hj, hd]

theorem listed_set {i k : Nat} (h : i < listed.size) : (listed.setIfInBounds i true).getD k false = if i = k then true else listed.getD k false := by
  rw [Array.getD_eq_getD_getElem?, Array.getD_eq_getD_getElem?, Array.getElem?_setIfInBounds]
  by_cases e : i = k
  · subst e; simp [h]
  · simp [e]

theorem tmps_put (hs : a.tmps.size = n) {dst : Option Tmp} (hd : ∀ d, dst = some d → Nat.blt d n = true) (cv : Value) (t : Nat) : (a.put dst cv).tmps.getD t Go.undef = if dst = some t then cv else a.tmps.getD t Go.undef := by
  cases dst with
  | none => simp [Act.put]
  | some d =>
    have hlt : d < a.tmps.size := by rw [hs]; exact Nat.le_of_ble_eq_true (hd d rfl)
    simp only [Act.put]
    rw [Array.getD_eq_getD_getElem?, Array.getD_eq_getD_getElem?]
    by_cases e : d = t
    · subst e; simp [hlt]
    · rw [Array.getElem?_setIfInBounds_ne e, if_neg (by simp; exact e)]

/-- an operation that was told already comes now -/
theorem draw_pending (hst : ∀ i, i < ops.size → ∃ o, ops[i]? = some o ∧ Static P ops n i o) {Q : PT AV → AHeap → Prop} {QC : Exit → Act → World → Prop}
    (h : DInv P n ops θ0 σ0 w0 listed todo C fr σ θ a w) (hd : ADraw P n ops (masks ops) Q todo C fr σ) {i : Nat} (hi : i ∈ Region.ready .any ops listed) (hC : i ∈ C) :
    wpOp P ops QC i (fun a' w' => ∃ todo' C' fr' σ' θ', ADraw P n ops (masks ops) Q todo' C' fr' σ' ∧ DInv P n ops θ0 σ0 w0 (listed.setIfInBounds i true) todo' C' fr' σ' θ' a' w') a w := by
  obtain ⟨hlt, hnl, o, ho, hp⟩ := ready_spec hi h.size
  obtain ⟨o', ho', hs⟩ := hst i hlt
  rw [ho] at ho'; simp at ho'; subst ho'
  have hredo := h.redo i hC hnl
  have hq : quiet P o.op = true := by
    cases hq : quiet P o.op with
    | true => rfl
    | false => have := h.ec i hC o ho hq; rw [hnl] at this; simp at this
  unfold Redo at hredo
  rw [ho] at hredo
  simp only at hredo
  have fin : ∀ (v : AV) (cv : Value), VRel θ v cv → (∀ d, o.dst = some d → fget fr d = v) →
      DInv P n ops θ0 σ0 w0 (listed.setIfInBounds i true) todo C fr σ θ (a.put o.dst cv) w := by
    intro v cv hv hdv
    have hl := fun k => listed_set (listed := listed) (i := i) (k := k) (by rw [h.size]; exact hlt)
    refine ⟨by simp [h.size], fun k hk => ?_, fun k hk x hx hqx => ?_, h.cclosed, fun k x p hx hk hpp => ?_, h.cbound, h.all, h.plan, fun k hk hkl => ?_, ?_, ?_, fun t ht => ?_, h.srel, h.ev⟩
    · rw [hl] at hk
      by_cases e : i = k
      · subst e; exact hC
      · rw [if_neg e] at hk; exact h.dc k hk
    · rw [hl]; split
      · rfl
      · exact h.ec k hk x hx hqx
    · rw [hl] at hk ⊢
      by_cases e : i = k
      · subst e; rw [ho] at hx; simp at hx; subst hx
        split
        · rfl
        · exact hp p hpp
      · rw [if_neg e] at hk
        split
        · rfl
        · exact h.dclosed k x p hx hk hpp
    · rw [hl] at hkl
      by_cases e : i = k
      · rw [if_pos e] at hkl; simp at hkl
      · rw [if_neg e] at hkl; exact h.redo k hk hkl
    · cases hd : o.dst <;> simp [Act.put, h.tsize]
    · cases hd : o.dst <;> simp [Act.put, h.defers]
    · rw [tmps_put h.tsize hs.dst]
      by_cases e : o.dst = some t
      · rw [if_pos e, hdv t e]; exact hv
      · rw [if_neg e]
        refine h.tmps t fun j hj hjl x hx => ?_
        by_cases e2 : i = j
        · subst e2; rw [ho] at hx; simp at hx; subst hx; exact e
        · exact ht j hj (by rw [hl, if_neg e2]; exact hjl) x hx
  unfold wpOp
  rw [ho]
  simp only [h.wanted hst ho hp]
  split at hredo
  · rename_i hw
    rw [hw, if_pos rfl]
    obtain ⟨v, hok, hrd, hdv⟩ := hredo
    obtain ⟨cv, h1, h2⟩ := rd_sound (P := P) h.srel.rel.mem (h.opds hst ho hp hok) hrd
    refine .inl ?_
    unfold Oper.wp
    rw [h1, Oper.upon_value]
    exact ⟨todo, C, fr, σ, θ, hd, fin v cv h2 hdv⟩
  · rename_i hw
    rw [hw, if_neg (by simp)]
    exact ⟨todo, C, fr, σ, θ, hd, fin .undef Go.undef vrel_undef hredo⟩

end

end Go.Am
