import Derived.Test.YtophnlmdcidolaaDoorC20
set_option linter.all false
namespace Go.Am
variable {P : Program}

theorem aexec_raw {θ : Where} {σ : AHeap} {w : World} {n : Nat} {fr : PT AV} {a : Act} {o : Oper} {K : PT AV → AHeap → Prop} {next : Act → World → Prop} {Q : Exit → Act → World → Prop}
    (h : AExec P n o fr σ K) (hS : SRel P θ σ w) (hρ : opOk P o.op = true → ∀ x ∈ o.op.operands, VRel θ (aeval fr x) (a.eval x))
    (hK : ∀ v cv θ' σ' w', K (fput n fr o.dst v) σ' → Ev θ σ w θ' σ' w' → VRel θ' v cv → next (a.put o.dst cv) w') : o.wp P a w next Q := by
  obtain ⟨hok, h⟩ := h
  have hρ := hρ hok
  unfold Oper.wp
  rcases h with ⟨v, hv, hk⟩ | ⟨v, σ', hv, hk⟩ | ⟨f, args, hc, htr⟩
  · obtain ⟨cv, h1, h2⟩ := rd_sound hS.rel.mem hρ hv
    rw [h1, Oper.upon_value]
    exact hK _ _ _ _ _ hk (Ev.refl hS.rel) h2
  · obtain ⟨θ', w', hev, cv, hvr, h1 | ⟨h1, h2⟩⟩ := wr_sound hS.rel hρ hv
    · rw [h1, Oper.upon_value]
      exact hK _ _ _ _ _ hk hev hvr
    · subst h2
      rw [h1, Oper.upon_skip]
      exact hK _ _ _ _ _ hk hev hvr
  · obtain ⟨cargs, h1, h2⟩ := aCallee_run (w := w) hρ hc
    rw [h1]
    rcases htr θ w cargs hS h2 with ⟨cv, w', v, σ', θ', k1, k2, k3, k4⟩ | ⟨k1, k2⟩
    · rw [k1, Oper.upon_value]
      exact hK _ _ _ _ _ k2 k3 k4
    · rw [k1, Oper.upon_enter]
      refine k2.mono fun e w' ⟨cv, v, σ', θ', q1, q2, q3, q4⟩ => ?_
      subst q1
      exact hK _ _ _ _ _ q2 q3 q4

section
variable {n : Nat} {ops : Array Oper} {θ0 : Where} {σ0 : AHeap} {w0 : World} {Q : PT AV → AHeap → Prop} {QC : Exit → Act → World → Prop}

theorem redo_put (hst : ∀ i, i < ops.size → ∃ o, ops[i]? = some o ∧ Static P ops n i o) {C : List Nat} (hcl : ∀ i o p, ops[i]? = some o → i ∈ C → p ∈ predsOf o → p ∈ C) {k : Nat} {o : Oper} (ho : ops[k]? = some o)
    (hs : Static P ops n k o) (hq : quiet P o.op = true) (hk : k ∉ C) {j : Nat} (hj : j ∈ C) {fr : PT AV} {σ : AHeap} {v : AV} (h : Redo P n ops fr σ j) : Redo P n ops (fput n fr o.dst v) σ j := by
  unfold Redo at *
  cases hx : ops[j]? with
  | none => rw [hx] at h; exact h
  | some x =>
    rw [hx] at h
    simp only at h ⊢
    have hno : ∀ d, o.dst = some d → d ∉ looks ops x ∧ x.dst ≠ some d := by
      intro d hd
      have hb := (hs.ssa hq d hd).2 j x hx (fun e => hk (e ▸ hj))
      have hm : ((masks ops).getD j 0).testBit k = true → False := fun hb => hk (mask_closed (D := fun i => i ∈ C) hcl j k hj hb)
      exact ⟨fun hl => hm (hb (.inl hl)), fun hl => hm (hb (.inr hl))⟩
    rw [wantedA_fput fun d hd => fun hg => (hno d hd).1 (by simp only [looks, List.mem_append]; exact .inr hg)]
    have hget : ∀ e, x.dst = some e → fget (fput n fr o.dst v) e = fget fr e := by
      intro e he
      cases hd : o.dst with
      | none => rfl
      | some d =>
        rw [fget_fput (hs.dst d hd), if_neg]
        intro e2; subst e2
        exact (hno d hd).2 he
    split at h
    · obtain ⟨u, h1, h2, h3⟩ := h
      refine ⟨u, h1, ?_, fun e he => by rw [hget e he]; exact h3 e he⟩
      rw [← h2]
      refine rd_congr fun y hy => aeval_fput fun d hd e => ?_
      subst e
      exact (hno d hd).1 (by simp only [looks, List.mem_append]; exact .inl (mem_opTmps.2 (by simpa using hy)))
    · exact fun e he => by rw [hget e he]; exact h e he

theorem draw_step (hst : ∀ i, i < ops.size → ∃ o, ops[i]? = some o ∧ Static P ops n i o) : ∀ (todo : List Nat) {listed : Array Bool} {C : List Nat} {fr : PT AV} {σ : AHeap} {θ : Where} {a : Act} {w : World},
    DInv P n ops θ0 σ0 w0 listed todo C fr σ θ a w → ADraw P n ops (masks ops) Q todo C fr σ → ∀ {i : Nat}, i ∈ Region.ready .any ops listed →
    wpOp P ops QC i (fun a' w' => ∃ todo' C' fr' σ' θ', ADraw P n ops (masks ops) Q todo' C' fr' σ' ∧ DInv P n ops θ0 σ0 w0 (listed.setIfInBounds i true) todo' C' fr' σ' θ' a' w') a w
  | [], listed, C, fr, σ, θ, a, w, h, hd, i, hi => by
    obtain ⟨hlt, _⟩ := ready_spec hi h.size
    have hC : i ∈ C := (h.all i hlt).resolve_right (by simp)
    exact draw_pending hst h hd hi hC
  | k :: rest, listed, C, fr, σ, θ, a, w, h, hd, i, hi => by
    by_cases hC : i ∈ C
    · exact draw_pending hst h hd hi hC
    · obtain ⟨o, ho, hpre, hkC, hplan, heager⟩ := planSteps_cons h.plan
      have hklt : k < ops.size := by
        rcases Nat.lt_or_ge k ops.size with h' | h'
        · exact h'
        · simp [Array.getElem?_eq_none h'] at ho
      obtain ⟨o', ho', hs⟩ := hst k hklt
      rw [ho] at ho'; simp at ho'; subst ho'
      have hknl : listed.getD k false = false := by
        cases hl : listed.getD k false with
        | false => rfl
        | true => exact (hkC (h.dc k hl)).elim
      simp only [ADraw, ho] at hd
      cases hq : quiet P o.op with
      | true =>
        rw [hq] at hd
        simp only at hd
        -- told now, done later
        have key : ∀ v, (match wantedA ops fr o with
            | true => opOk P o.op = true ∧ rd P (aeval fr) σ.m o.op = some v
            | false => v = .undef) → DInv P n ops θ0 σ0 w0 listed rest (k :: C) (fput n fr o.dst v) σ θ a w := by
          intro v hv
          have hself : ∀ d, o.dst = some d → d ∉ looks ops o := fun d hd => (hs.ssa hq d hd).1
          refine ⟨h.size, fun j hj => by simp [h.dc j hj], fun j hj x hx hqx => ?_, fun j x p hx hj hp => ?_, h.dclosed, fun j hj => ?_, fun j hj => ?_, hplan, fun j hj hjl => ?_, h.tsize, h.defers, fun t ht => ?_, h.srel, h.ev⟩
          · rcases List.mem_cons.1 hj with rfl | hj
            · rw [ho] at hx; simp at hx; subst hx; rw [hq] at hqx; simp at hqx
            · exact h.ec j hj x hx hqx
          · rcases List.mem_cons.1 hj with rfl | hj
            · rw [ho] at hx; simp at hx; subst hx; simp [hpre p hp]
            · simp [h.cclosed j x p hx hj hp]
          · rcases List.mem_cons.1 hj with rfl | hj
            · exact hklt
            · exact h.cbound j hj
          · rcases h.all j hj with hj | hj
            · exact .inl (by simp [hj])
            · rcases List.mem_cons.1 hj with rfl | hj
              · exact .inl (by simp)
              · exact .inr hj
          · rcases List.mem_cons.1 hj with rfl | hj
            · unfold Redo
              rw [ho]
              simp only
              rw [wantedA_fput fun d hd => fun hg => hself d hd (by simp only [looks, List.mem_append]; exact .inr hg)]
              have hget : ∀ d, o.dst = some d → fget (fput n fr o.dst v) d = v := by
                intro d hd
                rw [hd, fget_fput (hs.dst d hd), if_pos rfl]
              split at hv
              · rename_i hw
                rw [hw]
                refine ⟨v, hv.1, ?_, hget⟩
                rw [← hv.2]
                refine rd_congr fun y hy => aeval_fput fun d hd e => ?_
                subst e
                exact hself d hd (by simp only [looks, List.mem_append]; exact .inl (mem_opTmps.2 (by simpa using hy)))
              · rename_i hw
                rw [hw]
                subst hv
                exact hget
            · exact redo_put hst h.cclosed ho hs hq hkC hj (h.redo j hj hjl)
          · have hne : o.dst ≠ some t := ht k (by simp) hknl o ho
            have : fget (fput n fr o.dst v) t = fget fr t := by
              cases hd : o.dst with
              | none => rfl
              | some d =>
                rw [fget_fput (hs.dst d hd), if_neg]
                intro e; subst e; exact hne hd
            rw [this]
            exact h.tmps t fun j hj hjl => ht j (by simp [hj]) hjl
        split at hd
        · rename_i hw
          obtain ⟨hok, v, hv, hd⟩ := hd
          exact draw_step hst rest (key v (by rw [hw]; exact ⟨hok, hv⟩)) hd hi
        · rename_i hw
          exact draw_step hst rest (key .undef (by rw [hw])) hd hi
      | false =>
        rw [hq] at hd
        simp only at hd
        obtain ⟨hlt, hnl, oi, hoi, hpi⟩ := ready_spec hi h.size
        have hik : i = k := by
          rcases h.all i hlt with hi' | hi'
          · exact (hC hi').elim
          · rcases List.mem_cons.1 hi' with e | hi'
            · exact e
            · obtain ⟨x, hx, p, hp, hpc⟩ := heager hq i hi'
              rw [hoi] at hx; simp at hx; subst hx
              exact (hpc (h.dc p (hpi p hp))).elim
        subst hik
        rw [ho] at hoi; simp at hoi; subst hoi
        have hl := fun j => listed_set (listed := listed) (i := i) (k := j) (by rw [h.size]; exact hlt)
        have fin : ∀ v cv θ' σ' w', ((∀ j ∈ C, (match ops[j]? with | some x => quiet P x.op | none => false) = true → ((masks ops).getD i 0).testBit j = false → Redo P n ops (fput n fr o.dst v) σ' j) ∧
              ADraw P n ops (masks ops) Q rest (i :: C) (fput n fr o.dst v) σ') → Ev θ σ w θ' σ' w' → VRel θ' v cv →
            ∃ todo' C' fr' σ'' θ'', ADraw P n ops (masks ops) Q todo' C' fr' σ'' ∧ DInv P n ops θ0 σ0 w0 (listed.setIfInBounds i true) todo' C' fr' σ'' θ'' (a.put o.dst cv) w' := by
          rintro v cv θ' σ' w' ⟨hre, hd'⟩ hev hv
          refine ⟨rest, i :: C, _, σ', θ', hd', by simp [h.size], fun j hj => ?_, fun j hj x hx hqx => ?_, fun j x p hx hj hp => ?_, fun j x p hx hj hp => ?_, fun j hj => ?_, fun j hj => ?_, hplan, fun j hj hjl => ?_, ?_, ?_, fun t ht => ?_, h.srel.ev hev, h.ev.trans hev⟩
          · rw [hl] at hj
            by_cases e : i = j
            · subst e; simp
            · rw [if_neg e] at hj; simp [h.dc j hj]
          · rw [hl]
            rcases List.mem_cons.1 hj with rfl | hj
            · simp
            · split
              · rfl
              · exact h.ec j hj x hx hqx
          · rcases List.mem_cons.1 hj with rfl | hj
            · rw [ho] at hx; simp at hx; subst hx; simp [hpre p hp]
            · simp [h.cclosed j x p hx hj hp]
          · rw [hl] at hj ⊢
            by_cases e : i = j
            · subst e; rw [ho] at hx; simp at hx; subst hx
              split
              · rfl
              · exact hpi p hp
            · rw [if_neg e] at hj
              split
              · rfl
              · exact h.dclosed j x p hx hj hp
          · rcases List.mem_cons.1 hj with rfl | hj
            · exact hlt
            · exact h.cbound j hj
          · rcases h.all j hj with hj | hj
            · exact .inl (by simp [hj])
            · rcases List.mem_cons.1 hj with rfl | hj
              · exact .inl (by simp)
              · exact .inr hj
          · rw [hl] at hjl
            by_cases e : i = j
            · rw [if_pos e] at hjl; simp at hjl
            · rw [if_neg e] at hjl
              have hjC : j ∈ C := by
                rcases List.mem_cons.1 hj with e2 | hj
                · exact (e e2.symm).elim
                · exact hj
              obtain ⟨x, hx, hsx⟩ := hst j (h.cbound j hjC)
              refine hre j hjC ?_ ?_
              · rw [hx]
                simp only
                cases hqx : quiet P x.op with
                | true => rfl
                | false => have := h.ec j hjC x hx hqx; rw [hjl] at this; simp at this
              · cases hb : ((masks ops).getD i 0).testBit j with
                | false => rfl
                | true =>
                  have := mask_closed (ops := ops) (D := fun k => listed.getD k false = true ∨ k = i) (fun k y p hy hk hpp => by
                    rcases hk with hk | rfl
                    · exact .inl (h.dclosed k y p hy hk hpp)
                    · rw [ho] at hy; simp at hy; subst hy; exact .inl (hpi p hpp)) i j (.inr rfl) hb
                  rcases this with this | e2
                  · rw [hjl] at this; simp at this
                  · exact (e e2.symm).elim
          · cases hdd : o.dst <;> simp [Act.put, h.tsize]
          · cases hdd : o.dst <;> simp [Act.put, h.defers]
          · rw [tmps_put h.tsize hs.dst]
            by_cases e : o.dst = some t
            · rw [if_pos e, e, fget_fput (hs.dst t e), if_pos rfl]; exact hv
            · rw [if_neg e]
              have : fget (fput n fr o.dst v) t = fget fr t := by
                cases hdd : o.dst with
                | none => rfl
                | some d =>
                  rw [fget_fput (hs.dst d hdd), if_neg]
                  intro e2; subst e2; exact e hdd
              rw [this]
              refine VRel.mono (hev.le h.srel.rel) _ _ (h.tmps t fun j hj hjl x hx => ?_)
              refine ht j (by simp [hj]) ?_ x hx
              rw [hl, if_neg]
              · exact hjl
              · intro e2; subst e2; exact hkC hj
        unfold wpOp
        rw [ho]
        simp only [h.wanted hst ho hpi]
        split at hd
        · rename_i hw
          rw [hw, if_pos rfl]
          exact .inl (aexec_raw hd h.srel (h.opds hst ho hpi) fin)
        · rename_i hw
          rw [hw, if_neg (by simp)]
          exact fin .undef Go.undef θ σ w hd (Ev.refl h.srel.rel) vrel_undef

theorem all_listed (hst : ∀ i, i < ops.size → ∃ o, ops[i]? = some o ∧ Static P ops n i o) : ∀ (order done : List Nat) {listed : Array Bool}, listed.size = ops.size → planSteps P ops n (masks ops) order done = true →
    (∀ i ∈ done, listed.getD i false = true) → Region.ready .any ops listed = [] → ∀ i ∈ order, listed.getD i false = true
  | [], _, _, _, _, _, _, i, hi => by simp at hi
  | k :: rest, done, listed, hs, hp, hd, hr, i, hi => by
    obtain ⟨o, ho, hpre, _, hplan, _⟩ := planSteps_cons hp
    have hklt : k < ops.size := by
      rcases Nat.lt_or_ge k ops.size with h' | h'
      · exact h'
      · simp [Array.getElem?_eq_none h'] at ho
    have hk : listed.getD k false = true := by
      cases hl : listed.getD k false with
      | true => rfl
      | false =>
        have := ready_of hs hklt hl ho fun p hp => hd p (hpre p hp)
        rw [hr] at this; simp at this
    rcases List.mem_cons.1 hi with rfl | hi
    · exact hk
    · exact all_listed hst rest (k :: done) hs hplan (fun j hj => by
        rcases List.mem_cons.1 hj with rfl | hj
        · exact hk
        · exact hd j hj) hr i hi

theorem count_set {listed : Array Bool} {i : Nat} (h1 : i < listed.size) (h2 : listed.getD i false = false) : (listed.setIfInBounds i true).toList.count false + 1 = listed.toList.count false := by
  have hv : listed.toList[i]'(by simpa using h1) = false := by
    rw [Array.getD_eq_getD_getElem?] at h2
    simpa [h1] using h2
  rw [Array.toList_setIfInBounds]
  rw [List.count_set (by simpa using h1), hv]
  have hc : 0 < listed.toList.count false := by
    rw [List.count_pos_iff]
    rw [← hv]; exact List.getElem_mem _
  rw [if_pos (by rfl), if_neg (by decide)]
  omega

theorem draw_all {order : List Nat} (hplan : planOk P ops n order = true) {Q : Exit → PT AV → AHeap → Prop} : ∀ (fuel : Nat) {listed : Array Bool} {todo C : List Nat} {fr : PT AV} {σ : AHeap} {θ : Where} {a : Act} {w : World},
    DInv P n ops θ0 σ0 w0 listed todo C fr σ θ a w → ADraw P n ops (masks ops) (Q .normal) todo C fr σ → listed.toList.count false ≤ fuel →
    wpAny P .any ops (Out θ0 σ0 w0 n Q) fuel listed a w := by
  have hpl := hplan
  simp only [planOk, Bool.and_eq_true, List.all_eq_true, List.mem_range] at hpl
  have hst : ∀ i, i < ops.size → ∃ o, ops[i]? = some o ∧ Static P ops n i o := fun i hi => planSteps_static hpl.2 i (by simpa using hpl.1 i hi)
  have done : ∀ {listed : Array Bool} {todo C : List Nat} {fr : PT AV} {σ : AHeap} {θ : Where} {a : Act} {w : World}, DInv P n ops θ0 σ0 w0 listed todo C fr σ θ a w →
      ADraw P n ops (masks ops) (Q .normal) todo C fr σ → (∀ i, i < ops.size → listed.getD i false = true) → Out θ0 σ0 w0 n Q .normal a w := by
    intro listed todo C fr σ θ a w h hd hall
    have ht : todo = [] := by
      cases todo with
      | nil => rfl
      | cons k rest =>
        obtain ⟨o, ho, _, hkC, _⟩ := planSteps_cons h.plan
        have hklt : k < ops.size := by
          rcases Nat.lt_or_ge k ops.size with h' | h'
          · exact h'
          · simp [Array.getElem?_eq_none h'] at ho
        exact (hkC (h.dc k (hall k hklt))).elim
    subst ht
    refine ⟨fr, σ, θ, hd, h.ev, h.tsize, fun t => h.tmps t fun j hj hjl => ?_, h.defers⟩
    rw [hall j (h.cbound j hj)] at hjl; simp at hjl
  intro fuel
  induction fuel with
  | zero =>
    intro listed todo C fr σ θ a w h hd hc
    have hall : ∀ i, i < ops.size → listed.getD i false = true := by
      intro i hi
      cases hl : listed.getD i false with
      | true => rfl
      | false =>
        have hlt : i < listed.size := by rw [h.size]; exact hi
        have : false ∈ listed.toList := by
          rw [Array.getD_eq_getD_getElem?] at hl
          have hv : listed[i] = false := by simpa [hlt] using hl
          rw [← hv]; simp
        have := List.count_pos_iff.2 this
        omega
    refine ⟨?_, done h hd hall⟩
    apply List.eq_nil_iff_forall_not_mem.2
    intro i hi
    obtain ⟨hlt, hnl, _⟩ := ready_spec hi h.size
    rw [hall i hlt] at hnl; simp at hnl
  | succ fuel ih =>
    intro listed todo C fr σ θ a w h hd hc
    refine ⟨fun hr => done h hd fun i hi => all_listed hst order [] h.size hpl.2 (by simp) hr i (by simpa using hpl.1 i hi), fun i hi => ?_⟩
    refine wpOp_mono ?_ (draw_step hst todo h hd hi)
    rintro a' w' ⟨todo', C', fr', σ', θ', hd', h'⟩
    refine ih h' hd' ?_
    obtain ⟨hlt, hnl, _⟩ := ready_spec hi h.size
    have := count_set (listed := listed) (i := i) (by rw [h.size]; exact hlt) hnl
    omega

theorem acode_draw {order : List Nat} {Q : Exit → PT AV → AHeap → Prop} {fr : PT AV} {σ : AHeap} {id : Nat} (hm : P.follows .mixedOrders = true) (hplan : planOk P ops n order = true) (h : ADraw P n ops (masks ops) (Q .normal) order [] fr σ) :
    ACode P n (.region id ops true) Q fr σ := by
  intro θ w a hS hF
  have hpl := hplan
  simp only [planOk, Bool.and_eq_true, List.all_eq_true, List.mem_range] at hpl
  refine wp_region_any hm (draw_all hplan ops.size (listed := Array.replicate ops.size false) (todo := order) (C := []) (fr := fr) (σ := σ) (θ := θ) ?_ h (by simp))
  have hf : ∀ i, (Array.replicate ops.size false).getD i false = false := by
    intro i
    rw [Array.getD_eq_getD_getElem?, Array.getElem?_replicate]
    split <;> rfl
  refine ⟨by simp, fun i hi => ?_, by simp, by simp, fun i o p _ hi => ?_, by simp, fun i hi => .inr (by simpa using hpl.1 i hi), hpl.2, by simp, hF.size, hF.defers, fun t _ => hF.tmps t, ⟨hS.rel, hS.glob⟩, ⟨hS.rel, fun _ _ => ⟨rfl, rfl⟩, Nat.le_refl _, rfl, rfl, rfl, Nat.le_refl _, fun _ _ _ => rfl, fun _ _ h => h⟩⟩
  · rw [hf] at hi; simp at hi
  · rw [hf] at hi; simp at hi

end

end Go.Am
