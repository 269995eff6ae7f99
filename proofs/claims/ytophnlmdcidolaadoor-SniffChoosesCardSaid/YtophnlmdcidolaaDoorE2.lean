import Derived.Test.YtophnlmdcidolaaDoorE
set_option linter.all false
namespace Go.Am
variable {P : Program}

theorem evCode_sound {n : Nat} {call : Caller} (hc : CallerOk P call) (hm : P.follows .mixedOrders = true) : ∀ (fuel : Nat) (c : Code) (fr : PT AV) (σ : AHeap) (r : Exit × PT AV × AHeap),
    evCode P n call fuel c fr σ = some r → ∀ Q : Exit → PT AV → AHeap → Prop, Q r.1 r.2.1 r.2.2 → ACode P n c Q fr σ := by
  intro fuel
  induction fuel using Nat.strongRecOn with
  | _ fuel ih =>
    intro c fr σ r h Q hQ
    cases fuel with
    | zero => change none = some r at h; simp at h
    | succ m =>
      change evStep P n call (evCode P n call m) c fr σ = some r at h
      have ihm := ih m (Nat.lt_succ_self m)
      cases c with
      | skip => simp only [evStep, Option.some.injEq] at h; subst h; exact acode_skip hQ
      | label l => simp only [evStep, Option.some.injEq] at h; subst h; exact acode_label hQ
      | exit id => simp only [evStep, Option.some.injEq] at h; subst h; exact acode_exit hQ
      | ret => simp only [evStep, Option.some.injEq] at h; subst h; exact acode_ret hQ
      | seq x y =>
        simp only [evStep] at h
        refine acode_seq ?_
        cases hx : evCode P n call m x fr σ with
        | none => rw [hx] at h; simp at h
        | some z =>
          obtain ⟨e, fr', σ'⟩ := z
          rw [hx] at h
          refine ihm _ _ _ _ hx _ ?_
          cases e with
          | normal => exact ihm _ _ _ _ h _ hQ
          | _ => simp only [Option.some.injEq] at h; subst h; exact hQ
      | cond c x y =>
        simp only [evStep] at h
        cases hok : opdOk P c with
        | false => rw [hok] at h; simp at h
        | true =>
          rw [hok] at h
          simp only at h
          split at h
          · rename_i e; exact acode_cond e hok (ihm _ _ _ _ h _ hQ)
          · rename_i e; exact acode_cond e hok (ihm _ _ _ _ h _ hQ)
          · simp at h
      | block id c =>
        simp only [evStep] at h
        refine acode_block ?_
        cases hx : evCode P n call m c fr σ with
        | none => rw [hx] at h; simp at h
        | some z =>
          obtain ⟨e, fr', σ'⟩ := z
          rw [hx] at h
          refine ihm _ _ _ _ hx _ ?_
          cases e with
          | exit id' =>
            simp only [AIn] at h ⊢
            split at h
            · rename_i e; rw [if_pos e]; simp only [Option.some.injEq] at h; subst h; exact hQ
            · rename_i e; rw [if_neg e]; simp only [Option.some.injEq] at h; subst h; exact hQ
          | _ => simp only [Option.some.injEq] at h; subst h; exact hQ
      | loop c =>
        refine acode_loop (fun k fr σ => k ≤ m + 1 ∧ evCode P n call k (.loop c) fr σ = some r) (m + 1) ⟨Nat.le_refl _, h⟩ ?_
        rintro k fr σ ⟨hk, h⟩
        cases k with
        | zero => change none = some r at h; simp at h
        | succ j =>
          change evStep P n call (evCode P n call j) (.loop c) fr σ = some r at h
          simp only [evStep] at h
          cases hx : evCode P n call j c fr σ with
          | none => rw [hx] at h; simp at h
          | some z =>
            obtain ⟨e, fr', σ'⟩ := z
            rw [hx] at h
            refine ih j (by omega) _ _ _ _ hx _ ?_
            cases e with
            | normal => exact ⟨j, Nat.lt_succ_self j, by omega, h⟩
            | _ => simp only [Option.some.injEq] at h; subst h; exact hQ
      | region id ops d =>
        cases d with
        | false =>
          simp only [evStep] at h
          split at h
          · rename_i x hx
            simp only [Option.some.injEq] at h; subst h
            exact acode_region (evOps_sound hc hx hQ)
          · simp at h
        | true =>
          simp only [evStep] at h
          split at h
          · rename_i hp
            split at h
            · rename_i x hx
              simp only [Option.some.injEq] at h; subst h
              exact acode_draw hm hp (evDraw_sound hc hx hQ)
            · simp at h
          · simp at h
      | _ => simp [evStep] at h

/-- a call, calls in calls at most d deep -/
noncomputable def evFun (P : Program) (ext : Caller) (fuel : Nat) (d : Nat) : Caller :=
  Nat.rec (motive := fun _ => Caller) (fun _ _ _ => none) (fun _ ih f args σ =>
    match P.funcs[f]? with
    | none => none
    | some fn => match fn.name == "runtime.NumGoroutine" with
      | true => none
      | false => match fn.body with
        | none => ext f args σ
        | some c => match evCode P (args.length + (fn.ntmps - args.length)) ih fuel c (finit args) σ with
          | some (.normal, fr, σ') => match aRet P fn fr σ'.m with
            | some v => some (v, σ')
            | none => none
          | some (.ret, fr, σ') => match aRet P fn fr σ'.m with
            | some v => some (v, σ')
            | none => none
          | _ => none) d

theorem evFun_sound {ext : Caller} (hx : CallerOk P ext) (hm : P.follows .mixedOrders = true) (fuel : Nat) : ∀ d, CallerOk P (evFun P ext fuel d)
  | 0 => fun f args σ v σ' h => by change none = some (v, σ') at h; simp at h
  | d + 1 => fun f args σ v σ' h => by
    change (match P.funcs[f]? with
    | none => none
    | some fn => match fn.name == "runtime.NumGoroutine" with
      | true => none
      | false => match fn.body with
        | none => ext f args σ
        | some c => match evCode P (args.length + (fn.ntmps - args.length)) (evFun P ext fuel d) fuel c (finit args) σ with
          | some (.normal, fr, σ') => match aRet P fn fr σ'.m with
            | some v => some (v, σ')
            | none => none
          | some (.ret, fr, σ') => match aRet P fn fr σ'.m with
            | some v => some (v, σ')
            | none => none
          | _ => none) = some (v, σ') at h
    split at h
    · simp at h
    · rename_i fn hf
      split at h
      · simp at h
      · rename_i hn
        split at h
        · exact hx _ _ _ _ _ h
        · rename_i c hb
          split at h
          · rename_i fr s hz
            split at h
            · rename_i u hu
              simp only [Option.some.injEq, Prod.mk.injEq] at h
              obtain ⟨rfl, rfl⟩ := h
              exact Tr.of_body hf hb hn (evCode_sound (evFun_sound hx hm fuel d) hm fuel _ _ _ _ hz _ ⟨_, hu, rfl, rfl⟩)
            · simp at h
          · rename_i fr s hz
            split at h
            · rename_i u hu
              simp only [Option.some.injEq, Prod.mk.injEq] at h
              obtain ⟨rfl, rfl⟩ := h
              exact Tr.of_body hf hb hn (evCode_sound (evFun_sound hx hm fuel d) hm fuel _ _ _ _ hz _ ⟨_, hu, rfl, rfl⟩)
            · simp at h
          · simp at h
end Go.Am
