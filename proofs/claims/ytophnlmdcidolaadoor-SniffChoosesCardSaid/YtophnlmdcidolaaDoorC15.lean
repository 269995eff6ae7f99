import Derived.Test.YtophnlmdcidolaaDoorC14
set_option linter.all false
namespace Go.Am
variable {θ : Where} {P : Program} {w : World}

theorem aCopy_sound {σ σ' : AHeap} (hR : Rel θ σ w.heap) {ts : Array TypeId} {ty : TypeId} {xs : List AV} {args : Array Value} {v : AV} (h : aCopy P σ ts.toList xs = some (v, σ')) (hx : VRels θ xs args.toList) :
    ∃ w' cv, (Builtin.copy_ ts ty args).run P w = .ok cv w' ∧ Ev θ σ w θ σ' w' ∧ VRel θ v cv := by
  obtain ⟨ts⟩ := ts
  obtain ⟨args⟩ := args
  simp only at h hx
  unfold aCopy at h
  split at h
  case h_2 => simp at h
  rename_i dt ts' d x xs'
  match args, hx with
  | [], hx => simp [VRels] at hx
  | [_], hx => simp [VRels] at hx
  | cd :: cx :: args', hx =>
  simp only [VRels] at hx
  obtain ⟨hd, hxx, _⟩ := hx
  split at h
  case h_2 => simp at h
  rename_i e hu
  split at h
  case h_2 => simp at h
  rename_i i dl n hi hdl hn
  split at h
  case h_2 => simp at h
  rename_i new hnew
  have hlen := aLenOf_run (P := P) (w := w) hn hxx
  obtain ⟨news, hnr, hnv⟩ := aSrc_sound (P := P) (w := w) hR.mem hnew hn (Nat.min_le_left _ _) hxx
  split at h
  · simp at h; obtain ⟨rfl, rfl⟩ := h
    rw [vrel_nilslice] at hd; subst hd
    simp [aLenOf] at hdl; subst hdl
    refine ⟨w, .int .i64 ((Nat.min n 0 : Nat) : Int), ?_, Ev.refl hR, by rw [vrel_int]⟩
    have hnr' : (Builtin.firstCells i.size 0 cx).run P w = .ok news w := by
      have e : min n 0 = 0 := by omega
      rw [e] at hnr; exact hnr
    simp [Builtin.copy_, run_underlying hu, hlen, sizeOf, typeInfo, hi, hnr', goInt]
  · rename_i b o sl c ex z
    split at h
    · rename_i σ1 hput
      simp at h; obtain ⟨rfl, rfl⟩ := h
      rw [vrel_slice] at hd
      obtain ⟨a, c', cb, base, rfl, k1, k2, k3, hθ, k4, ka⟩ := hd
      simp [aLenOf] at hdl; subst hdl
      obtain ⟨w', hst, hev⟩ := aPutAt_sound (P := P) (a := a) hR hput hnv hθ (fun hne => by
        have hm : min n sl ≠ 0 := by
          intro e0
          rw [e0] at hnew
          exact hne (aSrc_nil hnew)
        exact ka.resolve_left (by omega))
      refine ⟨w', .int .i64 ((Nat.min n sl : Nat) : Int), ?_, hev, by rw [vrel_int]⟩
      have hnr' : (Builtin.firstCells i.size (Nat.min n sl) cx).run P w = .ok news w := hnr
      simp [Builtin.copy_, run_underlying hu, hlen, sizeOf, typeInfo, hi, hnr', goInt, hst]
    · simp at h
  · simp at h

theorem wr_sound {σ σ' : AHeap} {ρ : Operand → AV} {ρ' : Operand → Value} {o : Oper} {v : AV} (hR : Rel θ σ w.heap) (hρ : ∀ x ∈ o.op.operands, VRel θ (ρ x) (ρ' x)) (h : wr P ρ σ o.op = some (v, σ')) :
    ∃ θ' w', Ev θ σ w θ' σ' w' ∧ ∃ cv, VRel θ' v cv ∧ ((execOp ρ' o).run P w = .ok (.value cv) w' ∨ ((execOp ρ' o).run P w = .ok .skip w' ∧ cv = undef)) := by
  obtain ⟨dst, op, type, pos, after, guard⟩ := o
  simp only at hρ h
  have lift : ∀ {s : Sem Value}, (∃ θ' w' cv, s.run P w = .ok cv w' ∧ Ev θ σ w θ' σ' w' ∧ VRel θ' v cv) →
      ∃ θ' w', Ev θ σ w θ' σ' w' ∧ ∃ cv, VRel θ' v cv ∧ ((do pure (Next.value (← s)) : Sem Next).run P w = .ok (.value cv) w' ∨ ((do pure (Next.value (← s)) : Sem Next).run P w = .ok .skip w' ∧ cv = undef)) := by
    rintro s ⟨θ', w', cv, h1, h2, h3⟩
    exact ⟨θ', w', h2, cv, h3, .inl (by simp [h1])⟩
  unfold wr at h
  split at h
  case h_1 t p x =>
    split at h
    · rename_i σ1 hst
      simp at h; obtain ⟨rfl, rfl⟩ := h
      obtain ⟨w', h1, h2⟩ := aStore_sound (P := P) hR hst (hρ p (by simp [Op.operands])) (hρ x (by simp [Op.operands]))
      exact ⟨θ, w', h2, undef, vrel_undef, .inr ⟨by simp [execOp, h1], rfl⟩⟩
    · simp at h
  case h_2 e =>
    split at h
    · rename_i z hz
      simp at h; obtain ⟨rfl, rfl⟩ := h
      obtain ⟨cz, hzr, hzv, _⟩ := zeroOf_run (θ := θ) (w := w) hz
      refine lift ⟨_, _, .pointer (some ⟨w.heap.size, 0, none⟩), ?_, push_cells (el := e) hR (aCells_rel hzv), vrel_new _ _⟩
      simp [Instr.alloc, hzr, newVar, newRow]
    · simp at h
  case h_3 e x =>
    simp at h; obtain ⟨rfl, rfl⟩ := h
    refine lift ⟨_, _, .pointer (some ⟨w.heap.size, 0, none⟩), ?_, push_cells (el := e) hR (aCells_rel (hρ x (by simp [Op.operands]))), vrel_new _ _⟩
    simp [Instr.box, newVar, newRow]
  case h_4 t n ps =>
    refine lift (aBuildSlice_sound hR h ?_)
    rw [Array.toList_map]
    exact mapParts_rel fun x hx => hρ x (by simpa [Op.operands] using hx)
  case h_5 t l c => exact lift (aMakeSlice_sound hR h (hρ l (by simp [Op.operands])) (hρ c (by simp [Op.operands])))
  case h_6 s d x => exact lift (aToBytes_sound hR h (hρ x (by simp [Op.operands])))
  case h_7 t x => exact lift (aRange_sound hR h (hρ x (by simp [Op.operands])))
  case h_8 it =>
    obtain ⟨w', cv, h1, h2, h3⟩ := aNext_sound (P := P) (ty := type) hR h (hρ it (by simp [Op.operands]))
    exact lift ⟨θ, w', cv, h1, h2, h3⟩
  case h_9 c =>
    obtain ⟨callee, args, ts⟩ := c
    simp only at h
    have hr : VRels θ (mapOps ρ args.toList) (args.map ρ').toList := by
      rw [Array.toList_map]
      exact mapOps_rel fun x hx => hρ x (by simp only [Op.operands, Call.operands, Array.mem_append]; exact .inr (by simpa using hx))
    split at h
    · obtain ⟨θ', w', cv, h1, h2, h3⟩ := aAppend_sound (P := P) (ty := type) hR h hr
      refine ⟨θ', w', h2, cv, h3, .inl ?_⟩
      simp only [execOp, resolve, Sem.run_bind, Sem.run_pure, Result.andThen_ok, invoke, builtin, h1]
    · obtain ⟨w', cv, h1, h2, h3⟩ := aCopy_sound (P := P) (ty := type) hR h hr
      refine ⟨θ, w', h2, cv, h3, .inl ?_⟩
      simp only [execOp, resolve, Sem.run_bind, Sem.run_pure, Result.andThen_ok, invoke, builtin, h1]
    · simp at h
  case h_10 => simp at h

end Go.Am
