import Derived.Test.YtophnlmdcidolaaDoorC17
set_option linter.all false
namespace Go.Am
variable {P : Program}

/-! Bodies. -/

def finitFrom : Nat → List AV → PT AV → PT AV
  | _, [], fr => fr
  | i, v :: l, fr => finitFrom (i + 1) l (fr.set i v)

def finit (args : List AV) : PT AV := finitFrom 0 args .leaf

theorem fget_finitFrom : ∀ (l : List AV) (i : Nat) (fr : PT AV) (t : Nat), fget (finitFrom i l fr) t = if i ≤ t ∧ t < i + l.length then l.getD (t - i) .undef else fget fr t
  | [], i, fr, t => by simp only [finitFrom]; rw [if_neg (by simp only [List.length_nil]; omega)]
  | v :: l, i, fr, t => by
    simp only [finitFrom]
    rw [fget_finitFrom l (i + 1)]
    simp only [List.length_cons]
    by_cases h : i + 1 ≤ t ∧ t < i + 1 + l.length
    · rw [if_pos h, if_pos (by omega), show t - i = (t - (i + 1)) + 1 by omega]; simp
    · rw [if_neg h]
      by_cases e : i = t
      · subst e
        rw [if_pos (by omega)]
        simp [fget, PT.get_set]
      · rw [if_neg (by omega)]
        simp [fget, PT.get_set, e]

theorem fget_leaf (t : Nat) : fget .leaf t = .undef := by simp [fget, PT.get_leaf]

theorem fget_finit (l : List AV) (t : Nat) : fget (finit l) t = l.getD t .undef := by
  unfold finit
  rw [fget_finitFrom]
  simp only [Nat.zero_le, true_and, Nat.zero_add, Nat.sub_zero, fget_leaf]
  split
  · rfl
  · rename_i h; simp [List.getD, List.getElem?_eq_none (Nat.le_of_not_lt h)]

theorem frel_init {θ : Where} {args : List AV} {cargs : Array Value} (h : VRels θ args cargs.toList) (m : Nat) :
    FRel θ (args.length + (m - args.length)) (finit args) { tmps := cargs ++ Array.replicate (m - cargs.size) Go.undef, defers := [] } := by
  have hs := vrels_size h
  refine ⟨by simp [hs], fun t => ?_, rfl⟩
  rw [fget_finit]
  rw [Array.getD_eq_getD_getElem?]
  by_cases ht : t < args.length
  · rw [Array.getElem?_append_left (by omega)]
    obtain ⟨c, hc, hr⟩ := vrels_get (i := t) (x := args[t]) h (by simp [ht])
    rw [Array.getElem?_toList] at hc
    simp [List.getD, ht, hc, hr]
  · have e1 : args.getD t .undef = .undef := by simp [List.getD, List.getElem?_eq_none (Nat.le_of_not_lt ht)]
    rw [e1, Array.getElem?_append_right (by omega)]
    have e2 : ((Array.replicate (m - cargs.size) Go.undef)[t - cargs.size]?).getD Go.undef = Go.undef := by
      rw [Array.getElem?_replicate]; split <;> rfl
    rw [e2]; exact vrel_undef

/-- what a body leaves -/
def BodyQ (P : Program) (fn : Func) (Q : AV → AHeap → Prop) : Exit → PT AV → AHeap → Prop
  | .normal, fr, σ => ∃ v, aRet P fn fr σ.m = some v ∧ Q v σ
  | .ret, fr, σ => ∃ v, aRet P fn fr σ.m = some v ∧ Q v σ
  | _, _, _ => False

theorem callFunc_enter {f : FuncId} {fn : Func} {c : Code} (hf : P.funcs[f]? = some fn) (hb : fn.body = some c) (hn : (fn.name == "runtime.NumGoroutine") = false) (cargs : Array Value) (w : World) :
    (callFunc f cargs).run P w = .ok (.enter f cargs) w := by
  have hn' : ¬ fn.name = "runtime.NumGoroutine" := by simpa using hn
  simp [callFunc, hf, hn', hb]

theorem Tr.of_body {f : FuncId} {fn : Func} {c : Code} {args : List AV} {σ : AHeap} {Q : AV → AHeap → Prop} (hf : P.funcs[f]? = some fn) (hb : fn.body = some c) (hn : (fn.name == "runtime.NumGoroutine") = false)
    (h : ACode P (args.length + (fn.ntmps - args.length)) c (BodyQ P fn Q) (finit args) σ) : Tr P f args σ Q := by
  intro θ w cargs hS hr
  refine .inr ⟨callFunc_enter hf hb hn cargs w, calls_of_wp hf hb ?_⟩
  refine wp_mono (h θ w _ hS (frel_init hr fn.ntmps)) ?_
  rintro e a' w' ⟨fr', σ', θ', hq, hev, hfr⟩
  cases e with
  | normal =>
    obtain ⟨v, hv, hQ⟩ := hq
    obtain ⟨cv, h1, h2⟩ := aRet_run (hS.ev hev) hfr hv
    exact ⟨hfr.defers, cv, h1, cv, v, σ', θ', rfl, hQ, hev, h2⟩
  | ret =>
    obtain ⟨v, hv, hQ⟩ := hq
    obtain ⟨cv, h1, h2⟩ := aRet_run (hS.ev hev) hfr hv
    exact ⟨hfr.defers, cv, h1, cv, v, σ', θ', rfl, hQ, hev, h2⟩
  | exit id => exact hq.elim
  | goto l => exact hq.elim
  | panic ch => exact hq.elim
  | outgrown => exact hq.elim

/-- forgetting what nobody needs: the heap is as it was, but for blocks that are new -/
def Ext (σ σ' : AHeap) : Prop := σ.next ≤ σ'.next ∧ ∀ b blk, σ.m.get b = some blk → σ'.m.get b = some blk

mutual
theorem vrel_back {θ θ' : Where} (hle : θ.le θ') : ∀ (v : AV) (c c' : Value), VRel θ v c → VRel θ' v c' → VRel θ v c'
  | .bool _, c, c', _, r => by rw [vrel_bool] at r ⊢; exact r
  | .int _ _, c, c', _, r => by rw [vrel_int] at r ⊢; exact r
  | .str _, c, c', _, r => by rw [vrel_str] at r ⊢; exact r
  | .nilptr, c, c', _, r => by rw [vrel_nilptr] at r ⊢; exact r
  | .ptr b o, c, c', h, r => by
    rw [vrel_ptr] at h r ⊢
    obtain ⟨cb, base, h1, _⟩ := h
    obtain ⟨cb', base', h2, h3⟩ := r
    rw [(hle _ _ h1).1] at h2
    simp at h2; obtain ⟨rfl, rfl⟩ := h2
    exact ⟨cb, base, h1, h3⟩
  | .nilslice, c, c', _, r => by rw [vrel_nilslice] at r ⊢; exact r
  | .slice .., c, c', h, r => by
    rw [vrel_slice] at h r ⊢
    obtain ⟨_, _, cb, base, _, _, _, _, h1, _⟩ := h
    obtain ⟨a, d', cb', base', r1, r2, r3, r4, h2, r5, r6⟩ := r
    rw [(hle _ _ h1).1] at h2
    simp at h2; obtain ⟨rfl, rfl⟩ := h2
    rw [(hle _ _ h1).2] at r5
    exact ⟨a, d', cb, base, r1, r2, r3, r4, h1, r5, r6⟩
  | .nilmap, c, c', _, r => by rw [vrel_nilmap] at r ⊢; exact r
  | .map b, c, c', h, r => by
    rw [vrel_map] at h r ⊢
    obtain ⟨cb, h1, _⟩ := h
    obtain ⟨cb', h2, h3⟩ := r
    rw [(hle _ _ h1).1] at h2
    simp at h2; subst h2
    exact ⟨cb, h1, h3⟩
  | .func fn a b, c, c', h, r => by
    rw [vrel_func] at h r ⊢
    obtain ⟨x, y, _, h1, h2⟩ := h
    obtain ⟨x', y', r1, r2, r3⟩ := r
    exact ⟨x', y', r1, vrels_back hle a _ _ h1 r2, vrels_back hle b _ _ h2 r3⟩
  | .nilFunc, c, c', _, r => by rw [vrel_nilFunc] at r ⊢; exact r
  | .iface t v, c, c', h, r => by
    rw [vrel_iface] at h r ⊢
    obtain ⟨x, _, h1⟩ := h
    obtain ⟨x', r1, r2⟩ := r
    exact ⟨x', r1, vrel_back hle v _ _ h1 r2⟩
  | .nilIface, c, c', _, r => by rw [vrel_nilIface] at r ⊢; exact r
  | .agg xs, c, c', h, r => by
    rw [vrel_agg] at h r ⊢
    obtain ⟨x, _, h1⟩ := h
    obtain ⟨x', r1, r2⟩ := r
    exact ⟨x', r1, vrels_back hle xs _ _ h1 r2⟩
  | .tuple xs, c, c', h, r => by
    rw [vrel_tuple] at h r ⊢
    obtain ⟨x, _, h1⟩ := h
    obtain ⟨x', r1, r2⟩ := r
    exact ⟨x', r1, vrels_back hle xs _ _ h1 r2⟩
theorem vrels_back {θ θ' : Where} (hle : θ.le θ') : ∀ (xs : List AV) (cs cs' : List Value), VRels θ xs cs → VRels θ' xs cs' → VRels θ xs cs'
  | [], [], [], _, _ => by simp [VRels]
  | x :: xs, c :: cs, d :: ds, h, r => by simp only [VRels] at h r ⊢; exact ⟨vrel_back hle x c d h.1 r.1, vrels_back hle xs cs ds h.2 r.2⟩
  | [], _ :: _, _, h, _ => by simp [VRels] at h
  | [], [], _ :: _, _, r => by simp [VRels] at r
  | _ :: _, [], _, h, _ => by simp [VRels] at h
  | _ :: _, _ :: _, [], _, r => by simp [VRels] at r
end

theorem erels_back {θ θ' : Where} (hle : θ.le θ') : ∀ {es : List (AV × AV × Nat)} {l l' : List MapEntry}, ERels θ es l → ERels θ' es l' → ERels θ es l'
  | [], [], [], _, _ => trivial
  | e :: es, c :: l, c' :: l', h, r => by
    simp only [ERels] at h r ⊢
    exact ⟨⟨vrel_back hle _ _ _ h.1.1 r.1.1, vrel_back hle _ _ _ h.1.2.1 r.1.2.1, r.1.2.2⟩, erels_back hle h.2 r.2⟩
  | [], _ :: _, _, h, _ => by simp [ERels] at h
  | [], [], _ :: _, _, r => by simp [ERels] at r
  | _ :: _, [], _, h, _ => by simp [ERels] at h
  | _ :: _, _ :: _, [], _, r => by simp [ERels] at r

theorem brel_back {θ θ' : Where} (hle : θ.le θ') {blk : ABlock} {o o' : Option Obj} {base tot : Nat} (h : BRel θ blk o base tot) (r : BRel θ' blk o' base tot) : BRel θ blk o' base tot := by
  cases blk with
  | cells xs ro fz ps =>
    obtain ⟨c, el, lo, hi, h1, h4, h5, h2, h3⟩ := h
    obtain ⟨c', el', lo', hi', r1, r4, r5, r2, r3⟩ := r
    refine ⟨c', el', lo', hi', r1, r4, r5, fun i v hv => ?_, r3⟩
    obtain ⟨cv, _, k1⟩ := h2 i v hv
    obtain ⟨cv', k2, k3⟩ := r2 i v hv
    exact ⟨cv', k2, vrel_back hle v _ _ k1 k3⟩
  | map es clock =>
    obtain ⟨h1, ces, h2, h3⟩ := h
    obtain ⟨r1, ces', r2, r3⟩ := r
    exact ⟨r1, ces', r2, erels_back hle h3 r3⟩
  | siter s pos => exact r

/-- what is new is forgotten -/
theorem ev_back {θ θ' : Where} {σ σ' : AHeap} {w w' : World} (hR : Rel θ σ w.heap) (h : Ev θ σ w θ' σ' w') (hx : ∀ b blk, σ.m.get b = some blk → σ'.m.get b = some blk) : Ev θ σ w θ σ w' := by
  have hle := h.le hR
  refine ⟨⟨?_, hR.sep, hR.par, hR.fresh, hR.dom, hR.psb⟩, fun _ _ => ⟨rfl, rfl⟩, Nat.le_refl _, h.os, h.tape, h.output, h.size, h.frame, fun _ _ h => h⟩
  intro b blk cb base hb hθ
  have h1 := hR.mem b blk cb base hb hθ
  have h2 := h.rel.mem b blk cb base (hx b blk hb) (hle _ _ hθ).1
  rw [(hle _ _ hθ).2] at h2
  exact brel_back hle h1 h2

/-- a value that holds no place in memory -/
def plain : AV → Bool
  | .bool _ => true
  | .int _ _ => true
  | .str _ => true
  | .nilptr => true
  | .nilslice => true
  | .nilmap => true
  | .nilFunc => true
  | .nilIface => true
  | .tuple l => plains l
  | .agg l => plains l
  | _ => false
where plains : List AV → Bool
  | [] => true
  | v :: l => match plain v with
    | true => plains l
    | false => false

mutual
theorem vrel_plain {θ θ' : Where} : ∀ (v : AV) (c : Value), plain v = true → VRel θ v c → VRel θ' v c
  | .bool _, c, _, r => by rw [vrel_bool] at r ⊢; exact r
  | .int _ _, c, _, r => by rw [vrel_int] at r ⊢; exact r
  | .str _, c, _, r => by rw [vrel_str] at r ⊢; exact r
  | .nilptr, c, _, r => by rw [vrel_nilptr] at r ⊢; exact r
  | .nilslice, c, _, r => by rw [vrel_nilslice] at r ⊢; exact r
  | .nilmap, c, _, r => by rw [vrel_nilmap] at r ⊢; exact r
  | .nilFunc, c, _, r => by rw [vrel_nilFunc] at r ⊢; exact r
  | .nilIface, c, _, r => by rw [vrel_nilIface] at r ⊢; exact r
  | .tuple xs, c, h, r => by
    rw [vrel_tuple] at r ⊢
    obtain ⟨cs, h1, h2⟩ := r
    exact ⟨cs, h1, vrels_plain xs _ (by simpa [plain] using h) h2⟩
  | .agg xs, c, h, r => by
    rw [vrel_agg] at r ⊢
    obtain ⟨cs, h1, h2⟩ := r
    exact ⟨cs, h1, vrels_plain xs _ (by simpa [plain] using h) h2⟩
  | .ptr .., c, h, r => by simp [plain] at h
  | .slice .., c, h, r => by simp [plain] at h
  | .map .., c, h, r => by simp [plain] at h
  | .func .., c, h, r => by simp [plain] at h
  | .iface .., c, h, r => by simp [plain] at h
theorem vrels_plain {θ θ' : Where} : ∀ (xs : List AV) (cs : List Value), plain.plains xs = true → VRels θ xs cs → VRels θ' xs cs
  | [], [], _, _ => by simp [VRels]
  | x :: xs, c :: cs, h, r => by
    simp only [VRels] at r ⊢
    simp only [plain.plains] at h
    split at h
    · rename_i hx; exact ⟨vrel_plain x c hx r.1, vrels_plain xs cs h r.2⟩
    · simp at h
  | [], _ :: _, _, r => by simp [VRels] at r
  | _ :: _, [], _, r => by simp [VRels] at r
end

/-- a call that leaves old memory as it was and answers plain data -/
theorem Tr.pure {f : FuncId} {args : List AV} {σ : AHeap} {Q : AV → AHeap → Prop} (h : Tr P f args σ fun v σ' => plain v = true ∧ (∀ b blk, σ.m.get b = some blk → σ'.m.get b = some blk) ∧ Q v σ) : Tr P f args σ Q := by
  intro θ w cargs hS hr
  rcases h θ w cargs hS hr with ⟨cv, w', v, σ', θ', h1, ⟨h2, h3, h4⟩, h5, h6⟩ | ⟨h1, h2⟩
  · exact .inl ⟨cv, w', v, σ, θ, h1, h4, ev_back hS.rel h5 h3, vrel_plain v cv h2 h6⟩
  · refine .inr ⟨h1, h2.mono ?_⟩
    rintro e w' ⟨cv, v, σ', θ', k1, ⟨k2, k3, k4⟩, k5, k6⟩
    exact ⟨cv, v, σ, θ, k1, k4, ev_back hS.rel k5 k3, vrel_plain v cv k2 k6⟩

end Go.Am
