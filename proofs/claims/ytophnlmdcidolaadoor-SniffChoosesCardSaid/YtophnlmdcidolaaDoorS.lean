import Derived.Test.YtophnlmdcidolaaDoorD
import Derived.Scope
set_option linter.all false
namespace Go.Am
/-! The decoder's memory. -/
structure Dst where
  u : Bool
  pl : Nat
  bg : Nat
  lf : Nat
  vl : Int
  lo : Int
  hi : Int
  out : List (Int × Nat)
  bad : List Nat
  ob : Nat
  bb : Nat
def flatR : List (Int × Nat) → List AV
  | [] => []
  | r :: l => .int .i64 r.1 :: .int .i64 (r.2 : Nat) :: flatR l
def flatB (z : AV) : List Nat → List AV
  | [] => []
  | a :: l => .int .i64 2 :: .int .i64 (a : Nat) :: z :: flatB z l
theorem flatR_len : ∀ l, (flatR l).length = l.length * 2
  | [] => rfl
  | _ :: l => by simp only [flatR, List.length_cons, flatR_len l]; omega
theorem flatB_len (z : AV) : ∀ l, (flatB z l).length = l.length * 3
  | [] => rfl
  | _ :: l => by simp only [flatB, List.length_cons, flatB_len z l]; omega
theorem flatR_app : ∀ l r, flatR (l ++ r) = flatR l ++ flatR r
  | [], _ => rfl
  | _ :: l, r => by simp [flatR, flatR_app l r]
theorem flatB_app (z : AV) : ∀ l r, flatB z (l ++ r) = flatB z l ++ flatB z r
  | [], _ => rfl
  | _ :: l, r => by simp [flatB, flatB_app z l r]
def slV (b n z : Nat) : AV := match n with
  | 0 => .nilslice
  | n + 1 => .slice b 0 (n + 1) (n + 1) false z
def cellsOf (s : Dst) : List AV := [.bool s.u, .int .i64 (s.pl : Nat), .int .i64 (s.bg : Nat), .int .i64 (s.lf : Nat), .int .i64 s.vl, .int .u8 s.lo, .int .u8 s.hi, slV s.ob s.out.length 2, slV s.bb s.bad.length 3]
structure Own (z : AV) (σ : AHeap) (D : Nat) (s : Dst) : Prop where
  wf : WF σ
  d : σ.m.get D = some (.cells (cellsOf s) false 0 [])
  o : s.out ≠ [] → σ.m.get s.ob = some (.cells (flatR s.out) false 0 [])
  b : s.bad ≠ [] → σ.m.get s.bb = some (.cells (flatB z s.bad) false 0 [])
  n1 : s.out ≠ [] → s.ob ≠ D
  n2 : s.bad ≠ [] → s.bb ≠ D
  n3 : s.out ≠ [] → s.bad ≠ [] → s.ob ≠ s.bb
/-- not of the decoder -/
def Off (s : Dst) (D b : Nat) : Prop := b ≠ D ∧ (s.out ≠ [] → b ≠ s.ob) ∧ (s.bad ≠ [] → b ≠ s.bb)
def Fr (σ : AHeap) (D : Nat) (s : Dst) (σ' : AHeap) (s' : Dst) : Prop := σ.next ≤ σ'.next ∧ ∀ b x, σ.m.get b = some x → Off s D b → σ'.m.get b = some x ∧ Off s' D b
theorem Fr.refl (σ : AHeap) (D : Nat) (s : Dst) : Fr σ D s σ s := ⟨Nat.le_refl _, fun _ _ h o => ⟨h, o⟩⟩
theorem Fr.trans {σ σ' σ'' : AHeap} {D : Nat} {s s' s'' : Dst} (h : Fr σ D s σ' s') (k : Fr σ' D s' σ'' s'') : Fr σ D s σ'' s'' :=
  ⟨Nat.le_trans h.1 k.1, fun b x hb ho => k.2 b x (h.2 b x hb ho).1 (h.2 b x hb ho).2⟩
theorem wf_put {σ : AHeap} {D : Nat} {x y : ABlock} (h : WF σ) (hd : σ.m.get D = some y) : WF (σ.put D x []) := by
  intro b hb
  rw [next_put] at hb
  have := wf_lt h hd
  rw [get_put, if_neg (by omega)]
  exact h b hb
theorem wf_move {σ : AHeap} {k : Nat} {x : ABlock} (h : WF σ) : WF ⟨(σ.m.del k).set σ.next x, σ.next + 1⟩ := by
  intro b hb
  have hb : σ.next + 1 ≤ b := hb
  show ((σ.m.del k).set σ.next x).get b = none
  rw [get_move, if_neg (by omega)]
  split
  · rfl
  · exact h b (by omega)
/-- fields turned -/
theorem own_set {z : AV} {σ : AHeap} {D : Nat} {s s' : Dst} {c : List AV} (h : Own z σ D s) (e1 : s'.out = s.out) (e2 : s'.bad = s.bad) (e3 : s'.ob = s.ob) (e4 : s'.bb = s.bb) (hc : cellsOf s' = c) :
    Own z (σ.put D (.cells c false 0 []) []) D s' ∧ Fr σ D s (σ.put D (.cells c false 0 []) []) s' := by
  subst hc
  refine ⟨⟨wf_put h.wf h.d, get_put_same _ _ _, ?_, ?_, ?_, ?_, ?_⟩, ?_, ?_⟩
  · rw [e1, e3]; intro k; rw [get_put, if_neg (Ne.symm (h.n1 k))]; exact h.o k
  · rw [e2, e4]; intro k; rw [get_put, if_neg (Ne.symm (h.n2 k))]; exact h.b k
  · rw [e1, e3]; exact h.n1
  · rw [e2, e4]; exact h.n2
  · rw [e1, e2, e3, e4]; exact h.n3
  · rw [next_put]; exact Nat.le_refl _
  · intro b x hb ho
    refine ⟨by rw [get_put, if_neg (Ne.symm ho.1)]; exact hb, ?_⟩
    unfold Off
    rw [e1, e2, e3, e4]
    exact ho
/-- the scalars in a new block -/
theorem own_out {z : AV} {σ σ2 : AHeap} {D nb : Nat} {s s' : Dst} {c : List AV} (h : Own z σ D s) (hw : WF σ2) (hn : σ.next ≤ σ2.next) (hk : ∀ b x, σ.m.get b = some x → (s.out ≠ [] → b ≠ s.ob) → σ2.m.get b = some x)
    (hnb : σ.next ≤ nb) (hg : σ2.m.get nb = some (.cells (flatR s'.out) false 0 [])) (e2 : s'.bad = s.bad) (e3 : s'.ob = nb) (e4 : s'.bb = s.bb) (hc : cellsOf s' = c) :
    Own z (σ2.put D (.cells c false 0 []) []) D s' ∧ Fr σ D s (σ2.put D (.cells c false 0 []) []) s' := by
  subst hc
  have hD := wf_lt h.wf h.d
  refine ⟨⟨wf_put hw (hk _ _ h.d fun k => Ne.symm (h.n1 k)), get_put_same _ _ _, ?_, ?_, ?_, ?_, ?_⟩, ?_, ?_⟩
  · intro _; rw [e3, get_put, if_neg (by omega)]; exact hg
  · rw [e2, e4]; intro k
    rw [get_put, if_neg (Ne.symm (h.n2 k))]
    exact hk _ _ (h.b k) fun k2 => Ne.symm (h.n3 k2 k)
  · rw [e3]; intro _; omega
  · rw [e2, e4]; exact h.n2
  · rw [e2, e3, e4]; intro _ k
    have := wf_lt h.wf (h.b k)
    omega
  · rw [next_put]; exact hn
  · intro b x hb ho
    have := wf_lt h.wf hb
    refine ⟨by rw [get_put, if_neg (Ne.symm ho.1)]; exact hk b x hb ho.2.1, ho.1, fun _ => by rw [e3]; omega, ?_⟩
    rw [e2, e4]
    exact ho.2.2
/-- what is wrong in a new block -/
theorem own_bad {z : AV} {σ σ2 : AHeap} {D nb : Nat} {s s' : Dst} {c : List AV} (h : Own z σ D s) (hw : WF σ2) (hn : σ.next ≤ σ2.next) (hk : ∀ b x, σ.m.get b = some x → (s.bad ≠ [] → b ≠ s.bb) → σ2.m.get b = some x)
    (hnb : σ.next ≤ nb) (hg : σ2.m.get nb = some (.cells (flatB z s'.bad) false 0 [])) (e1 : s'.out = s.out) (e3 : s'.ob = s.ob) (e4 : s'.bb = nb) (hc : cellsOf s' = c) :
    Own z (σ2.put D (.cells c false 0 []) []) D s' ∧ Fr σ D s (σ2.put D (.cells c false 0 []) []) s' := by
  subst hc
  have hD := wf_lt h.wf h.d
  refine ⟨⟨wf_put hw (hk _ _ h.d fun k => Ne.symm (h.n2 k)), get_put_same _ _ _, ?_, ?_, ?_, ?_, ?_⟩, ?_, ?_⟩
  · rw [e1, e3]; intro k
    rw [get_put, if_neg (Ne.symm (h.n1 k))]
    exact hk _ _ (h.o k) fun k2 => h.n3 k k2
  · intro _; rw [e4, get_put, if_neg (by omega)]; exact hg
  · rw [e1, e3]; exact h.n1
  · rw [e4]; intro _; omega
  · rw [e1, e3, e4]; intro k _
    have := wf_lt h.wf (h.o k)
    omega
  · rw [next_put]; exact hn
  · intro b x hb ho
    have := wf_lt h.wf hb
    refine ⟨by rw [get_put, if_neg (Ne.symm ho.1)]; exact hk b x hb ho.2.2, ho.1, ?_, fun _ => by rw [e4]; omega⟩
    rw [e1, e3]
    exact ho.2.1
end Go.Am
namespace Go.Am
variable {P : Program} {n : Nat} {Q : Exit → PT AV → AHeap → Prop} {k : List Item} {fr : PT AV} {σ : AHeap}
/-- a scope that is left without a jump -/
def NoGo (Q : Exit → PT AV → AHeap → Prop) : Exit → PT AV → AHeap → Prop
  | .goto _, _, _ => False
  | e, fr, σ => Q e fr σ
theorem acode_scope {c : Code} (h : ACode P n c (NoGo Q) fr σ) : ACode P n (.scope c) Q fr σ := by
  intro θ w a hS hF
  refine wp_scope_straight (wp_mono (h θ w a hS hF) fun e a' w' hq => ?_)
  cases e with
  | goto l => obtain ⟨_, _, _, h, _⟩ := hq; exact h.elim
  | _ => exact hq
theorem sk_scope {c : Code} (h : SK P n (NoGo (SK P n Q k)) [.code c] .normal fr σ) : SK P n Q (.code (.scope c) :: k) .normal fr σ := by
  unfold SK
  unfold SK at h
  refine acode_scope (acode_mono h fun e fr' σ' hq => ?_)
  unfold SK at hq
  cases e <;> exact hq
theorem sk_scope_end (h : SK P n Q k .normal fr σ) : SK P n (NoGo (SK P n Q k)) [] .normal fr σ := by
  unfold SK; exact h
theorem sk_scope_ret {k' : List Item} (h : SK P n Q k .ret fr σ) : SK P n (NoGo (SK P n Q k)) (.code .ret :: k') .normal fr σ := sk_ret (show NoGo (SK P n Q k) .ret fr σ from h)
end Go.Am
namespace Go.Am
variable {P : Program} {n : Nat} {Q : Exit → PT AV → AHeap → Prop} {k : List Item} {fr : PT AV} {σ : AHeap}
theorem slV_pos {b n z : Nat} (h : 0 < n) : slV b n z = .slice b 0 n n false z := by
  cases n with
  | zero => omega
  | succ n => rfl
section
theorem ap_one {st : TypeId} {z n c ba : Nat} {σ : AHeap} {xs ys : List AV} {ex : Bool} (h : SlTy P st z) (hW : WF σ) (hx : xs.length = n * z) (hA : n ≠ 0 → σ.m.get ba = some (.cells xs false 0 [])) (hy : ys.length = z) (ho : oneAll ys = true)
    (hc : σ.m.get c = some (.cells ys false 0 [])) (hn : n ≤ 1000000) :
    ∃ q H, aAppend P σ [st, st] [slV ba n z, .slice c 0 1 1 ex z] = some (slV q (n + 1) z, H) ∧ WF H ∧ σ.next ≤ H.next ∧ σ.next ≤ q ∧ H.m.get q = some (.cells (xs ++ ys) false 0 []) ∧ ∀ b x, σ.m.get b = some x → (n ≠ 0 → b ≠ ba) → H.m.get b = some x := by
  cases n with
  | zero =>
    have : xs = [] := List.eq_nil_of_length_eq_zero (by omega)
    subst this
    exact ⟨_, _, app_first (ex := ex) h hy hc, wf_push hW _, by rw [next_push]; omega, Nat.le_refl _, get_push_same _ _, fun b x hb _ => keep_push hW (Nat.le_refl _) (fun _ _ k => k) b x hb⟩
  | succ m =>
    have hb := hA (by omega)
    have := wf_lt hW hb
    refine ⟨σ.next, ⟨(σ.m.del ba).set σ.next (.cells (xs ++ ys) false 0 []), σ.next + 1⟩, app_next (ex := ex) (n := m + 1) h hy hc hb hx (by omega) (by omega) ho, wf_move hW, by show σ.next ≤ σ.next + 1; omega, Nat.le_refl _, ?_, fun b x hb hne => ?_⟩
    · show ((σ.m.del ba).set σ.next _).get σ.next = _
      rw [get_move, if_pos rfl]
    · have := wf_lt hW hb
      show ((σ.m.del ba).set σ.next _).get b = some x
      rw [get_move, if_neg (by omega), if_neg (Ne.symm (hne (by omega)))]
      exact hb
end
theorem sk_lenv {arr : Array Oper} {rest : List Oper} {dst : Option Tmp} {ty t : TypeId} {pos : String} {aft : Array Edge} {x : Operand} {b m z : Nat} {e : TypeId} (ht : P.underlying t = some (.slice e)) (hok : opOk P (.call ⟨.builtin .len, #[x], #[t]⟩) = true) (hx : aeval fr x = slV b m z)
    (h : SK P n Q (.ops arr rest :: k) .normal (fput n fr dst (.int .i64 (m : Nat))) σ) : SK P n Q (.ops arr (⟨dst, .call ⟨.builtin .len, #[x], #[t]⟩, ty, pos, aft, none⟩ :: rest) :: k) .normal fr σ := by
  refine sk_rd hok ?_ h
  rw [rd_builtin]
  show rdBuiltin P σ.m .len [t] [aeval fr x] = _
  rw [hx]
  cases m <;> simp only [rdBuiltin, aLen, ht, slV] <;> rfl

/-- one piece of code for itself, then the rest from whatever it leaves -/
theorem sk_join {c : Code} (J : PT AV → AHeap → Prop) (h : SK P n (CutQ P n Q k J) [.code c] .normal fr σ) (hk : ∀ fr σ, J fr σ → SK P n Q k .normal fr σ) :
    SK P n Q (.code c :: k) .normal fr σ := by
  unfold SK at h ⊢
  refine acode_mono h fun e fr' σ' hq => ?_
  unfold SK at hq
  cases e with
  | normal => exact hk _ _ hq
  | _ => exact hq
theorem strs_get' {l : List (List Nat)} {i : Nat} {k : List Nat} (h : l[i]? = some k) : (l.map AV.str)[i]? = some (.str k) := by rw [List.getElem?_map, h]; rfl
end Go.Am
namespace Go.Am
variable {P : Program} {n : Nat} {Q Q' : Exit → PT AV → AHeap → Prop} {k : List Item} {fr : PT AV} {σ : AHeap}
theorem sk_app : ∀ (l k : List Item) (e : Exit) (fr : PT AV) (σ : AHeap), SK P n Q (l ++ k) e fr σ ↔ SK P n (SK P n Q k) l e fr σ
  | [], k, e, fr, σ => by simp only [List.nil_append]; rw [SK]
  | x :: l, k, e, fr, σ => by
    have ih : SK P n Q (l ++ k) = SK P n (SK P n Q k) l := by
      funext e fr σ; exact propext (sk_app l k e fr σ)
    rw [List.cons_append]
    cases x <;> cases e <;> simp only [SK, ih]
theorem aexec_mono {o : Oper} {K K' : PT AV → AHeap → Prop} (h : AExec P n o fr σ K) (hk : ∀ fr σ, K fr σ → K' fr σ) : AExec P n o fr σ K' := by
  obtain ⟨h0, h⟩ := h
  refine ⟨h0, ?_⟩
  rcases h with ⟨v, h1, h2⟩ | ⟨v, σ', h1, h2⟩ | ⟨f, args, h1, h2⟩
  · exact .inl ⟨v, h1, hk _ _ h2⟩
  · exact .inr (.inl ⟨v, σ', h1, hk _ _ h2⟩)
  · exact .inr (.inr ⟨f, args, h1, h2.mono fun v σ' h => hk _ _ h⟩)
theorem aops_mono {arr : Array Oper} {K K' : PT AV → AHeap → Prop} (hk : ∀ fr σ, K fr σ → K' fr σ) : ∀ {l : List Oper} {fr : PT AV} {σ : AHeap}, AOps P n arr K l fr σ → AOps P n arr K' l fr σ
  | [], fr, σ, h => hk _ _ h
  | o :: l, fr, σ, h => by
    simp only [AOps] at h ⊢
    split at h
    · exact aexec_mono h fun fr σ h => aops_mono hk h
    · exact aops_mono hk h
theorem adraw_mono {arr : Array Oper} {ms : List Nat} {K K' : PT AV → AHeap → Prop} (hk : ∀ fr σ, K fr σ → K' fr σ) : ∀ {l done : List Nat} {fr : PT AV} {σ : AHeap}, ADraw P n arr ms K l done fr σ → ADraw P n arr ms K' l done fr σ
  | [], done, fr, σ, h => hk _ _ h
  | i :: l, done, fr, σ, h => by
    simp only [ADraw] at h ⊢
    cases ho : arr[i]? with
    | none => rw [ho] at h; exact h
    | some o =>
      rw [ho] at h
      simp only at h ⊢
      cases hq : quiet P o.op with
      | true =>
        rw [hq] at h
        simp only at h ⊢
        cases hw : wantedA arr fr o with
        | true =>
          rw [hw] at h
          obtain ⟨h1, v, h2, h3⟩ := h
          exact ⟨h1, v, h2, adraw_mono hk h3⟩
        | false => rw [hw] at h; exact adraw_mono hk h
      | false =>
        rw [hq] at h
        simp only at h ⊢
        cases hw : wantedA arr fr o with
        | true =>
          rw [hw] at h
          exact aexec_mono h fun fr σ h => ⟨h.1, adraw_mono hk h.2⟩
        | false => rw [hw] at h; exact ⟨h.1, adraw_mono hk h.2⟩
theorem sk_mono : ∀ {l : List Item} {e : Exit} {fr : PT AV} {σ : AHeap}, (∀ e fr σ, Q e fr σ → Q' e fr σ) → SK P n Q l e fr σ → SK P n Q' l e fr σ
  | l, e, fr, σ, h, hs => by
    have key : ∀ (l : List Item), (∀ e fr σ, SK P n Q l e fr σ → SK P n Q' l e fr σ) := by
      intro l
      induction l with
      | nil => intro e fr σ hs; simp only [SK] at hs ⊢; exact h _ _ _ hs
      | cons x l ih =>
        intro e fr σ hs
        cases x with
        | code c =>
          cases e <;> simp only [SK] at hs ⊢
          case normal => exact acode_mono hs ih
          all_goals exact ih _ _ _ hs
        | ops arr l' =>
          cases e <;> simp only [SK] at hs ⊢
          case normal => exact aops_mono (fun fr σ => ih _ _ _) hs
          all_goals exact ih _ _ _ hs
        | draw arr a b =>
          cases e <;> simp only [SK] at hs ⊢
          case normal => exact adraw_mono (fun fr σ => ih _ _ _) hs
          all_goals exact ih _ _ _ hs
        | blk id =>
          cases e <;> simp only [SK] at hs ⊢
          case exit id' =>
            split at hs
            · rename_i e; rw [if_pos e]; exact ih _ _ _ hs
            · rename_i e; rw [if_neg e]; exact ih _ _ _ hs
          all_goals exact ih _ _ _ hs
        | stop J =>
          cases e <;> simp only [SK] at hs ⊢
          case normal => exact hs
          all_goals exact ih _ _ _ hs
    exact key l e fr σ hs
/-- a few things to do for themselves, then the rest from whatever they leave -/
theorem sk_split (l : List Item) (J : PT AV → AHeap → Prop) (h : SK P n (CutQ P n Q k J) l .normal fr σ) (hk : ∀ fr σ, J fr σ → SK P n Q k .normal fr σ) : SK P n Q (l ++ k) .normal fr σ := by
  rw [sk_app]
  refine sk_mono (fun e fr σ hq => ?_) h
  cases e with
  | normal => exact hk _ _ hq
  | _ => exact hq
theorem sk_split2 {x y : Item} (J : PT AV → AHeap → Prop) (h : SK P n (CutQ P n Q k J) [x, y] .normal fr σ) (hk : ∀ fr σ, J fr σ → SK P n Q k .normal fr σ) : SK P n Q (x :: y :: k) .normal fr σ := sk_split [x, y] J h hk
theorem sk_split3 {x y z : Item} (J : PT AV → AHeap → Prop) (h : SK P n (CutQ P n Q k J) [x, y, z] .normal fr σ) (hk : ∀ fr σ, J fr σ → SK P n Q k .normal fr σ) : SK P n Q (x :: y :: z :: k) .normal fr σ := sk_split [x, y, z] J h hk
theorem sk_exit_pass : ∀ {k : List Item} {id : Nat}, leave k id = none → Q (.exit id) fr σ → SK P n Q k (.exit id) fr σ
  | [], id, _, hs => by simp only [SK]; exact hs
  | .blk id' :: k, id, h, hs => by
    simp only [leave] at h
    simp only [SK]
    split at h
    · cases h
    · rename_i e; rw [if_neg e]; exact sk_exit_pass h hs
  | .code c :: k, id, h, hs => by simp only [leave] at h; simp only [SK]; exact sk_exit_pass h hs
  | .ops arr l :: k, id, h, hs => by simp only [leave] at h; simp only [SK]; exact sk_exit_pass h hs
  | .draw arr a b :: k, id, h, hs => by simp only [leave] at h; simp only [SK]; exact sk_exit_pass h hs
  | .stop J :: k, id, h, hs => by simp only [leave] at h; simp only [SK]; exact sk_exit_pass h hs
/-- out of a part by an exit of what is around it -/
theorem sk_cut_exit {id : Nat} {J : PT AV → AHeap → Prop} {k' k'' : List Item} (h1 : leave k' id = none) (h2 : leave k id = some k'') (h : SK P n Q k'' .normal fr σ) : SK P n (CutQ P n Q k J) (.code (.exit id) :: k') .normal fr σ := by
  unfold SK
  exact acode_exit (sk_exit_pass (Q := CutQ P n Q k J) h1 (sk_leave h2 h))
end Go.Am
