import Derived.Test.YtophnlmdcidolaaDoorD
set_option linter.all false
namespace Go.Am
/-! The decoder's memory. -/
structure Dst where
  u : Bool
  pl : Nat
  bg : Nat
  lf : Nat
  vl : Int
  lo : Int
  hi : Int
  out : List (Int × Nat)
  bad : List Nat
  ob : Nat
  bb : Nat
def flatR : List (Int × Nat) → List AV
  | [] => []
  | r :: l => .int .i64 r.1 :: .int .i64 (r.2 : Nat) :: flatR l
def flatB (z : AV) : List Nat → List AV
  | [] => []
  | a :: l => .int .i64 2 :: .int .i64 (a : Nat) :: z :: flatB z l
theorem flatR_len : ∀ l, (flatR l).length = l.length * 2
  | [] => rfl
  | _ :: l => by simp only [flatR, List.length_cons, flatR_len l]; omega
theorem flatB_len (z : AV) : ∀ l, (flatB z l).length = l.length * 3
  | [] => rfl
  | _ :: l => by simp only [flatB, List.length_cons, flatB_len z l]; omega
theorem flatR_app : ∀ l r, flatR (l ++ r) = flatR l ++ flatR r
  | [], _ => rfl
  | _ :: l, r => by simp [flatR, flatR_app l r]
theorem flatB_app (z : AV) : ∀ l r, flatB z (l ++ r) = flatB z l ++ flatB z r
  | [], _ => rfl
  | _ :: l, r => by simp [flatB, flatB_app z l r]
def slV (b n z : Nat) : AV := match n with
  | 0 => .nilslice
  | n + 1 => .slice b 0 (n + 1) (n + 1) false z
def cellsOf (s : Dst) : List AV := [.bool s.u, .int .i64 (s.pl : Nat), .int .i64 (s.bg : Nat), .int .i64 (s.lf : Nat), .int .i64 s.vl, .int .u8 s.lo, .int .u8 s.hi, slV s.ob s.out.length 2, slV s.bb s.bad.length 3]
structure Own (z : AV) (σ : AHeap) (D : Nat) (s : Dst) : Prop where
  wf : WF σ
  d : σ.m.get D = some (.cells (cellsOf s) false 0 [])
  o : s.out ≠ [] → σ.m.get s.ob = some (.cells (flatR s.out) false 0 [])
  b : s.bad ≠ [] → σ.m.get s.bb = some (.cells (flatB z s.bad) false 0 [])
  n1 : s.out ≠ [] → s.ob ≠ D
  n2 : s.bad ≠ [] → s.bb ≠ D
  n3 : s.out ≠ [] → s.bad ≠ [] → s.ob ≠ s.bb
/-- not of the decoder -/
def Off (s : Dst) (D b : Nat) : Prop := b ≠ D ∧ (s.out ≠ [] → b ≠ s.ob) ∧ (s.bad ≠ [] → b ≠ s.bb)
def Fr (σ : AHeap) (D : Nat) (s : Dst) (σ' : AHeap) (s' : Dst) : Prop := σ.next ≤ σ'.next ∧ ∀ b x, σ.m.get b = some x → Off s D b → σ'.m.get b = some x ∧ Off s' D b
theorem Fr.refl (σ : AHeap) (D : Nat) (s : Dst) : Fr σ D s σ s := ⟨Nat.le_refl _, fun _ _ h o => ⟨h, o⟩⟩
theorem Fr.trans {σ σ' σ'' : AHeap} {D : Nat} {s s' s'' : Dst} (h : Fr σ D s σ' s') (k : Fr σ' D s' σ'' s'') : Fr σ D s σ'' s'' :=
  ⟨Nat.le_trans h.1 k.1, fun b x hb ho => k.2 b x (h.2 b x hb ho).1 (h.2 b x hb ho).2⟩
theorem wf_put {σ : AHeap} {D : Nat} {x y : ABlock} (h : WF σ) (hd : σ.m.get D = some y) : WF (σ.put D x []) := by
  intro b hb
  rw [next_put] at hb
  have := wf_lt h hd
  rw [get_put, if_neg (by omega)]
  exact h b hb
theorem wf_move {σ : AHeap} {k : Nat} {x : ABlock} (h : WF σ) : WF ⟨(σ.m.del k).set σ.next x, σ.next + 1⟩ := by
  intro b hb
  have hb : σ.next + 1 ≤ b := hb
  show ((σ.m.del k).set σ.next x).get b = none
  rw [get_move, if_neg (by omega)]
  split
  · rfl
  · exact h b (by omega)
/-- fields turned -/
theorem own_set {z : AV} {σ : AHeap} {D : Nat} {s s' : Dst} {c : List AV} (h : Own z σ D s) (e1 : s'.out = s.out) (e2 : s'.bad = s.bad) (e3 : s'.ob = s.ob) (e4 : s'.bb = s.bb) (hc : cellsOf s' = c) :
    Own z (σ.put D (.cells c false 0 []) []) D s' ∧ Fr σ D s (σ.put D (.cells c false 0 []) []) s' := by
  subst hc
  refine ⟨⟨wf_put h.wf h.d, get_put_same _ _ _, ?_, ?_, ?_, ?_, ?_⟩, ?_, ?_⟩
  · rw [e1, e3]; intro k; rw [get_put, if_neg (Ne.symm (h.n1 k))]; exact h.o k
  · rw [e2, e4]; intro k; rw [get_put, if_neg (Ne.symm (h.n2 k))]; exact h.b k
  · rw [e1, e3]; exact h.n1
  · rw [e2, e4]; exact h.n2
  · rw [e1, e2, e3, e4]; exact h.n3
  · rw [next_put]; exact Nat.le_refl _
  · intro b x hb ho
    refine ⟨by rw [get_put, if_neg (Ne.symm ho.1)]; exact hb, ?_⟩
    unfold Off
    rw [e1, e2, e3, e4]
    exact ho
/-- the scalars in a new block -/
theorem own_out {z : AV} {σ σ2 : AHeap} {D nb : Nat} {s s' : Dst} {c : List AV} (h : Own z σ D s) (hw : WF σ2) (hn : σ.next ≤ σ2.next) (hk : ∀ b x, σ.m.get b = some x → (s.out ≠ [] → b ≠ s.ob) → σ2.m.get b = some x)
    (hnb : σ.next ≤ nb) (hg : σ2.m.get nb = some (.cells (flatR s'.out) false 0 [])) (e2 : s'.bad = s.bad) (e3 : s'.ob = nb) (e4 : s'.bb = s.bb) (hc : cellsOf s' = c) :
    Own z (σ2.put D (.cells c false 0 []) []) D s' ∧ Fr σ D s (σ2.put D (.cells c false 0 []) []) s' := by
  subst hc
  have hD := wf_lt h.wf h.d
  refine ⟨⟨wf_put hw (hk _ _ h.d fun k => Ne.symm (h.n1 k)), get_put_same _ _ _, ?_, ?_, ?_, ?_, ?_⟩, ?_, ?_⟩
  · intro _; rw [e3, get_put, if_neg (by omega)]; exact hg
  · rw [e2, e4]; intro k
    rw [get_put, if_neg (Ne.symm (h.n2 k))]
    exact hk _ _ (h.b k) fun k2 => Ne.symm (h.n3 k2 k)
  · rw [e3]; intro _; omega
  · rw [e2, e4]; exact h.n2
  · rw [e2, e3, e4]; intro _ k
    have := wf_lt h.wf (h.b k)
    omega
  · rw [next_put]; exact hn
  · intro b x hb ho
    have := wf_lt h.wf hb
    refine ⟨by rw [get_put, if_neg (Ne.symm ho.1)]; exact hk b x hb ho.2.1, ho.1, fun _ => by rw [e3]; omega, ?_⟩
    rw [e2, e4]
    exact ho.2.2
/-- what is wrong in a new block -/
theorem own_bad {z : AV} {σ σ2 : AHeap} {D nb : Nat} {s s' : Dst} {c : List AV} (h : Own z σ D s) (hw : WF σ2) (hn : σ.next ≤ σ2.next) (hk : ∀ b x, σ.m.get b = some x → (s.bad ≠ [] → b ≠ s.bb) → σ2.m.get b = some x)
    (hnb : σ.next ≤ nb) (hg : σ2.m.get nb = some (.cells (flatB z s'.bad) false 0 [])) (e1 : s'.out = s.out) (e3 : s'.ob = s.ob) (e4 : s'.bb = nb) (hc : cellsOf s' = c) :
    Own z (σ2.put D (.cells c false 0 []) []) D s' ∧ Fr σ D s (σ2.put D (.cells c false 0 []) []) s' := by
  subst hc
  have hD := wf_lt h.wf h.d
  refine ⟨⟨wf_put hw (hk _ _ h.d fun k => Ne.symm (h.n2 k)), get_put_same _ _ _, ?_, ?_, ?_, ?_, ?_⟩, ?_, ?_⟩
  · rw [e1, e3]; intro k
    rw [get_put, if_neg (Ne.symm (h.n1 k))]
    exact hk _ _ (h.o k) fun k2 => h.n3 k k2
  · intro _; rw [e4, get_put, if_neg (by omega)]; exact hg
  · rw [e1, e3]; exact h.n1
  · rw [e4]; intro _; omega
  · rw [e1, e3, e4]; intro k _
    have := wf_lt h.wf (h.o k)
    omega
  · rw [next_put]; exact hn
  · intro b x hb ho
    have := wf_lt h.wf hb
    refine ⟨by rw [get_put, if_neg (Ne.symm ho.1)]; exact hk b x hb ho.2.2, ho.1, ?_, fun _ => by rw [e4]; omega⟩
    rw [e1, e3]
    exact ho.2.1
end Go.Am
