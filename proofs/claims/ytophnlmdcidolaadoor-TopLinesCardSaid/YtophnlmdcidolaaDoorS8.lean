import Derived.Test.YtophnlmdcidolaaDoorS6
set_option linter.all false
namespace Go.Am
def dst0 (u : Bool) (a : Nat) : Dst := ⟨u, a, 0, 0, 0, 0, 0, [], [], 0, 0⟩
theorem own_new {z : AV} {σ : AHeap} {u : Bool} {a : Nat} (h : WF σ) : Own z (σ.push (.cells (cellsOf (dst0 u a)) false 0 [])) σ.next (dst0 u a) :=
  ⟨wf_push h _, get_push_same _ _, fun e => absurd rfl e, fun e => absurd rfl e, fun e => absurd rfl e, fun e => absurd rfl e, fun e => absurd rfl e⟩
/-- nothing is told any more -/
theorem own_clear {z : AV} {σ : AHeap} {D : Nat} {s : Dst} (h : Own z σ D s) : Own z (σ.put D (.cells (cellsOf { s with out := [], bad := [] }) false 0 []) []) D { s with out := [], bad := [] } :=
  ⟨wf_put h.wf h.d, get_put_same _ _ _, fun e => absurd rfl e, fun e => absurd rfl e, fun e => absurd rfl e, fun e => absurd rfl e, fun e => absurd rfl e⟩
theorem get_put_ne {σ : AHeap} {D b : Nat} {x : ABlock} (h : b ≠ D) : (σ.put D x []).m.get b = σ.m.get b := by rw [get_put, if_neg (Ne.symm h)]
end Go.Am
namespace Go.Proofs.YtophnlmdcidolaaDoor
open Go Go.Am
set_option maxHeartbeats 8000000
set_option maxRecDepth 100000

theorem f26_tr (coding : Int) (a : Nat) (σ : AHeap) : Tr Tryd.prog 26 [.int .i64 coding, .int .i64 (a : Nat)] σ fun v σ' => v = .ptr σ.next 0 ∧ σ' = σ.push (.cells (cellsOf (dst0 (coding == 1) a)) false 0 []) := by
  refine sk_body (m := 10) Tryd.func26 rfl (by decide) rfl ?_
  repeat (first
    | refine sk_seq ?_
    | refine sk_region ?_
    | refine sk_ops_nil ?_
    | refine sk_block ?_
    | refine sk_blk ?_
    | refine sk_skip ?_
    | refine sk_exit rfl ?_
    | ((first | (apply sk_r; rfl; rfl) | (apply sk_w; rfl; rfl) | (apply sk_i; rfl) | (apply sk_g; rfl; rfl)); (simp only [go_sem, Nat.reduceLT, Nat.reduceLeDiff, Nat.reduceEqDiff, Nat.reduceAdd, Nat.reduceSub, Nat.reduceMul, reduceIte, reduceCtorEq] <;> rfl); (first | refine sk_id ?_ | refine cs_t ?_ | refine cs_f ?_ | refine gs_t rfl ?_ | refine gs_f rfl ?_)))
  exact sk_ret ⟨_, (by first | (simp only [aRet, Tryd.results26, aResults, aResult, go_sem, Nat.reduceLT, Nat.reduceLeDiff, Nat.reduceEqDiff, Nat.reduceAdd, Nat.reduceSub, Nat.reduceMul, reduceIte, reduceCtorEq] <;> rfl) | fail), rfl, rfl⟩

theorem f28_tr {σ : AHeap} {D : Nat} {s : Dst} (h : OwnD σ D s) (h1 : s.out = []) (h2 : s.bad = []) :
    Tr Tryd.prog 28 [.ptr D 0] σ fun r σ' => ∃ s' σ2, r = .tuple [slV s'.ob s'.out.length 2, slV s'.bb s'.bad.length 3] ∧ OwnD σ2 D s' ∧ Fr σ D s σ2 s' ∧ σ' = σ2.put D (.cells (cellsOf { s' with out := [], bad := [] }) false 0 []) [] ∧
      (s.lf = 0 → s'.out = [] ∧ s'.bad = []) ∧ (0 < s.lf → s'.out = [(65533, s.bg)] ∧ s'.bad = [s.bg]) := by
  have hd := h.d
  unfold cellsOf at hd
  refine sk_body (m := 17) Tryd.func28 rfl (by decide) rfl ?_
  by_cases h0 : s.lf = 0
  · have c0 : decide ((s.lf : Int) > 0) = false := decide_eq_false (by omega)
    repeat (first
      | refine sk_seq ?_
      | refine sk_region ?_
      | refine sk_ops_nil ?_
      | refine sk_block ?_
      | refine sk_blk ?_
      | refine sk_skip ?_
      | refine sk_exit rfl ?_
      | ((first | (apply sk_r; rfl; rfl) | (apply sk_w; rfl; rfl) | (apply sk_i; rfl) | (apply sk_g; rfl; rfl)); (simp only [go_sem, Nat.reduceLT, Nat.reduceLeDiff, Nat.reduceEqDiff, Nat.reduceAdd, Nat.reduceSub, Nat.reduceMul, reduceIte, reduceCtorEq, hd, c0] <;> rfl); (first | refine sk_id ?_ | refine cs_t ?_ | refine cs_f ?_ | refine gs_t rfl ?_ | refine gs_f rfl ?_))
      | ((first | (apply sk_c; rfl; rfl)); (simp only [go_sem, Nat.reduceLT, Nat.reduceLeDiff, Nat.reduceEqDiff, Nat.reduceAdd, Nat.reduceSub, Nat.reduceMul, reduceIte, reduceCtorEq, hd, c0] <;> rfl); (first
          | (refine (f42_tr h).mono ?_; rintro _ τ ⟨rfl, hτ⟩; rw [hτ])); refine sk_id ?_))
    exact sk_ret ⟨_, (by first | (simp only [aRet, Tryd.results28, aResults, aResult, go_sem, Nat.reduceLT, Nat.reduceLeDiff, Nat.reduceEqDiff, Nat.reduceAdd, Nat.reduceSub, Nat.reduceMul, reduceIte, reduceCtorEq] <;> rfl) | fail), s, σ, rfl, h, Fr.refl _ _ _, rfl, fun _ => ⟨h1, h2⟩, fun k => absurd k (by omega)⟩
  · have c0 : decide ((s.lf : Int) > 0) = true := decide_eq_true (by omega)
    repeat (first
      | refine sk_seq ?_
      | refine sk_region ?_
      | refine sk_ops_nil ?_
      | refine sk_block ?_
      | refine sk_blk ?_
      | refine sk_skip ?_
      | refine sk_exit rfl ?_
      | ((first | (apply sk_r; rfl; rfl) | (apply sk_w; rfl; rfl) | (apply sk_i; rfl) | (apply sk_g; rfl; rfl)); (simp only [go_sem, Nat.reduceLT, Nat.reduceLeDiff, Nat.reduceEqDiff, Nat.reduceAdd, Nat.reduceSub, Nat.reduceMul, reduceIte, reduceCtorEq, hd, c0] <;> rfl); (first | refine sk_id ?_ | refine cs_t ?_ | refine cs_f ?_ | refine gs_t rfl ?_ | refine gs_f rfl ?_))
      | ((first | (apply sk_c; rfl; rfl)); (simp only [go_sem, Nat.reduceLT, Nat.reduceLeDiff, Nat.reduceEqDiff, Nat.reduceAdd, Nat.reduceSub, Nat.reduceMul, reduceIte, reduceCtorEq, hd, c0] <;> rfl); (first
          | (refine (f43_tr h (by rw [h1]; decide) (by rw [h2]; decide)).mono ?_; rintro _ τ ⟨rfl, ob, bb, t1, t2⟩)); refine sk_id ?_))
    clear hd
    repeat (first
      | refine sk_seq ?_
      | refine sk_region ?_
      | refine sk_ops_nil ?_
      | refine sk_block ?_
      | refine sk_blk ?_
      | refine sk_skip ?_
      | refine sk_exit rfl ?_
      | ((first | (apply sk_r; rfl; rfl) | (apply sk_w; rfl; rfl) | (apply sk_i; rfl) | (apply sk_g; rfl; rfl)); (simp only [go_sem, Nat.reduceLT, Nat.reduceLeDiff, Nat.reduceEqDiff, Nat.reduceAdd, Nat.reduceSub, Nat.reduceMul, reduceIte, reduceCtorEq] <;> rfl); (first | refine sk_id ?_ | refine cs_t ?_ | refine cs_f ?_ | refine gs_t rfl ?_ | refine gs_f rfl ?_))
      | ((first | (apply sk_c; rfl; rfl)); (simp only [go_sem, Nat.reduceLT, Nat.reduceLeDiff, Nat.reduceEqDiff, Nat.reduceAdd, Nat.reduceSub, Nat.reduceMul, reduceIte, reduceCtorEq] <;> rfl); (first
          | (refine (f42_tr t1).mono ?_; rintro _ τ2 ⟨rfl, hτ⟩; rw [hτ])); refine sk_id ?_))
    exact sk_ret ⟨_, (by first | (simp only [aRet, Tryd.results28, aResults, aResult, go_sem, Nat.reduceLT, Nat.reduceLeDiff, Nat.reduceEqDiff, Nat.reduceAdd, Nat.reduceSub, Nat.reduceMul, reduceIte, reduceCtorEq] <;> rfl) | fail), _, τ, rfl, t1, t2, rfl, fun k => absurd k h0, fun _ => ⟨by show s.out ++ _ = _; rw [h1]; rfl, by show s.bad ++ _ = _; rw [h2]; rfl⟩⟩
end Go.Proofs.YtophnlmdcidolaaDoor
namespace Go.Am
/-- newlines in one form -/
def passL : Bool → List (Int × Nat) → List (Int × Nat)
  | _, [] => []
  | a, r :: l => if a = true ∧ r.1 = 10 then passL (r.1 == 13) l else (if r.1 = 13 then 10 else r.1, r.2) :: passL (r.1 == 13) l
theorem slV_some {b n z : Nat} (h : 0 < n) : slV b n z = .slice b 0 n n false z := by
  cases n with
  | zero => omega
  | succ n => rfl
theorem sub_flatR : ∀ {l : List (Int × Nat)} {i : Nat} {r : Int × Nat}, l[i]? = some r → sub (flatR l) (i * 2) 2 = some [.int .i64 r.1, .int .i64 (r.2 : Nat)]
  | [], i, r, h => by simp at h
  | x :: l, 0, r, h => by simp at h; subst h; rfl
  | x :: l, i + 1, r, h => by
    have := sub_flatR (l := l) (i := i) (r := r) (by simpa using h)
    rw [← this, Nat.succ_mul]
    rfl
theorem drop_cons {l : List (Int × Nat)} {i : Nat} {r : Int × Nat} (h : l[i]? = some r) : l.drop i = r :: l.drop (i + 1) := by
  obtain ⟨h1, h2⟩ := List.getElem?_eq_some_iff.1 h
  rw [List.drop_eq_getElem_cons h1, h2]
theorem pass_len : ∀ (a : Bool) (l : List (Int × Nat)), (passL a l).length ≤ l.length
  | _, [] => Nat.le_refl _
  | a, r :: l => by
    simp only [passL]
    have := pass_len (r.1 == 13) l
    split
    · simp only [List.length_cons]; omega
    · simp only [List.length_cons]; omega
/-- what holds in a round -/
structure PassH (σ σ' : AHeap) (L ib : Nat) (l O : List (Int × Nat)) (a : Bool) (ob : Nat) : Prop where
  wf : WF σ'
  nx : σ.next ≤ σ'.next
  after : σ'.m.get L = some (.cells [.bool a] false 0 [])
  inp : σ'.m.get ib = some (.cells (flatR l) false 0 [])
  out : O ≠ [] → σ.next ≤ ob ∧ σ'.m.get ob = some (.cells (flatR O) false 0 [])
  keep : ∀ b x, σ.m.get b = some x → b ≠ L → σ'.m.get b = some x
/-- a heap behind the first half of a round -/
theorem passH_put {σ σ' H : AHeap} {L ib : Nat} {l O : List (Int × Nat)} {a a' : Bool} {ob : Nat} (h : PassH σ σ' L ib l O a ob) (hL : L < σ.next) (hi : ib ≠ L) (hw : WF H) (hn : σ'.next ≤ H.next)
    (h1 : H.m.get L = some (.cells [.bool a'] false 0 [])) (h2 : ∀ b x, σ'.m.get b = some x → b ≠ L → H.m.get b = some x) : PassH σ H L ib l O a' ob :=
  ⟨hw, Nat.le_trans h.nx hn, h1, h2 _ _ h.inp hi, fun e => ⟨(h.out e).1, h2 _ _ (h.out e).2 (by have := (h.out e).1; omega)⟩, fun b x hb hne => h2 _ _ (h.keep b x hb hne) hne⟩
/-- one more is told -/
theorem passH_first {σ H : AHeap} {L ib : Nat} {l : List (Int × Nat)} {a : Bool} {ob : Nat} (h : PassH σ H L ib l [] a ob) (v : Int) (p : Nat) :
    PassH σ ((H.push (.cells [.int .i64 v, .int .i64 (p : Nat)] false 0 [])).push (.cells [.int .i64 v, .int .i64 (p : Nat)] false 0 [])) L ib l [(v, p)] a (H.next + 1) := by
  have k : ∀ b x, H.m.get b = some x → ((H.push (.cells [.int .i64 v, .int .i64 (p : Nat)] false 0 [])).push (.cells [.int .i64 v, .int .i64 (p : Nat)] false 0 [])).m.get b = some x := fun b x hb =>
    keep_push h.wf (by simp only [next_push]; omega) (keep_push h.wf (Nat.le_refl _) fun _ _ k => k) b x hb
  exact ⟨wf_push (wf_push h.wf _) _, by simp only [next_push]; have := h.nx; omega, k _ _ h.after, k _ _ h.inp, fun _ => ⟨by have := h.nx; omega, get_push_same (H.push _) _⟩, fun b x hb hne => k _ _ (h.keep b x hb hne)⟩
theorem passH_next {σ H : AHeap} {L ib : Nat} {l O : List (Int × Nat)} {a : Bool} {ob : Nat} (h : PassH σ H L ib l O a ob) (hW : WF σ) (hL : L < σ.next) (hib : ib < σ.next) (hO : O ≠ []) (v : Int) (p : Nat) :
    PassH σ ⟨((H.push (.cells [.int .i64 v, .int .i64 (p : Nat)] false 0 [])).m.del ob).set (H.next + 1) (.cells (flatR O ++ [.int .i64 v, .int .i64 (p : Nat)]) false 0 []), H.next + 1 + 1⟩ L ib l (O ++ [(v, p)]) a (H.next + 1) := by
  obtain ⟨o1, o2⟩ := h.out hO
  have k : ∀ b x, H.m.get b = some x → b ≠ ob → (((H.push (.cells [.int .i64 v, .int .i64 (p : Nat)] false 0 [])).m.del ob).set (H.next + 1) (.cells (flatR O ++ [.int .i64 v, .int .i64 (p : Nat)]) false 0 [])).get b = some x := fun b x hb hne => by
    have := wf_lt h.wf hb
    rw [get_move, if_neg (by omega), if_neg (Ne.symm hne), get_push, if_neg (by omega)]
    exact hb
  have hnx := h.nx
  refine ⟨wf_move (wf_push h.wf _), by show σ.next ≤ H.next + 1 + 1; omega, k _ _ h.after (by omega), k _ _ h.inp (by omega), fun _ => ⟨by omega, ?_⟩, fun b x hb hne => k _ _ (h.keep b x hb hne) ?_⟩
  · show (((H.push _).m.del ob).set (H.next + 1) _).get (H.next + 1) = _
    rw [get_move, if_pos rfl, flatR_app]
    rfl
  · intro e
    subst e
    have := wf_lt hW hb
    omega
end Go.Am
namespace Go.Proofs.YtophnlmdcidolaaDoor
open Go Go.Am
set_option maxHeartbeats 8000000
set_option maxRecDepth 100000

theorem f29_tr {σ : AHeap} {L ib : Nat} (l : List (Int × Nat)) (hL : σ.m.get L = some (.cells [.bool false] false 0 [])) (hI : l ≠ [] → σ.m.get ib = some (.cells (flatR l) false 0 [])) (hne : l ≠ [] → ib ≠ L) (hl : l.length ≤ 1000000) :
    Tr Tryd.prog 29 [.ptr L 0, slV ib l.length 2] σ fun r σ' => ∃ ob, r = slV ob (passL false l).length 2 ∧ WF σ' ∧ σ.next ≤ σ'.next ∧ (passL false l ≠ [] → σ.next ≤ ob ∧ σ'.m.get ob = some (.cells (flatR (passL false l)) false 0 [])) ∧ ∀ b x, σ.m.get b = some x → b ≠ L → σ'.m.get b = some x := by
  refine Tr.wf fun hW => ?_
  have hLn := wf_lt hW hL
  refine sk_body (m := 47) Tryd.func29 rfl (by decide) rfl ?_
  cases hl0 : l with
  | nil =>
    show SK Tryd.prog 47 _ _ _ (finit [.ptr L 0, .nilslice]) _
    repeat (first
      | refine sk_seq ?_
      | refine sk_region ?_
      | refine sk_ops_nil ?_
      | refine sk_block ?_
      | refine sk_blk ?_
      | refine sk_skip ?_
      | refine sk_exit rfl ?_
      | ((first | (apply sk_r; rfl; rfl) | (apply sk_w; rfl; rfl) | (apply sk_i; rfl) | (apply sk_g; rfl; rfl)); (simp only [go_sem, Nat.reduceLT, Nat.reduceLeDiff, Nat.reduceEqDiff, Nat.reduceAdd, Nat.reduceSub, Nat.reduceMul, reduceIte, reduceCtorEq] <;> rfl); (first | refine sk_id ?_ | refine cs_t ?_ | refine cs_f ?_ | refine gs_t rfl ?_ | refine gs_f rfl ?_)))
    refine sk_once ?_
    repeat (first
      | refine sk_seq ?_
      | refine sk_region ?_
      | refine sk_ops_nil ?_
      | refine sk_block ?_
      | refine sk_blk ?_
      | refine sk_skip ?_
      | refine sk_exit rfl ?_
      | ((first | (apply sk_r; rfl; rfl) | (apply sk_w; rfl; rfl) | (apply sk_i; rfl) | (apply sk_g; rfl; rfl)); (simp only [go_sem, Nat.reduceLT, Nat.reduceLeDiff, Nat.reduceEqDiff, Nat.reduceAdd, Nat.reduceSub, Nat.reduceMul, reduceIte, reduceCtorEq] <;> rfl); (first | refine sk_id ?_ | refine cs_t ?_ | refine cs_f ?_ | refine gs_t rfl ?_ | refine gs_f rfl ?_)))
    exact sk_ret ⟨_, (by first | (simp only [aRet, Tryd.results29, aResults, aResult, go_sem, Nat.reduceLT, Nat.reduceLeDiff, Nat.reduceEqDiff, Nat.reduceAdd, Nat.reduceSub, Nat.reduceMul, reduceIte, reduceCtorEq] <;> rfl) | fail), 0, rfl, hW, Nat.le_refl _, fun h => absurd rfl h, fun b x h _ => h⟩
  | cons r0 t0 =>
    rw [← hl0]
    have hln : l ≠ [] := by rw [hl0]; simp
    have hpos : 0 < l.length := List.length_pos_iff.2 hln
    have hi := hI hln
    have hin := wf_lt hW hi
    have hiL := hne hln
    clear hl0 r0 t0
    rw [slV_some hpos]
    repeat (first
      | refine sk_seq ?_
      | refine sk_region ?_
      | refine sk_ops_nil ?_
      | refine sk_block ?_
      | refine sk_blk ?_
      | refine sk_skip ?_
      | refine sk_exit rfl ?_
      | ((first | (apply sk_r; rfl; rfl) | (apply sk_w; rfl; rfl) | (apply sk_i; rfl) | (apply sk_g; rfl; rfl)); (simp only [go_sem, Nat.reduceLT, Nat.reduceLeDiff, Nat.reduceEqDiff, Nat.reduceAdd, Nat.reduceSub, Nat.reduceMul, reduceIte, reduceCtorEq] <;> rfl); (first | refine sk_id ?_ | refine cs_t ?_ | refine cs_f ?_ | refine gs_t rfl ?_ | refine gs_f rfl ?_)))
    refine sk_loop (fun m fr σ' => ∃ i O a ob, m = l.length - i ∧ i ≤ l.length ∧ PassH σ σ' L ib l O a ob ∧ O.length ≤ i ∧ passL false l = O ++ passL a (l.drop i) ∧ fget fr 0 = .ptr L 0 ∧ fget fr 5 = slV ob O.length 2 ∧ fget fr 13 = .slice ib 0 l.length l.length false 2 ∧ fget fr 14 = .int .i64 (l.length : Nat) ∧ fget fr 15 = .int .i64 (i : Nat)) _
      ⟨0, [], false, 0, rfl, Nat.zero_le _, ⟨hW, Nat.le_refl _, hL, hi, fun h => absurd rfl h, fun b x h _ => h⟩, Nat.le_refl _, rfl, (by first | (simp only [go_sem, Nat.reduceLT, Nat.reduceLeDiff, Nat.reduceEqDiff, Nat.reduceAdd, Nat.reduceSub, Nat.reduceMul, reduceIte, reduceCtorEq] <;> rfl) | fail), (by first | (simp only [go_sem, Nat.reduceLT, Nat.reduceLeDiff, Nat.reduceEqDiff, Nat.reduceAdd, Nat.reduceSub, Nat.reduceMul, reduceIte, reduceCtorEq] <;> rfl) | fail), (by first | (simp only [go_sem, Nat.reduceLT, Nat.reduceLeDiff, Nat.reduceEqDiff, Nat.reduceAdd, Nat.reduceSub, Nat.reduceMul, reduceIte, reduceCtorEq] <;> rfl) | fail), (by first | (simp only [go_sem, Nat.reduceLT, Nat.reduceLeDiff, Nat.reduceEqDiff, Nat.reduceAdd, Nat.reduceSub, Nat.reduceMul, reduceIte, reduceCtorEq] <;> rfl) | fail), (by first | (simp only [go_sem, Nat.reduceLT, Nat.reduceLeDiff, Nat.reduceEqDiff, Nat.reduceAdd, Nat.reduceSub, Nat.reduceMul, reduceIte, reduceCtorEq] <;> rfl) | fail)⟩ ?_
    rintro _ fr τ ⟨i, O, a, ob, rfl, hil, hH, hOi, hP, h0, h5, h13, h14, h15⟩
    by_cases hlt : i < l.length
    · obtain ⟨r, hr⟩ : ∃ r, l[i]? = some r := ⟨_, List.getElem?_eq_getElem hlt⟩
      have e1 : decide ((i : Int) < (l.length : Int)) = true := decide_eq_true (by omega)
      have e2 : (0 : Int) ≤ (i : Int) := by omega
      have e3 : (i : Int) < (l.length : Int) := by omega
      have e4 : IntKind.wrap .i64 ((i : Int) + 1) = ((i + 1 : Nat) : Int) := wrap_i64 (by omega) (by omega)
      have e5 := sub_flatR hr
      obtain ⟨v, p⟩ := r
      simp only at e5
      have hinp := hH.inp
      have hnx := hH.nx
      rw [drop_cons hr] at hP
      have gA : ∀ X, (τ.push X).m.get L = some (.cells [.bool a] false 0 []) := fun X => by rw [get_push, if_neg (by omega)]; exact hH.after
      have gC : ∀ X Y, ((τ.push X).put L Y []).m.get τ.next = some X := fun X Y => by rw [get_put, if_neg (by omega), get_push_same]
      have kP : ∀ X Y b x, τ.m.get b = some x → b ≠ L → ((τ.push X).put L Y []).m.get b = some x := fun X Y b x hb hne => by
        have := wf_lt hH.wf hb
        rw [get_put_ne hne, get_push, if_neg (by omega)]; exact hb
      have wP : ∀ X Y, WF ((τ.push X).put L Y []) := fun X Y => wf_put (wf_push hH.wf _) (gA X)
      have gL : ∀ X Y, ((τ.push X).put L Y []).m.get L = some Y := fun X Y => get_put_same _ _ _
      by_cases h13v : v = 13
      · subst h13v
        have q13 : ((13 : Int) == 13) = true := rfl
        have q10 : ((13 : Int) == 10) = false := rfl
        cases a with
          | true =>
            obtain ⟨H, hHd⟩ : ∃ H : AHeap, H = ((((τ.push (.cells [.int .i64 13, .int .i64 (p : Nat)] false 0 [])).put L (.cells [.bool true] false 0 []) []).put τ.next (.cells [.int .i64 10, .int .i64 (p : Nat)] false 0 []) [])) := ⟨_, rfl⟩
            have hn : H.next = τ.next + 1 := by rw [hHd]; rfl
            have hQ : PassH σ H L ib l O true ob := by
              rw [hHd]
              exact passH_put hH hLn hiL (wf_put (wP _ _) (gC _ _)) (by show τ.next ≤ τ.next + 1; omega) (by rw [get_put_ne (by omega)]; exact gL _ _) (fun b x hb hne => by
                have := wf_lt hH.wf hb
                rw [get_put_ne (by omega)]
                exact kP _ _ b x hb hne)
            have hpl : passL true (((13 : Int), p) :: l.drop (i + 1)) = ((10 : Int), p) :: passL true (l.drop (i + 1)) := by simp [passL]
            repeat (first
              | refine sk_seq ?_
              | refine sk_region ?_
              | refine sk_ops_nil ?_
              | refine sk_block ?_
              | refine sk_blk ?_
              | refine sk_skip ?_
              | refine sk_exit rfl ?_
              | ((first | (apply sk_r; rfl; rfl) | (apply sk_w; rfl; rfl) | (apply sk_i; rfl) | (apply sk_g; rfl; rfl)); (simp only [go_sem, Nat.reduceLT, Nat.reduceLeDiff, Nat.reduceEqDiff, Nat.reduceAdd, Nat.reduceSub, Nat.reduceMul, reduceIte, reduceCtorEq, h0, h5, h13, h14, h15, hinp, e1, e2, e3, e4, e5, gA, gC, q13, q10, and_self] <;> rfl); (first | refine sk_id ?_ | refine cs_t ?_ | refine cs_f ?_ | refine gs_t rfl ?_ | refine gs_f rfl ?_)))
            rw [← hHd]
            cases hO : O with
            | nil =>
              rw [hO] at hQ h5 hP hOi
              have a1 := app_first (P := Tryd.prog) (ex := true) (σ := H.push (.cells [.int .i64 10, .int .i64 (p : Nat)] false 0 [])) slTy29 rfl (get_push_same H (.cells [.int .i64 10, .int .i64 (p : Nat)] false 0 []))
              simp only [next_push, hn] at a1
              have e0 : slV ob ([] : List (Int × Nat)).length 2 = .nilslice := rfl
              have e0' : slV ob 0 2 = .nilslice := rfl
              rw [e0] at h5
              have z := passH_first hQ 10 p
              rw [hn] at z
              repeat (first
                | refine sk_seq ?_
                | refine sk_region ?_
                | refine sk_ops_nil ?_
                | refine sk_block ?_
                | refine sk_blk ?_
                | refine sk_skip ?_
                | refine sk_exit rfl ?_
                | ((first | (apply sk_r; rfl; rfl) | (apply sk_w; rfl; rfl) | (apply sk_i; rfl) | (apply sk_g; rfl; rfl)); (simp only [go_sem, Nat.reduceLT, Nat.reduceLeDiff, Nat.reduceEqDiff, Nat.reduceAdd, Nat.reduceSub, Nat.reduceMul, reduceIte, reduceCtorEq, h0, h5, h13, h14, h15, e4, e0, e0', a1] <;> rfl); (first | refine sk_id ?_ | refine cs_t ?_ | refine cs_f ?_ | refine gs_t rfl ?_ | refine gs_f rfl ?_)))
              exact sk_stop ⟨l.length - (i + 1), by omega, i + 1, [((10 : Int), p)], true, τ.next + 1 + 1, rfl, by omega, z, by simp, by rw [hP, hpl]; rfl, (by first | (simp only [go_sem, Nat.reduceLT, Nat.reduceLeDiff, Nat.reduceEqDiff, Nat.reduceAdd, Nat.reduceSub, Nat.reduceMul, reduceIte, reduceCtorEq, h0] <;> rfl) | fail), (by first | (simp only [go_sem, Nat.reduceLT, Nat.reduceLeDiff, Nat.reduceEqDiff, Nat.reduceAdd, Nat.reduceSub, Nat.reduceMul, reduceIte, reduceCtorEq] <;> rfl) | fail), (by first | (simp only [go_sem, Nat.reduceLT, Nat.reduceLeDiff, Nat.reduceEqDiff, Nat.reduceAdd, Nat.reduceSub, Nat.reduceMul, reduceIte, reduceCtorEq, h13] <;> rfl) | fail), (by first | (simp only [go_sem, Nat.reduceLT, Nat.reduceLeDiff, Nat.reduceEqDiff, Nat.reduceAdd, Nat.reduceSub, Nat.reduceMul, reduceIte, reduceCtorEq, h14] <;> rfl) | fail), (by first | (simp only [go_sem, Nat.reduceLT, Nat.reduceLeDiff, Nat.reduceEqDiff, Nat.reduceAdd, Nat.reduceSub, Nat.reduceMul, reduceIte, reduceCtorEq] <;> rfl) | fail)⟩
            | cons o t =>
              rw [hO] at hQ h5 hP hOi
              have hb := (hQ.out (by simp)).2
              have hb2 : (H.push (.cells [.int .i64 10, .int .i64 (p : Nat)] false 0 [])).m.get ob = some (.cells (flatR (o :: t)) false 0 []) := by rw [get_push, if_neg (by have := wf_lt hQ.wf hb; omega)]; exact hb
              have a1 := app_next (P := Tryd.prog) (ex := true) (n := t.length + 1) slTy29 rfl (get_push_same H (.cells [.int .i64 10, .int .i64 (p : Nat)] false 0 [])) hb2 (by rw [flatR_len]; rfl) (by omega) (by simp only [List.length_cons] at hOi; omega) rfl
              simp only [next_push, hn] at a1
              have e0 : slV ob (o :: t).length 2 = .slice ob 0 (t.length + 1) (t.length + 1) false 2 := rfl
              have e0' : slV ob (t.length + 1) 2 = .slice ob 0 (t.length + 1) (t.length + 1) false 2 := rfl
              rw [e0] at h5
              have z := passH_next hQ hW hLn hin (by simp) 10 p
              rw [hn] at z
              repeat (first
                | refine sk_seq ?_
                | refine sk_region ?_
                | refine sk_ops_nil ?_
                | refine sk_block ?_
                | refine sk_blk ?_
                | refine sk_skip ?_
                | refine sk_exit rfl ?_
                | ((first | (apply sk_r; rfl; rfl) | (apply sk_w; rfl; rfl) | (apply sk_i; rfl) | (apply sk_g; rfl; rfl)); (simp only [go_sem, Nat.reduceLT, Nat.reduceLeDiff, Nat.reduceEqDiff, Nat.reduceAdd, Nat.reduceSub, Nat.reduceMul, reduceIte, reduceCtorEq, h0, h5, h13, h14, h15, e4, e0, e0', a1] <;> rfl); (first | refine sk_id ?_ | refine cs_t ?_ | refine cs_f ?_ | refine gs_t rfl ?_ | refine gs_f rfl ?_)))
              exact sk_stop ⟨l.length - (i + 1), by omega, i + 1, (o :: t) ++ [((10 : Int), p)], true, τ.next + 1 + 1, rfl, by omega, z, by simp only [List.length_append, List.length_cons, List.length_nil] at hOi ⊢; omega, by rw [hP, hpl, List.append_assoc]; rfl, (by first | (simp only [go_sem, Nat.reduceLT, Nat.reduceLeDiff, Nat.reduceEqDiff, Nat.reduceAdd, Nat.reduceSub, Nat.reduceMul, reduceIte, reduceCtorEq, h0] <;> rfl) | fail), (by rw [show ((o :: t) ++ [((10 : Int), p)]).length = t.length + 1 + 1 by simp]; exact (by first | (simp only [go_sem, Nat.reduceLT, Nat.reduceLeDiff, Nat.reduceEqDiff, Nat.reduceAdd, Nat.reduceSub, Nat.reduceMul, reduceIte, reduceCtorEq] <;> rfl) | fail)), (by first | (simp only [go_sem, Nat.reduceLT, Nat.reduceLeDiff, Nat.reduceEqDiff, Nat.reduceAdd, Nat.reduceSub, Nat.reduceMul, reduceIte, reduceCtorEq, h13] <;> rfl) | fail), (by first | (simp only [go_sem, Nat.reduceLT, Nat.reduceLeDiff, Nat.reduceEqDiff, Nat.reduceAdd, Nat.reduceSub, Nat.reduceMul, reduceIte, reduceCtorEq, h14] <;> rfl) | fail), (by first | (simp only [go_sem, Nat.reduceLT, Nat.reduceLeDiff, Nat.reduceEqDiff, Nat.reduceAdd, Nat.reduceSub, Nat.reduceMul, reduceIte, reduceCtorEq] <;> rfl) | fail)⟩
          | false =>
            obtain ⟨H, hHd⟩ : ∃ H : AHeap, H = ((((τ.push (.cells [.int .i64 13, .int .i64 (p : Nat)] false 0 [])).put L (.cells [.bool true] false 0 []) []).put τ.next (.cells [.int .i64 10, .int .i64 (p : Nat)] false 0 []) [])) := ⟨_, rfl⟩
            have hn : H.next = τ.next + 1 := by rw [hHd]; rfl
            have hQ : PassH σ H L ib l O true ob := by
              rw [hHd]
              exact passH_put hH hLn hiL (wf_put (wP _ _) (gC _ _)) (by show τ.next ≤ τ.next + 1; omega) (by rw [get_put_ne (by omega)]; exact gL _ _) (fun b x hb hne => by
                have := wf_lt hH.wf hb
                rw [get_put_ne (by omega)]
                exact kP _ _ b x hb hne)
            have hpl : passL false (((13 : Int), p) :: l.drop (i + 1)) = ((10 : Int), p) :: passL true (l.drop (i + 1)) := by simp [passL]
            repeat (first
              | refine sk_seq ?_
              | refine sk_region ?_
              | refine sk_ops_nil ?_
              | refine sk_block ?_
              | refine sk_blk ?_
              | refine sk_skip ?_
              | refine sk_exit rfl ?_
              | ((first | (apply sk_r; rfl; rfl) | (apply sk_w; rfl; rfl) | (apply sk_i; rfl) | (apply sk_g; rfl; rfl)); (simp only [go_sem, Nat.reduceLT, Nat.reduceLeDiff, Nat.reduceEqDiff, Nat.reduceAdd, Nat.reduceSub, Nat.reduceMul, reduceIte, reduceCtorEq, h0, h5, h13, h14, h15, hinp, e1, e2, e3, e4, e5, gA, gC, q13, q10, and_self] <;> rfl); (first | refine sk_id ?_ | refine cs_t ?_ | refine cs_f ?_ | refine gs_t rfl ?_ | refine gs_f rfl ?_)))
            rw [← hHd]
            cases hO : O with
            | nil =>
              rw [hO] at hQ h5 hP hOi
              have a1 := app_first (P := Tryd.prog) (ex := true) (σ := H.push (.cells [.int .i64 10, .int .i64 (p : Nat)] false 0 [])) slTy29 rfl (get_push_same H (.cells [.int .i64 10, .int .i64 (p : Nat)] false 0 []))
              simp only [next_push, hn] at a1
              have e0 : slV ob ([] : List (Int × Nat)).length 2 = .nilslice := rfl
              have e0' : slV ob 0 2 = .nilslice := rfl
              rw [e0] at h5
              have z := passH_first hQ 10 p
              rw [hn] at z
              repeat (first
                | refine sk_seq ?_
                | refine sk_region ?_
                | refine sk_ops_nil ?_
                | refine sk_block ?_
                | refine sk_blk ?_
                | refine sk_skip ?_
                | refine sk_exit rfl ?_
                | ((first | (apply sk_r; rfl; rfl) | (apply sk_w; rfl; rfl) | (apply sk_i; rfl) | (apply sk_g; rfl; rfl)); (simp only [go_sem, Nat.reduceLT, Nat.reduceLeDiff, Nat.reduceEqDiff, Nat.reduceAdd, Nat.reduceSub, Nat.reduceMul, reduceIte, reduceCtorEq, h0, h5, h13, h14, h15, e4, e0, e0', a1] <;> rfl); (first | refine sk_id ?_ | refine cs_t ?_ | refine cs_f ?_ | refine gs_t rfl ?_ | refine gs_f rfl ?_)))
              exact sk_stop ⟨l.length - (i + 1), by omega, i + 1, [((10 : Int), p)], true, τ.next + 1 + 1, rfl, by omega, z, by simp, by rw [hP, hpl]; rfl, (by first | (simp only [go_sem, Nat.reduceLT, Nat.reduceLeDiff, Nat.reduceEqDiff, Nat.reduceAdd, Nat.reduceSub, Nat.reduceMul, reduceIte, reduceCtorEq, h0] <;> rfl) | fail), (by first | (simp only [go_sem, Nat.reduceLT, Nat.reduceLeDiff, Nat.reduceEqDiff, Nat.reduceAdd, Nat.reduceSub, Nat.reduceMul, reduceIte, reduceCtorEq] <;> rfl) | fail), (by first | (simp only [go_sem, Nat.reduceLT, Nat.reduceLeDiff, Nat.reduceEqDiff, Nat.reduceAdd, Nat.reduceSub, Nat.reduceMul, reduceIte, reduceCtorEq, h13] <;> rfl) | fail), (by first | (simp only [go_sem, Nat.reduceLT, Nat.reduceLeDiff, Nat.reduceEqDiff, Nat.reduceAdd, Nat.reduceSub, Nat.reduceMul, reduceIte, reduceCtorEq, h14] <;> rfl) | fail), (by first | (simp only [go_sem, Nat.reduceLT, Nat.reduceLeDiff, Nat.reduceEqDiff, Nat.reduceAdd, Nat.reduceSub, Nat.reduceMul, reduceIte, reduceCtorEq] <;> rfl) | fail)⟩
            | cons o t =>
              rw [hO] at hQ h5 hP hOi
              have hb := (hQ.out (by simp)).2
              have hb2 : (H.push (.cells [.int .i64 10, .int .i64 (p : Nat)] false 0 [])).m.get ob = some (.cells (flatR (o :: t)) false 0 []) := by rw [get_push, if_neg (by have := wf_lt hQ.wf hb; omega)]; exact hb
              have a1 := app_next (P := Tryd.prog) (ex := true) (n := t.length + 1) slTy29 rfl (get_push_same H (.cells [.int .i64 10, .int .i64 (p : Nat)] false 0 [])) hb2 (by rw [flatR_len]; rfl) (by omega) (by simp only [List.length_cons] at hOi; omega) rfl
              simp only [next_push, hn] at a1
              have e0 : slV ob (o :: t).length 2 = .slice ob 0 (t.length + 1) (t.length + 1) false 2 := rfl
              have e0' : slV ob (t.length + 1) 2 = .slice ob 0 (t.length + 1) (t.length + 1) false 2 := rfl
              rw [e0] at h5
              have z := passH_next hQ hW hLn hin (by simp) 10 p
              rw [hn] at z
              repeat (first
                | refine sk_seq ?_
                | refine sk_region ?_
                | refine sk_ops_nil ?_
                | refine sk_block ?_
                | refine sk_blk ?_
                | refine sk_skip ?_
                | refine sk_exit rfl ?_
                | ((first | (apply sk_r; rfl; rfl) | (apply sk_w; rfl; rfl) | (apply sk_i; rfl) | (apply sk_g; rfl; rfl)); (simp only [go_sem, Nat.reduceLT, Nat.reduceLeDiff, Nat.reduceEqDiff, Nat.reduceAdd, Nat.reduceSub, Nat.reduceMul, reduceIte, reduceCtorEq, h0, h5, h13, h14, h15, e4, e0, e0', a1] <;> rfl); (first | refine sk_id ?_ | refine cs_t ?_ | refine cs_f ?_ | refine gs_t rfl ?_ | refine gs_f rfl ?_)))
              exact sk_stop ⟨l.length - (i + 1), by omega, i + 1, (o :: t) ++ [((10 : Int), p)], true, τ.next + 1 + 1, rfl, by omega, z, by simp only [List.length_append, List.length_cons, List.length_nil] at hOi ⊢; omega, by rw [hP, hpl, List.append_assoc]; rfl, (by first | (simp only [go_sem, Nat.reduceLT, Nat.reduceLeDiff, Nat.reduceEqDiff, Nat.reduceAdd, Nat.reduceSub, Nat.reduceMul, reduceIte, reduceCtorEq, h0] <;> rfl) | fail), (by rw [show ((o :: t) ++ [((10 : Int), p)]).length = t.length + 1 + 1 by simp]; exact (by first | (simp only [go_sem, Nat.reduceLT, Nat.reduceLeDiff, Nat.reduceEqDiff, Nat.reduceAdd, Nat.reduceSub, Nat.reduceMul, reduceIte, reduceCtorEq] <;> rfl) | fail)), (by first | (simp only [go_sem, Nat.reduceLT, Nat.reduceLeDiff, Nat.reduceEqDiff, Nat.reduceAdd, Nat.reduceSub, Nat.reduceMul, reduceIte, reduceCtorEq, h13] <;> rfl) | fail), (by first | (simp only [go_sem, Nat.reduceLT, Nat.reduceLeDiff, Nat.reduceEqDiff, Nat.reduceAdd, Nat.reduceSub, Nat.reduceMul, reduceIte, reduceCtorEq, h14] <;> rfl) | fail), (by first | (simp only [go_sem, Nat.reduceLT, Nat.reduceLeDiff, Nat.reduceEqDiff, Nat.reduceAdd, Nat.reduceSub, Nat.reduceMul, reduceIte, reduceCtorEq] <;> rfl) | fail)⟩
      · have q13 : (v == 13) = false := by simp [h13v]
        by_cases hs : a = true ∧ v = 10
        · obtain ⟨ha, hv⟩ := hs
          subst ha hv
          repeat (first
            | refine sk_seq ?_
            | refine sk_region ?_
            | refine sk_ops_nil ?_
            | refine sk_block ?_
            | refine sk_blk ?_
            | refine sk_skip ?_
            | refine sk_exit rfl ?_
            | ((first | (apply sk_r; rfl; rfl) | (apply sk_w; rfl; rfl) | (apply sk_i; rfl) | (apply sk_g; rfl; rfl)); (simp only [go_sem, Nat.reduceLT, Nat.reduceLeDiff, Nat.reduceEqDiff, Nat.reduceAdd, Nat.reduceSub, Nat.reduceMul, reduceIte, reduceCtorEq, h0, h5, h13, h14, h15, hinp, e1, e2, e3, e4, e5, gA, gC, and_self] <;> rfl); (first | refine sk_id ?_ | refine cs_t ?_ | refine cs_f ?_ | refine gs_t rfl ?_ | refine gs_f rfl ?_)))
          have z := passH_put (H := (τ.push (.cells [.int .i64 10, .int .i64 (p : Nat)] false 0 [])).put L (.cells [.bool false] false 0 []) []) hH hLn hiL (wP _ _) (by show τ.next ≤ τ.next + 1; omega) (gL _ _) (kP _ _)
          exact sk_stop ⟨l.length - (i + 1), by omega, i + 1, O, false, ob, rfl, by omega, z, by omega, by rw [hP]; simp [passL], (by first | (simp only [go_sem, Nat.reduceLT, Nat.reduceLeDiff, Nat.reduceEqDiff, Nat.reduceAdd, Nat.reduceSub, Nat.reduceMul, reduceIte, reduceCtorEq, h0] <;> rfl) | fail), (by first | (simp only [go_sem, Nat.reduceLT, Nat.reduceLeDiff, Nat.reduceEqDiff, Nat.reduceAdd, Nat.reduceSub, Nat.reduceMul, reduceIte, reduceCtorEq, h5] <;> rfl) | fail), (by first | (simp only [go_sem, Nat.reduceLT, Nat.reduceLeDiff, Nat.reduceEqDiff, Nat.reduceAdd, Nat.reduceSub, Nat.reduceMul, reduceIte, reduceCtorEq, h13] <;> rfl) | fail), (by first | (simp only [go_sem, Nat.reduceLT, Nat.reduceLeDiff, Nat.reduceEqDiff, Nat.reduceAdd, Nat.reduceSub, Nat.reduceMul, reduceIte, reduceCtorEq, h14] <;> rfl) | fail), (by first | (simp only [go_sem, Nat.reduceLT, Nat.reduceLeDiff, Nat.reduceEqDiff, Nat.reduceAdd, Nat.reduceSub, Nat.reduceMul, reduceIte, reduceCtorEq] <;> rfl) | fail)⟩
        · cases a with
          | true =>
            have hv10 : ¬ v = 10 := fun e => hs ⟨rfl, e⟩
            have q10 : (v == 10) = false := by simp [hv10]
            obtain ⟨H, hHd⟩ : ∃ H : AHeap, H = ((τ.push (.cells [.int .i64 v, .int .i64 (p : Nat)] false 0 [])).put L (.cells [.bool false] false 0 []) []) := ⟨_, rfl⟩
            have hn : H.next = τ.next + 1 := by rw [hHd]; rfl
            have hQ : PassH σ H L ib l O false ob := by
              rw [hHd]
              exact passH_put hH hLn hiL (wP _ _) (by show τ.next ≤ τ.next + 1; omega) (gL _ _) (kP _ _)
            have hpl : passL true ((v, p) :: l.drop (i + 1)) = (v, p) :: passL false (l.drop (i + 1)) := by simp [passL, h13v, hv10, q13]
            repeat (first
              | refine sk_seq ?_
              | refine sk_region ?_
              | refine sk_ops_nil ?_
              | refine sk_block ?_
              | refine sk_blk ?_
              | refine sk_skip ?_
              | refine sk_exit rfl ?_
              | ((first | (apply sk_r; rfl; rfl) | (apply sk_w; rfl; rfl) | (apply sk_i; rfl) | (apply sk_g; rfl; rfl)); (simp only [go_sem, Nat.reduceLT, Nat.reduceLeDiff, Nat.reduceEqDiff, Nat.reduceAdd, Nat.reduceSub, Nat.reduceMul, reduceIte, reduceCtorEq, h0, h5, h13, h14, h15, hinp, e1, e2, e3, e4, e5, gA, gC, q13, q10, and_self] <;> rfl); (first | refine sk_id ?_ | refine cs_t ?_ | refine cs_f ?_ | refine gs_t rfl ?_ | refine gs_f rfl ?_)))
            rw [← hHd]
            cases hO : O with
            | nil =>
              rw [hO] at hQ h5 hP hOi
              have a1 := app_first (P := Tryd.prog) (ex := true) (σ := H.push (.cells [.int .i64 v, .int .i64 (p : Nat)] false 0 [])) slTy29 rfl (get_push_same H (.cells [.int .i64 v, .int .i64 (p : Nat)] false 0 []))
              simp only [next_push, hn] at a1
              have e0 : slV ob ([] : List (Int × Nat)).length 2 = .nilslice := rfl
              have e0' : slV ob 0 2 = .nilslice := rfl
              rw [e0] at h5
              have z := passH_first hQ v p
              rw [hn] at z
              repeat (first
                | refine sk_seq ?_
                | refine sk_region ?_
                | refine sk_ops_nil ?_
                | refine sk_block ?_
                | refine sk_blk ?_
                | refine sk_skip ?_
                | refine sk_exit rfl ?_
                | ((first | (apply sk_r; rfl; rfl) | (apply sk_w; rfl; rfl) | (apply sk_i; rfl) | (apply sk_g; rfl; rfl)); (simp only [go_sem, Nat.reduceLT, Nat.reduceLeDiff, Nat.reduceEqDiff, Nat.reduceAdd, Nat.reduceSub, Nat.reduceMul, reduceIte, reduceCtorEq, h0, h5, h13, h14, h15, e4, e0, e0', a1] <;> rfl); (first | refine sk_id ?_ | refine cs_t ?_ | refine cs_f ?_ | refine gs_t rfl ?_ | refine gs_f rfl ?_)))
              exact sk_stop ⟨l.length - (i + 1), by omega, i + 1, [(v, p)], false, τ.next + 1 + 1, rfl, by omega, z, by simp, by rw [hP, hpl]; rfl, (by first | (simp only [go_sem, Nat.reduceLT, Nat.reduceLeDiff, Nat.reduceEqDiff, Nat.reduceAdd, Nat.reduceSub, Nat.reduceMul, reduceIte, reduceCtorEq, h0] <;> rfl) | fail), (by first | (simp only [go_sem, Nat.reduceLT, Nat.reduceLeDiff, Nat.reduceEqDiff, Nat.reduceAdd, Nat.reduceSub, Nat.reduceMul, reduceIte, reduceCtorEq] <;> rfl) | fail), (by first | (simp only [go_sem, Nat.reduceLT, Nat.reduceLeDiff, Nat.reduceEqDiff, Nat.reduceAdd, Nat.reduceSub, Nat.reduceMul, reduceIte, reduceCtorEq, h13] <;> rfl) | fail), (by first | (simp only [go_sem, Nat.reduceLT, Nat.reduceLeDiff, Nat.reduceEqDiff, Nat.reduceAdd, Nat.reduceSub, Nat.reduceMul, reduceIte, reduceCtorEq, h14] <;> rfl) | fail), (by first | (simp only [go_sem, Nat.reduceLT, Nat.reduceLeDiff, Nat.reduceEqDiff, Nat.reduceAdd, Nat.reduceSub, Nat.reduceMul, reduceIte, reduceCtorEq] <;> rfl) | fail)⟩
            | cons o t =>
              rw [hO] at hQ h5 hP hOi
              have hb := (hQ.out (by simp)).2
              have hb2 : (H.push (.cells [.int .i64 v, .int .i64 (p : Nat)] false 0 [])).m.get ob = some (.cells (flatR (o :: t)) false 0 []) := by rw [get_push, if_neg (by have := wf_lt hQ.wf hb; omega)]; exact hb
              have a1 := app_next (P := Tryd.prog) (ex := true) (n := t.length + 1) slTy29 rfl (get_push_same H (.cells [.int .i64 v, .int .i64 (p : Nat)] false 0 [])) hb2 (by rw [flatR_len]; rfl) (by omega) (by simp only [List.length_cons] at hOi; omega) rfl
              simp only [next_push, hn] at a1
              have e0 : slV ob (o :: t).length 2 = .slice ob 0 (t.length + 1) (t.length + 1) false 2 := rfl
              have e0' : slV ob (t.length + 1) 2 = .slice ob 0 (t.length + 1) (t.length + 1) false 2 := rfl
              rw [e0] at h5
              have z := passH_next hQ hW hLn hin (by simp) v p
              rw [hn] at z
              repeat (first
                | refine sk_seq ?_
                | refine sk_region ?_
                | refine sk_ops_nil ?_
                | refine sk_block ?_
                | refine sk_blk ?_
                | refine sk_skip ?_
                | refine sk_exit rfl ?_
                | ((first | (apply sk_r; rfl; rfl) | (apply sk_w; rfl; rfl) | (apply sk_i; rfl) | (apply sk_g; rfl; rfl)); (simp only [go_sem, Nat.reduceLT, Nat.reduceLeDiff, Nat.reduceEqDiff, Nat.reduceAdd, Nat.reduceSub, Nat.reduceMul, reduceIte, reduceCtorEq, h0, h5, h13, h14, h15, e4, e0, e0', a1] <;> rfl); (first | refine sk_id ?_ | refine cs_t ?_ | refine cs_f ?_ | refine gs_t rfl ?_ | refine gs_f rfl ?_)))
              exact sk_stop ⟨l.length - (i + 1), by omega, i + 1, (o :: t) ++ [(v, p)], false, τ.next + 1 + 1, rfl, by omega, z, by simp only [List.length_append, List.length_cons, List.length_nil] at hOi ⊢; omega, by rw [hP, hpl, List.append_assoc]; rfl, (by first | (simp only [go_sem, Nat.reduceLT, Nat.reduceLeDiff, Nat.reduceEqDiff, Nat.reduceAdd, Nat.reduceSub, Nat.reduceMul, reduceIte, reduceCtorEq, h0] <;> rfl) | fail), (by rw [show ((o :: t) ++ [(v, p)]).length = t.length + 1 + 1 by simp]; exact (by first | (simp only [go_sem, Nat.reduceLT, Nat.reduceLeDiff, Nat.reduceEqDiff, Nat.reduceAdd, Nat.reduceSub, Nat.reduceMul, reduceIte, reduceCtorEq] <;> rfl) | fail)), (by first | (simp only [go_sem, Nat.reduceLT, Nat.reduceLeDiff, Nat.reduceEqDiff, Nat.reduceAdd, Nat.reduceSub, Nat.reduceMul, reduceIte, reduceCtorEq, h13] <;> rfl) | fail), (by first | (simp only [go_sem, Nat.reduceLT, Nat.reduceLeDiff, Nat.reduceEqDiff, Nat.reduceAdd, Nat.reduceSub, Nat.reduceMul, reduceIte, reduceCtorEq, h14] <;> rfl) | fail), (by first | (simp only [go_sem, Nat.reduceLT, Nat.reduceLeDiff, Nat.reduceEqDiff, Nat.reduceAdd, Nat.reduceSub, Nat.reduceMul, reduceIte, reduceCtorEq] <;> rfl) | fail)⟩
          | false =>
            obtain ⟨H, hHd⟩ : ∃ H : AHeap, H = ((τ.push (.cells [.int .i64 v, .int .i64 (p : Nat)] false 0 [])).put L (.cells [.bool false] false 0 []) []) := ⟨_, rfl⟩
            have hn : H.next = τ.next + 1 := by rw [hHd]; rfl
            have hQ : PassH σ H L ib l O false ob := by
              rw [hHd]
              exact passH_put hH hLn hiL (wP _ _) (by show τ.next ≤ τ.next + 1; omega) (gL _ _) (kP _ _)
            have hpl : passL false ((v, p) :: l.drop (i + 1)) = (v, p) :: passL false (l.drop (i + 1)) := by simp [passL, h13v, q13]
            repeat (first
              | refine sk_seq ?_
              | refine sk_region ?_
              | refine sk_ops_nil ?_
              | refine sk_block ?_
              | refine sk_blk ?_
              | refine sk_skip ?_
              | refine sk_exit rfl ?_
              | ((first | (apply sk_r; rfl; rfl) | (apply sk_w; rfl; rfl) | (apply sk_i; rfl) | (apply sk_g; rfl; rfl)); (simp only [go_sem, Nat.reduceLT, Nat.reduceLeDiff, Nat.reduceEqDiff, Nat.reduceAdd, Nat.reduceSub, Nat.reduceMul, reduceIte, reduceCtorEq, h0, h5, h13, h14, h15, hinp, e1, e2, e3, e4, e5, gA, gC, q13, and_self] <;> rfl); (first | refine sk_id ?_ | refine cs_t ?_ | refine cs_f ?_ | refine gs_t rfl ?_ | refine gs_f rfl ?_)))
            rw [← hHd]
            cases hO : O with
            | nil =>
              rw [hO] at hQ h5 hP hOi
              have a1 := app_first (P := Tryd.prog) (ex := true) (σ := H.push (.cells [.int .i64 v, .int .i64 (p : Nat)] false 0 [])) slTy29 rfl (get_push_same H (.cells [.int .i64 v, .int .i64 (p : Nat)] false 0 []))
              simp only [next_push, hn] at a1
              have e0 : slV ob ([] : List (Int × Nat)).length 2 = .nilslice := rfl
              have e0' : slV ob 0 2 = .nilslice := rfl
              rw [e0] at h5
              have z := passH_first hQ v p
              rw [hn] at z
              repeat (first
                | refine sk_seq ?_
                | refine sk_region ?_
                | refine sk_ops_nil ?_
                | refine sk_block ?_
                | refine sk_blk ?_
                | refine sk_skip ?_
                | refine sk_exit rfl ?_
                | ((first | (apply sk_r; rfl; rfl) | (apply sk_w; rfl; rfl) | (apply sk_i; rfl) | (apply sk_g; rfl; rfl)); (simp only [go_sem, Nat.reduceLT, Nat.reduceLeDiff, Nat.reduceEqDiff, Nat.reduceAdd, Nat.reduceSub, Nat.reduceMul, reduceIte, reduceCtorEq, h0, h5, h13, h14, h15, e4, e0, e0', a1] <;> rfl); (first | refine sk_id ?_ | refine cs_t ?_ | refine cs_f ?_ | refine gs_t rfl ?_ | refine gs_f rfl ?_)))
              exact sk_stop ⟨l.length - (i + 1), by omega, i + 1, [(v, p)], false, τ.next + 1 + 1, rfl, by omega, z, by simp, by rw [hP, hpl]; rfl, (by first | (simp only [go_sem, Nat.reduceLT, Nat.reduceLeDiff, Nat.reduceEqDiff, Nat.reduceAdd, Nat.reduceSub, Nat.reduceMul, reduceIte, reduceCtorEq, h0] <;> rfl) | fail), (by first | (simp only [go_sem, Nat.reduceLT, Nat.reduceLeDiff, Nat.reduceEqDiff, Nat.reduceAdd, Nat.reduceSub, Nat.reduceMul, reduceIte, reduceCtorEq] <;> rfl) | fail), (by first | (simp only [go_sem, Nat.reduceLT, Nat.reduceLeDiff, Nat.reduceEqDiff, Nat.reduceAdd, Nat.reduceSub, Nat.reduceMul, reduceIte, reduceCtorEq, h13] <;> rfl) | fail), (by first | (simp only [go_sem, Nat.reduceLT, Nat.reduceLeDiff, Nat.reduceEqDiff, Nat.reduceAdd, Nat.reduceSub, Nat.reduceMul, reduceIte, reduceCtorEq, h14] <;> rfl) | fail), (by first | (simp only [go_sem, Nat.reduceLT, Nat.reduceLeDiff, Nat.reduceEqDiff, Nat.reduceAdd, Nat.reduceSub, Nat.reduceMul, reduceIte, reduceCtorEq] <;> rfl) | fail)⟩
            | cons o t =>
              rw [hO] at hQ h5 hP hOi
              have hb := (hQ.out (by simp)).2
              have hb2 : (H.push (.cells [.int .i64 v, .int .i64 (p : Nat)] false 0 [])).m.get ob = some (.cells (flatR (o :: t)) false 0 []) := by rw [get_push, if_neg (by have := wf_lt hQ.wf hb; omega)]; exact hb
              have a1 := app_next (P := Tryd.prog) (ex := true) (n := t.length + 1) slTy29 rfl (get_push_same H (.cells [.int .i64 v, .int .i64 (p : Nat)] false 0 [])) hb2 (by rw [flatR_len]; rfl) (by omega) (by simp only [List.length_cons] at hOi; omega) rfl
              simp only [next_push, hn] at a1
              have e0 : slV ob (o :: t).length 2 = .slice ob 0 (t.length + 1) (t.length + 1) false 2 := rfl
              have e0' : slV ob (t.length + 1) 2 = .slice ob 0 (t.length + 1) (t.length + 1) false 2 := rfl
              rw [e0] at h5
              have z := passH_next hQ hW hLn hin (by simp) v p
              rw [hn] at z
              repeat (first
                | refine sk_seq ?_
                | refine sk_region ?_
                | refine sk_ops_nil ?_
                | refine sk_block ?_
                | refine sk_blk ?_
                | refine sk_skip ?_
                | refine sk_exit rfl ?_
                | ((first | (apply sk_r; rfl; rfl) | (apply sk_w; rfl; rfl) | (apply sk_i; rfl) | (apply sk_g; rfl; rfl)); (simp only [go_sem, Nat.reduceLT, Nat.reduceLeDiff, Nat.reduceEqDiff, Nat.reduceAdd, Nat.reduceSub, Nat.reduceMul, reduceIte, reduceCtorEq, h0, h5, h13, h14, h15, e4, e0, e0', a1] <;> rfl); (first | refine sk_id ?_ | refine cs_t ?_ | refine cs_f ?_ | refine gs_t rfl ?_ | refine gs_f rfl ?_)))
              exact sk_stop ⟨l.length - (i + 1), by omega, i + 1, (o :: t) ++ [(v, p)], false, τ.next + 1 + 1, rfl, by omega, z, by simp only [List.length_append, List.length_cons, List.length_nil] at hOi ⊢; omega, by rw [hP, hpl, List.append_assoc]; rfl, (by first | (simp only [go_sem, Nat.reduceLT, Nat.reduceLeDiff, Nat.reduceEqDiff, Nat.reduceAdd, Nat.reduceSub, Nat.reduceMul, reduceIte, reduceCtorEq, h0] <;> rfl) | fail), (by rw [show ((o :: t) ++ [(v, p)]).length = t.length + 1 + 1 by simp]; exact (by first | (simp only [go_sem, Nat.reduceLT, Nat.reduceLeDiff, Nat.reduceEqDiff, Nat.reduceAdd, Nat.reduceSub, Nat.reduceMul, reduceIte, reduceCtorEq] <;> rfl) | fail)), (by first | (simp only [go_sem, Nat.reduceLT, Nat.reduceLeDiff, Nat.reduceEqDiff, Nat.reduceAdd, Nat.reduceSub, Nat.reduceMul, reduceIte, reduceCtorEq, h13] <;> rfl) | fail), (by first | (simp only [go_sem, Nat.reduceLT, Nat.reduceLeDiff, Nat.reduceEqDiff, Nat.reduceAdd, Nat.reduceSub, Nat.reduceMul, reduceIte, reduceCtorEq, h14] <;> rfl) | fail), (by first | (simp only [go_sem, Nat.reduceLT, Nat.reduceLeDiff, Nat.reduceEqDiff, Nat.reduceAdd, Nat.reduceSub, Nat.reduceMul, reduceIte, reduceCtorEq] <;> rfl) | fail)⟩
    · have e1 : decide ((i : Int) < (l.length : Int)) = false := decide_eq_false (by omega)
      have hd : l.drop i = [] := List.drop_eq_nil_of_le (by omega)
      rw [hd] at hP
      have hP : passL false l = O := by rw [hP]; simp [passL]
      repeat (first
        | refine sk_seq ?_
        | refine sk_region ?_
        | refine sk_ops_nil ?_
        | refine sk_block ?_
        | refine sk_blk ?_
        | refine sk_skip ?_
        | refine sk_exit rfl ?_
        | ((first | (apply sk_r; rfl; rfl) | (apply sk_w; rfl; rfl) | (apply sk_i; rfl) | (apply sk_g; rfl; rfl)); (simp only [go_sem, Nat.reduceLT, Nat.reduceLeDiff, Nat.reduceEqDiff, Nat.reduceAdd, Nat.reduceSub, Nat.reduceMul, reduceIte, reduceCtorEq, h0, h5, h13, h14, h15, e1] <;> rfl); (first | refine sk_id ?_ | refine cs_t ?_ | refine cs_f ?_ | refine gs_t rfl ?_ | refine gs_f rfl ?_)))
      exact sk_ret ⟨_, (by first | (simp only [aRet, Tryd.results29, aResults, aResult, go_sem, Nat.reduceLT, Nat.reduceLeDiff, Nat.reduceEqDiff, Nat.reduceAdd, Nat.reduceSub, Nat.reduceMul, reduceIte, reduceCtorEq] <;> rfl) | fail), ob, by rw [hP], hH.wf, hH.nx, by rw [hP]; exact hH.out, hH.keep⟩
end Go.Proofs.YtophnlmdcidolaaDoor
