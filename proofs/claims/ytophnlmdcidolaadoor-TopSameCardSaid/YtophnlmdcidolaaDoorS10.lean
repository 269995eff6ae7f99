import Derived.Test.YtophnlmdcidolaaDoorS8
import Derived.Test.YtophnlmdcidolaaDoorW
set_option linter.all false
namespace Go.Am
variable {P : Program}
theorem app_two {st : TypeId} {σ : AHeap} {ba bb : Nat} {A B : List (Int × Nat)} (h : SlTy P st 2) (hW : WF σ) (hA : A ≠ [] → σ.m.get ba = some (.cells (flatR A) false 0 [])) (hB : B = [] ∨ ∃ r, B = [r] ∧ σ.m.get bb = some (.cells (flatR B) false 0 [])) (hl : A.length ≤ 1000000) :
    ∃ q σ', aAppend P σ [st, st] [slV ba A.length 2, slV bb B.length 2] = some (slV q (A ++ B).length 2, σ') ∧ WF σ' ∧ σ.next ≤ σ'.next ∧ (A ++ B ≠ [] → σ'.m.get q = some (.cells (flatR (A ++ B)) false 0 []) ∧ ((q = ba ∧ A ≠ []) ∨ σ.next ≤ q)) ∧
      ∀ b x, σ.m.get b = some x → (A ≠ [] → b ≠ ba) → σ'.m.get b = some x := by
  rcases hB with rfl | ⟨r, rfl, hB⟩
  · refine ⟨ba, σ, ?_, hW, Nat.le_refl _, fun e => ?_, fun b x h _ => h⟩
    · rw [List.append_nil]
      obtain ⟨e, i, zz, h1, h2, h3, h4, h5, h6, h7⟩ := h
      cases A with
      | nil =>
        show aAppend P σ [st, st] [.nilslice, .nilslice] = _
        unfold aAppend
        simp only [h1, h2, h5, isIntTy, aLenOf, aSrc]
        rfl
      | cons o t =>
        show aAppend P σ [st, st] [.slice ba 0 (t.length + 1) (t.length + 1) false 2, .nilslice] = some (.slice ba 0 (t.length + 1) (t.length + 1) false 2, σ)
        unfold aAppend
        simp only [h1, h2, h5, isIntTy, aLenOf, aSrc, h3, nat_beq, nat_ble, Nat.add_zero, Nat.le_refl, decide_true, aPutAt]
    · rw [List.append_nil] at e ⊢
      exact ⟨hA e, .inl ⟨rfl, e⟩⟩
  · cases A with
    | nil =>
      refine ⟨_, _, app_first (ex := false) h rfl hB, wf_push hW _, by rw [next_push]; omega, fun _ => ⟨get_push_same _ _, .inr (Nat.le_refl _)⟩, fun b x hb _ => keep_push hW (Nat.le_refl _) (fun _ _ k => k) b x hb⟩
    | cons o t =>
      have hba := hA (by simp)
      have hlt := wf_lt hW hba
      refine ⟨σ.next, ⟨(σ.m.del ba).set σ.next (.cells (flatR (o :: t) ++ [.int .i64 r.1, .int .i64 (r.2 : Nat)]) false 0 []), σ.next + 1⟩, ?_, wf_move hW, by show σ.next ≤ σ.next + 1; omega, fun _ => ⟨?_, .inr (Nat.le_refl _)⟩, fun b x hb hne => ?_⟩
      · rw [show ((o :: t) ++ [r]).length = t.length + 1 + 1 by simp]
        exact app_next (ex := false) (n := t.length + 1) h rfl hB hba (by rw [flatR_len]; rfl) (by omega) (by simp only [List.length_cons] at hl; omega) rfl
      · show ((σ.m.del ba).set σ.next _).get σ.next = _
        rw [get_move, if_pos rfl, flatR_app]
        rfl
      · have := wf_lt hW hb
        show ((σ.m.del ba).set σ.next _).get b = some x
        rw [get_move, if_neg (by omega), if_neg (Ne.symm (hne (by simp)))]
        exact hb
theorem pass_mem : ∀ {l : List (Int × Nat)} {a : Bool} {x : Int × Nat}, x ∈ passL a l → x.1 ≠ 13 ∧ ∃ y ∈ l, y.2 = x.2
  | [], _, x, h => by simp [passL] at h
  | r :: l, a, x, h => by
    simp only [passL] at h
    split at h
    · obtain ⟨h1, y, hy, e⟩ := pass_mem h
      exact ⟨h1, y, by simp [hy], e⟩
    · rcases List.mem_cons.1 h with rfl | h
      · refine ⟨?_, r, by simp, rfl⟩
        show (if r.1 = 13 then (10 : Int) else r.1) ≠ 13
        split
        · decide
        · assumption
      · obtain ⟨h1, y, hy, e⟩ := pass_mem h
        exact ⟨h1, y, by simp [hy], e⟩
theorem pass_rise : ∀ {l : List (Int × Nat)} {a : Bool} {k : Nat}, Rise l k → Rise (passL a l) k
  | [], a, k, h => by simpa [passL] using h
  | r :: l, a, k, h => by
    have h1 := List.pairwise_cons.1 h.1
    have ht : Rise l k := ⟨h1.2, fun a ha => h.2 a (by simp [ha])⟩
    simp only [passL]
    split
    · exact pass_rise ht
    · have z := pass_rise (a := r.1 == 13) ht
      refine ⟨List.pairwise_cons.2 ⟨fun b hb => ?_, z.1⟩, fun b hb => ?_⟩
      · obtain ⟨_, y, hy, e⟩ := pass_mem hb
        have := h1.1 y hy
        show r.2 < b.2
        omega
      · rcases List.mem_cons.1 hb with rfl | hb
        · exact h.2 r (by simp)
        · exact z.2 b hb
variable {n : Nat} {Q : Exit → PT AV → AHeap → Prop} {k : List Item} {fr : PT AV} {σ : AHeap}
theorem sk_len {arr : Array Oper} {rest : List Oper} {dst : Option Tmp} {ty t : TypeId} {pos : String} {aft : Array Edge} {x : Operand} {b m z : Nat} {e : TypeId} (ht : P.underlying t = some (.slice e)) (hok : opOk P (.call ⟨.builtin .len, #[x], #[t]⟩) = true) (hx : aeval fr x = slV b m z)
    (h : SK P n Q (.ops arr rest :: k) .normal (fput n fr dst (.int .i64 (m : Nat))) σ) : SK P n Q (.ops arr (⟨dst, .call ⟨.builtin .len, #[x], #[t]⟩, ty, pos, aft, none⟩ :: rest) :: k) .normal fr σ := by
  refine sk_rd hok ?_ h
  rw [rd_builtin]
  show rdBuiltin P σ.m .len [t] [aeval fr x] = _
  rw [hx]
  cases m <;> simp only [rdBuiltin, aLen, ht, slV] <;> rfl
end Go.Am
namespace Go.Proofs.YtophnlmdcidolaaDoor
open Go Go.Am
set_option maxHeartbeats 8000000
set_option maxRecDepth 100000

theorem fed0 (coding : Int) (data : List Nat) : Fed (coding == 1) data (dst0 (coding == 1) 0) 0 :=
  ⟨⟨rfl, rfl, by show 0 ≤ 3; omega, fun h => absurd h (by show ¬ 0 < 0; omega), rise_nil _, Nat.le_refl _⟩, fun _ => ⟨rfl, rfl, rfl⟩, fun _ => ⟨rfl, rfl⟩⟩

theorem f12_tr (data : List Nat) (hd8 : ∀ c ∈ data, c < 256) (hl : data.length ≤ 900000) (coding : Int) (σ : AHeap) :
    Tr Tryd.prog 12 [.str data, .int .i64 coding, .int .i64 0] σ fun r σ' => ∃ R nb ob, r = .tuple [slV ob R.length 2, .int .i64 (nb : Nat)] ∧ WF σ' ∧ σ.next ≤ σ'.next ∧ (R ≠ [] → σ.next ≤ ob ∧ σ'.m.get ob = some (.cells (flatR R) false 0 [])) ∧
      (∀ b x, σ.m.get b = some x → σ'.m.get b = some x) ∧ Rise R data.length ∧ (∀ r ∈ R, r.1 ≠ 13) ∧ ((coding == 1) = false → nb = 0) ∧ ((∀ c ∈ data, c < 128) → R = passL false (asMap 0 data) ∧ nb = 0) := by
  refine Tr.wf fun hW => ?_
  refine sk_body (m := 37) Tryd.func12 rfl (by decide) rfl ?_
  have s26 := f26_tr coding 0 σ
  have o0 : OwnD (σ.push (.cells (cellsOf (dst0 (coding == 1) 0)) false 0 [])) σ.next (dst0 (coding == 1) 0) := own_new hW
  repeat (first
    | refine sk_seq ?_
    | refine sk_region ?_
    | refine sk_ops_nil ?_
    | refine sk_block ?_
    | refine sk_blk ?_
    | refine sk_skip ?_
    | refine sk_exit rfl ?_
    | ((first | (apply sk_r; rfl; rfl) | (apply sk_w; rfl; rfl) | (apply sk_i; rfl) | (apply sk_g; rfl; rfl)); (simp only [go_sem, Nat.reduceLT, Nat.reduceLeDiff, Nat.reduceEqDiff, Nat.reduceAdd, Nat.reduceSub, Nat.reduceMul, reduceIte, reduceCtorEq] <;> rfl); (first | refine sk_id ?_ | refine cs_t ?_ | refine cs_f ?_ | refine gs_t rfl ?_ | refine gs_f rfl ?_))
    | ((first | (apply sk_c; rfl; rfl)); (simp only [go_sem, Nat.reduceLT, Nat.reduceLeDiff, Nat.reduceEqDiff, Nat.reduceAdd, Nat.reduceSub, Nat.reduceMul, reduceIte, reduceCtorEq] <;> rfl); (first
        | (refine s26.mono ?_; rintro _ τ ⟨rfl, hτ⟩; rw [hτ])
        | (refine (f27_tr data hd8 hl o0 (fed0 coding data)).mono ?_; rintro _ τ1 ⟨s1, σ2, rfl, p1, p2, p3, p4⟩; rw [p3])); refine sk_id ?_))
  have q1 := own_clear p1
  repeat (first
    | refine sk_seq ?_
    | refine sk_region ?_
    | refine sk_ops_nil ?_
    | refine sk_block ?_
    | refine sk_blk ?_
    | refine sk_skip ?_
    | refine sk_exit rfl ?_
    | ((first | (apply sk_r; rfl; rfl) | (apply sk_w; rfl; rfl) | (apply sk_i; rfl) | (apply sk_g; rfl; rfl)); (simp only [go_sem, Nat.reduceLT, Nat.reduceLeDiff, Nat.reduceEqDiff, Nat.reduceAdd, Nat.reduceSub, Nat.reduceMul, reduceIte, reduceCtorEq] <;> rfl); (first | refine sk_id ?_ | refine cs_t ?_ | refine cs_f ?_ | refine gs_t rfl ?_ | refine gs_f rfl ?_))
    | ((first | (apply sk_c; rfl; rfl)); (simp only [go_sem, Nat.reduceLT, Nat.reduceLeDiff, Nat.reduceEqDiff, Nat.reduceAdd, Nat.reduceSub, Nat.reduceMul, reduceIte, reduceCtorEq] <;> rfl); (first
        | (refine (f28_tr q1 rfl rfl).mono ?_; rintro _ τ2 ⟨s2, σ4, rfl, r1, r2, r3, r4, r5⟩; rw [r3])); refine sk_id ?_))
  simp only at r4 r5
  have hn1 := p2.1
  have hn2 := r2.1
  rw [next_push] at hn1
  rw [next_put] at hn2
  have hWG : WF (σ4.put σ.next (.cells (cellsOf { s2 with out := [], bad := [] }) false 0 []) []) := wf_put r1.wf r1.d
  have hGn : (σ4.put σ.next (.cells (cellsOf { s2 with out := [], bad := [] }) false 0 []) []).next = σ4.next := next_put _ _ _
  have gA : s1.out ≠ [] → (σ4.put σ.next (.cells (cellsOf { s2 with out := [], bad := [] }) false 0 []) []).m.get s1.ob = some (.cells (flatR s1.out) false 0 []) := fun e => by
    rw [get_put_ne (p1.n1 e)]
    exact (r2.2 _ _ (by rw [get_put_ne (p1.n1 e)]; exact p1.o e) ⟨p1.n1 e, fun h => absurd rfl h, fun h => absurd rfl h⟩).1
  have gB : s2.out ≠ [] → (σ4.put σ.next (.cells (cellsOf { s2 with out := [], bad := [] }) false 0 []) []).m.get s2.ob = some (.cells (flatR s2.out) false 0 []) := fun e => by
    rw [get_put_ne (r1.n1 e)]; exact r1.o e
  have gO : ∀ b x, σ.m.get b = some x → (σ4.put σ.next (.cells (cellsOf { s2 with out := [], bad := [] }) false 0 []) []).m.get b = some x ∧ (s1.out ≠ [] → b ≠ s1.ob) := fun b x hb => by
    have hlt := wf_lt hW hb
    obtain ⟨k1, k2⟩ := p2.2 b x (keep_push hW (Nat.le_refl _) (fun _ _ k => k) b x hb) ⟨by omega, fun h => absurd rfl h, fun h => absurd rfl h⟩
    refine ⟨?_, k2.2.1⟩
    rw [get_put_ne (by omega)]
    exact (r2.2 _ _ (by rw [get_put_ne (by omega)]; exact k1) ⟨by omega, fun h => absurd rfl h, fun h => absurd rfl h⟩).1
  obtain ⟨G, hG⟩ : ∃ G, G = σ4.put σ.next (.cells (cellsOf { s2 with out := [], bad := [] }) false 0 []) [] := ⟨_, rfl⟩
  rw [← hG] at hWG hGn gA gB gO
  rw [← hG]
  clear hG
  have kp : ∀ b x, G.m.get b = some x → (G.push (.cells [.bool false] false 0 [])).m.get b = some x := keep_push hWG (Nat.le_refl _) fun _ _ k => k
  have hlen := p4.inv.len
  have hbl := p4.inv.bad
  have hB : s2.out = [] ∨ ∃ r, s2.out = [r] ∧ (G.push (.cells [.bool false] false 0 [])).m.get s2.ob = some (.cells (flatR s2.out) false 0 []) := by
    rcases Nat.eq_zero_or_pos s1.lf with e | e
    · exact .inl (r4 e).1
    · exact .inr ⟨_, (r5 e).1, kp _ _ (gB (by rw [(r5 e).1]; simp))⟩
  have hB2 : s2.bad.length ≤ 1 ∧ s2.out.length ≤ 1 := by
    rcases Nat.eq_zero_or_pos s1.lf with e | e
    · rw [(r4 e).1, (r4 e).2]; simp
    · rw [(r5 e).1, (r5 e).2]; simp
  obtain ⟨q, H2, a1, a2, a3, a4, a5⟩ := app_two (P := Tryd.prog) slTy29 (wf_push hWG (.cells [.bool false] false 0 [])) (fun e => kp _ _ (gA e)) hB (by omega : s1.out.length ≤ 1000000)
  rw [next_push, hGn] at a3
  have hL : H2.m.get σ4.next = some (.cells [.bool false] false 0 []) := a5 _ _ (by rw [← hGn]; exact get_push_same _ _) fun e => by
    have := wf_lt hWG (gA e)
    omega
  have hN : s1.out ++ s2.out ≠ [] → q ≠ σ4.next := fun e => by
    rcases (a4 e).2 with ⟨k1, k2⟩ | k1
    · have := wf_lt hWG (gA k2); omega
    · rw [next_push] at k1; omega
  have ew : IntKind.wrap .i64 ((s1.bad.length : Int) + (s2.bad.length : Int)) = ((s1.bad.length + s2.bad.length : Nat) : Int) := by rw [wrap_i64 (by omega) (by omega)]; rfl
  repeat (first
    | refine sk_len (b := s1.bb) (m := s1.bad.length) (z := 3) Tryd.underlying52 rfl (by first | (simp only [go_sem, Nat.reduceLT, Nat.reduceLeDiff, Nat.reduceEqDiff, Nat.reduceAdd, Nat.reduceSub, Nat.reduceMul, reduceIte, reduceCtorEq, a1, ew] <;> rfl) | fail) ?_
    | refine sk_len (b := s2.bb) (m := s2.bad.length) (z := 3) Tryd.underlying52 rfl (by first | (simp only [go_sem, Nat.reduceLT, Nat.reduceLeDiff, Nat.reduceEqDiff, Nat.reduceAdd, Nat.reduceSub, Nat.reduceMul, reduceIte, reduceCtorEq, a1, ew] <;> rfl) | fail) ?_
    | refine sk_seq ?_
    | refine sk_region ?_
    | refine sk_ops_nil ?_
    | refine sk_block ?_
    | refine sk_blk ?_
    | refine sk_skip ?_
    | refine sk_exit rfl ?_
    | ((first | (apply sk_r; rfl; rfl) | (apply sk_w; rfl; rfl) | (apply sk_i; rfl) | (apply sk_g; rfl; rfl)); (simp only [go_sem, Nat.reduceLT, Nat.reduceLeDiff, Nat.reduceEqDiff, Nat.reduceAdd, Nat.reduceSub, Nat.reduceMul, reduceIte, reduceCtorEq, a1, ew] <;> rfl); (first | refine sk_id ?_ | refine cs_t ?_ | refine cs_f ?_ | refine gs_t rfl ?_ | refine gs_f rfl ?_))
    | ((first | (apply sk_c; rfl; rfl)); (simp only [go_sem, Nat.reduceLT, Nat.reduceLeDiff, Nat.reduceEqDiff, Nat.reduceAdd, Nat.reduceSub, Nat.reduceMul, reduceIte, reduceCtorEq, a1, ew] <;> rfl); (first
        | (refine (f29_tr (s1.out ++ s2.out) hL (fun e => (a4 e).1) hN (by rw [List.length_append]; omega)).mono ?_; rintro _ τ3 ⟨ob, rfl, v1, v2, v3, v4⟩)); refine sk_id ?_))
  have hrise : Rise (s1.out ++ s2.out) data.length := by
    have hr := p4.inv.rise
    rcases Nat.eq_zero_or_pos s1.lf with e | e
    · rw [if_pos e] at hr
      rw [(r4 e).1, List.append_nil]; exact hr
    · rw [if_neg (by omega)] at hr
      rw [(r5 e).1]
      exact rise_app hr (Nat.le_refl _) (p4.inv.bg e) _
  refine sk_ret ⟨_, (by first | (simp only [aRet, Tryd.results12, aResults, aResult, go_sem, Nat.reduceLT, Nat.reduceLeDiff, Nat.reduceEqDiff, Nat.reduceAdd, Nat.reduceSub, Nat.reduceMul, reduceIte, reduceCtorEq] <;> rfl) | fail), passL false (s1.out ++ s2.out), s1.bad.length + s2.bad.length, ob, rfl, v1, by omega, fun e => ⟨by have := (v3 e).1; omega, (v3 e).2⟩, fun b x hb => ?_, pass_rise hrise, fun r hr => (pass_mem hr).1, fun e => ?_, fun e => ?_⟩
  · have hlt := wf_lt hW hb
    exact v4 _ _ (a5 _ _ (kp _ _ (gO b x hb).1) (gO b x hb).2) (by omega)
  · obtain ⟨k1, k2⟩ := p4.win e
    rw [k2, (r4 k1).2]; rfl
  · have z := p4.plain (by rw [List.take_length]; exact e)
    rw [List.take_length] at z
    rw [z.bad, (r4 z.lf).1, (r4 z.lf).2, z.out, List.append_nil]
    exact ⟨rfl, rfl⟩
end Go.Proofs.YtophnlmdcidolaaDoor
namespace Go.Am
theorem flatR_get1 : ∀ {l : List (Int × Nat)} {i : Nat} {r : Int × Nat}, l[i]? = some r → (flatR l)[i * 2 + 1]? = some (.int .i64 (r.2 : Nat))
  | [], i, r, h => by simp at h
  | x :: l, 0, r, h => by simp at h; subst h; rfl
  | x :: l, i + 1, r, h => by
    have := flatR_get1 (l := l) (i := i) (r := r) (by simpa using h)
    rw [← this, Nat.succ_mul]
    rfl
def allLow (l : List Nat) : Bool := l.all fun c => decide (c < 128)
theorem allLow_snoc (l : List Nat) (c : Nat) : allLow (l ++ [c]) = (allLow l && decide (c < 128)) := by
  unfold allLow; simp
theorem allLow_iff (l : List Nat) : allLow l = true ↔ ∀ c ∈ l, c < 128 := by
  unfold allLow; simp
end Go.Am
namespace Go.Proofs.YtophnlmdcidolaaDoor
open Go Go.Am
set_option maxHeartbeats 8000000
set_option maxRecDepth 100000

theorem eqg33 : Tryd.prog.eqGuardType Tryd.prog.depth 33 = false := by kernel_rfl
theorem eqR (v p : Int) : aEq Tryd.prog 100 33 (.agg [.int .i64 v, .int .i64 p]) (.agg [.int .i64 v, .int .i64 p]) = some true := by
  have h : Tryd.prog.stoodInHeld 33 = false := by kernel_rfl
  have h3 : ∀ d a, aEq Tryd.prog (d + 1) 3 (.int .i64 a) (.int .i64 a) = some true := by
    intro d a
    unfold aEq
    simp only [Tryd.underlying3, if_true, beq_self_eq_true]
  unfold aEq
  simp only [Tryd.underlying33, h]
  simp [eqFs, aPart, ag3, h3]

theorem wakes_tr' : Tr Tryd.prog 11 [] (heap0 Tryd.prog) fun v _ => v = .bool true := by
  obtain ⟨σ, h⟩ := isTrue_iff wakes_run
  exact (evFun_sound ext_ok mixed 2000 40 _ _ _ _ _ h).mono fun v σ' h => h.1

theorem f5_tr (data : List Nat) (hd8 : ∀ c ∈ data, c < 256) : Tr Tryd.prog 5 [.str data] (heap0 Tryd.prog) fun v _ => v = .bool true := by
  refine sk_body (m := 102) Tryd.func5 rfl (by decide) rfl ?_
  repeat (first
    | refine sk_seq ?_
    | refine sk_region ?_
    | refine sk_ops_nil ?_
    | refine sk_draw_nil ?_
    | refine sk_block ?_
    | refine sk_blk ?_
    | refine sk_skip ?_
    | refine sk_exit rfl ?_
    | refine sk_draw (id := 18) [0, 1, 2, 3, 4, 5, 6, 7, 8, 9, 10, 11, 12, 13, 14, 15, 16, 17, 18, 19, 20, 21, 22, 23, 24, 25, 26] mixed (by kernel_rfl) ?_
    | ((first | (apply sk_r; rfl; rfl) | (apply sk_w; rfl; rfl) | (apply sk_i; rfl) | (apply sk_g; rfl; rfl) | (apply sk_dr; rfl; rfl; rfl) | (apply sk_dg; rfl; rfl; rfl; rfl; rfl) | apply drd_i); (simp only [go_sem, Nat.reduceLT, Nat.reduceLeDiff, Nat.reduceEqDiff, Nat.reduceAdd, Nat.reduceSub, Nat.reduceMul, reduceIte, reduceCtorEq] <;> rfl); (first | refine sk_id ?_ | refine cs_t ?_ | refine cs_f ?_ | refine gs_t rfl ?_ | refine gs_f rfl ?_))
    | ((first | (apply sk_c; rfl; rfl)); (simp only [go_sem, Nat.reduceLT, Nat.reduceLeDiff, Nat.reduceEqDiff, Nat.reduceAdd, Nat.reduceSub, Nat.reduceMul, reduceIte, reduceCtorEq] <;> rfl); (first
        | (refine wakes_tr'.mono ?_; rintro _ τ rfl)); refine sk_id ?_))
  by_cases h5k : data.length > 5000
  · have e0 : decide ((data.length : Int) > 5000) = true := decide_eq_true (by omega)
    repeat (first
      | refine sk_seq ?_
      | refine sk_region ?_
      | refine sk_ops_nil ?_
      | refine sk_draw_nil ?_
      | refine sk_block ?_
      | refine sk_blk ?_
      | refine sk_skip ?_
      | refine sk_exit rfl ?_
      | refine sk_draw (id := 18) [0, 1, 2, 3, 4, 5, 6, 7, 8, 9, 10, 11, 12, 13, 14, 15, 16, 17, 18, 19, 20, 21, 22, 23, 24, 25, 26] mixed (by kernel_rfl) ?_
      | ((first | (apply sk_r; rfl; rfl) | (apply sk_w; rfl; rfl) | (apply sk_i; rfl) | (apply sk_g; rfl; rfl) | (apply sk_dr; rfl; rfl; rfl) | (apply sk_dg; rfl; rfl; rfl; rfl; rfl) | apply drd_i); (simp only [go_sem, Nat.reduceLT, Nat.reduceLeDiff, Nat.reduceEqDiff, Nat.reduceAdd, Nat.reduceSub, Nat.reduceMul, reduceIte, reduceCtorEq, e0] <;> rfl); (first | refine sk_id ?_ | refine cs_t ?_ | refine cs_f ?_ | refine gs_t rfl ?_ | refine gs_f rfl ?_)))
    exact sk_ret ⟨_, (by first | (simp only [aRet, Tryd.results5, aResults, aResult, go_sem, Nat.reduceLT, Nat.reduceLeDiff, Nat.reduceEqDiff, Nat.reduceAdd, Nat.reduceSub, Nat.reduceMul, reduceIte, reduceCtorEq] <;> rfl) | fail), by rfl⟩
  have e0 : decide ((data.length : Int) > 5000) = false := decide_eq_false (by omega)
  repeat (first
    | refine sk_seq ?_
    | refine sk_region ?_
    | refine sk_ops_nil ?_
    | refine sk_draw_nil ?_
    | refine sk_block ?_
    | refine sk_blk ?_
    | refine sk_skip ?_
    | refine sk_exit rfl ?_
    | refine sk_draw (id := 18) [0, 1, 2, 3, 4, 5, 6, 7, 8, 9, 10, 11, 12, 13, 14, 15, 16, 17, 18, 19, 20, 21, 22, 23, 24, 25, 26] mixed (by kernel_rfl) ?_
    | ((first | (apply sk_r; rfl; rfl) | (apply sk_w; rfl; rfl) | (apply sk_i; rfl) | (apply sk_g; rfl; rfl) | (apply sk_dr; rfl; rfl; rfl) | (apply sk_dg; rfl; rfl; rfl; rfl; rfl) | apply drd_i); (simp only [go_sem, Nat.reduceLT, Nat.reduceLeDiff, Nat.reduceEqDiff, Nat.reduceAdd, Nat.reduceSub, Nat.reduceMul, reduceIte, reduceCtorEq, e0] <;> rfl); (first | refine sk_id ?_ | refine cs_t ?_ | refine cs_f ?_ | refine gs_t rfl ?_ | refine gs_f rfl ?_))
    | ((first | (apply sk_c; rfl; rfl)); (simp only [go_sem, Nat.reduceLT, Nat.reduceLeDiff, Nat.reduceEqDiff, Nat.reduceAdd, Nat.reduceSub, Nat.reduceMul, reduceIte, reduceCtorEq, e0] <;> rfl); (first
        | (refine (f12_tr data hd8 (by omega) 1 _).mono ?_; rintro _ τ1 ⟨A, na, oa, rfl, a1, a2, a3, a4, a5, a6, a7, a8⟩)
        | (refine (f12_tr data hd8 (by omega) 2 _).mono ?_; rintro _ τ2 ⟨B, nb, ob, rfl, b1, b2, b3, b4, b5, b6, b7, b8⟩)); refine sk_id ?_))
  have hnb : nb = 0 := b7 (by decide)
  subst hnb
  refine sk_cut (fun fr σ' => σ' = τ2 ∧ fget fr 0 = .str data ∧ fget fr 3 = slV oa A.length 2 ∧ fget fr 4 = .int .i64 (na : Nat) ∧ fget fr 5 = slV ob B.length 2 ∧ fget fr 6 = .int .i64 0 ∧ fget fr 7 = .bool (allLow data)) ?_ ?_
  · refine sk_loop (fun m fr σ' => ∃ i, m = data.length - i ∧ i ≤ data.length ∧ σ' = τ2 ∧ fget fr 0 = .str data ∧ fget fr 3 = slV oa A.length 2 ∧ fget fr 4 = .int .i64 (na : Nat) ∧ fget fr 5 = slV ob B.length 2 ∧ fget fr 6 = .int .i64 0 ∧ fget fr 7 = .bool (allLow (data.take i)) ∧ fget fr 8 = .int .i64 (i : Nat)) _
      ⟨0, rfl, Nat.zero_le _, rfl, (by first | (simp only [go_sem, Nat.reduceLT, Nat.reduceLeDiff, Nat.reduceEqDiff, Nat.reduceAdd, Nat.reduceSub, Nat.reduceMul, reduceIte, reduceCtorEq] <;> rfl) | fail), (by first | (simp only [go_sem, Nat.reduceLT, Nat.reduceLeDiff, Nat.reduceEqDiff, Nat.reduceAdd, Nat.reduceSub, Nat.reduceMul, reduceIte, reduceCtorEq] <;> rfl) | fail), (by first | (simp only [go_sem, Nat.reduceLT, Nat.reduceLeDiff, Nat.reduceEqDiff, Nat.reduceAdd, Nat.reduceSub, Nat.reduceMul, reduceIte, reduceCtorEq] <;> rfl) | fail), (by first | (simp only [go_sem, Nat.reduceLT, Nat.reduceLeDiff, Nat.reduceEqDiff, Nat.reduceAdd, Nat.reduceSub, Nat.reduceMul, reduceIte, reduceCtorEq] <;> rfl) | fail), (by first | (simp only [go_sem, Nat.reduceLT, Nat.reduceLeDiff, Nat.reduceEqDiff, Nat.reduceAdd, Nat.reduceSub, Nat.reduceMul, reduceIte, reduceCtorEq] <;> rfl) | fail), (by first | (simp only [go_sem, Nat.reduceLT, Nat.reduceLeDiff, Nat.reduceEqDiff, Nat.reduceAdd, Nat.reduceSub, Nat.reduceMul, reduceIte, reduceCtorEq] <;> rfl) | fail), (by first | (simp only [go_sem, Nat.reduceLT, Nat.reduceLeDiff, Nat.reduceEqDiff, Nat.reduceAdd, Nat.reduceSub, Nat.reduceMul, reduceIte, reduceCtorEq] <;> rfl) | fail)⟩ ?_
    rintro _ fr σ' ⟨i, rfl, hi, hσ, h0, h3, h4, h5, h6, h7, h8⟩
    rw [hσ]
    by_cases hil : i < data.length
    · obtain ⟨c, hc⟩ := at_some hil
      have e1 : decide ((i : Int) < (data.length : Int)) = true := decide_eq_true (by omega)
      have e2 : (0 : Int) ≤ (i : Int) := by omega
      have e4 : IntKind.wrap .i64 ((i : Int) + 1) = ((i + 1 : Nat) : Int) := wrap_i64 (by omega) (by omega)
      have en : allLow (data.take (i + 1)) = (allLow (data.take i) && decide (c < 128)) := by rw [List.take_succ, hc]; exact allLow_snoc _ _
      cases hp : allLow (data.take i) with
      | false =>
        rw [hp] at h7 en
        repeat (first
          | refine sk_seq ?_
          | refine sk_region ?_
          | refine sk_ops_nil ?_
          | refine sk_draw_nil ?_
          | refine sk_block ?_
          | refine sk_blk ?_
          | refine sk_skip ?_
          | refine sk_exit rfl ?_
          | refine sk_draw (id := 18) [0, 1, 2, 3, 4, 5, 6, 7, 8, 9, 10, 11, 12, 13, 14, 15, 16, 17, 18, 19, 20, 21, 22, 23, 24, 25, 26] mixed (by kernel_rfl) ?_
          | ((first | (apply sk_r; rfl; rfl) | (apply sk_w; rfl; rfl) | (apply sk_i; rfl) | (apply sk_g; rfl; rfl) | (apply sk_dr; rfl; rfl; rfl) | (apply sk_dg; rfl; rfl; rfl; rfl; rfl) | apply drd_i); (simp only [go_sem, Nat.reduceLT, Nat.reduceLeDiff, Nat.reduceEqDiff, Nat.reduceAdd, Nat.reduceSub, Nat.reduceMul, reduceIte, reduceCtorEq, h0, h3, h4, h5, h6, h7, h8, e1, e2, e4, hc] <;> rfl); (first | refine sk_id ?_ | refine cs_t ?_ | refine cs_f ?_ | refine gs_t rfl ?_ | refine gs_f rfl ?_)))
        exact sk_stop ⟨data.length - (i + 1), by omega, i + 1, rfl, by omega, rfl, (by first | (simp only [go_sem, Nat.reduceLT, Nat.reduceLeDiff, Nat.reduceEqDiff, Nat.reduceAdd, Nat.reduceSub, Nat.reduceMul, reduceIte, reduceCtorEq, h0] <;> rfl) | fail), (by first | (simp only [go_sem, Nat.reduceLT, Nat.reduceLeDiff, Nat.reduceEqDiff, Nat.reduceAdd, Nat.reduceSub, Nat.reduceMul, reduceIte, reduceCtorEq, h3] <;> rfl) | fail), (by first | (simp only [go_sem, Nat.reduceLT, Nat.reduceLeDiff, Nat.reduceEqDiff, Nat.reduceAdd, Nat.reduceSub, Nat.reduceMul, reduceIte, reduceCtorEq, h4] <;> rfl) | fail), (by first | (simp only [go_sem, Nat.reduceLT, Nat.reduceLeDiff, Nat.reduceEqDiff, Nat.reduceAdd, Nat.reduceSub, Nat.reduceMul, reduceIte, reduceCtorEq, h5] <;> rfl) | fail), (by first | (simp only [go_sem, Nat.reduceLT, Nat.reduceLeDiff, Nat.reduceEqDiff, Nat.reduceAdd, Nat.reduceSub, Nat.reduceMul, reduceIte, reduceCtorEq, h6] <;> rfl) | fail), (by rw [en]; exact (by first | (simp only [go_sem, Nat.reduceLT, Nat.reduceLeDiff, Nat.reduceEqDiff, Nat.reduceAdd, Nat.reduceSub, Nat.reduceMul, reduceIte, reduceCtorEq] <;> rfl) | fail)), (by first | (simp only [go_sem, Nat.reduceLT, Nat.reduceLeDiff, Nat.reduceEqDiff, Nat.reduceAdd, Nat.reduceSub, Nat.reduceMul, reduceIte, reduceCtorEq] <;> rfl) | fail)⟩
      | true =>
        rw [hp] at h7 en
        by_cases hc1 : c < 128
        · have e5 : decide ((c : Int) < 128) = true := decide_eq_true (by omega)
          rw [decide_eq_true hc1] at en
          repeat (first
            | refine sk_seq ?_
            | refine sk_region ?_
            | refine sk_ops_nil ?_
            | refine sk_draw_nil ?_
            | refine sk_block ?_
            | refine sk_blk ?_
            | refine sk_skip ?_
            | refine sk_exit rfl ?_
            | refine sk_draw (id := 18) [0, 1, 2, 3, 4, 5, 6, 7, 8, 9, 10, 11, 12, 13, 14, 15, 16, 17, 18, 19, 20, 21, 22, 23, 24, 25, 26] mixed (by kernel_rfl) ?_
            | ((first | (apply sk_r; rfl; rfl) | (apply sk_w; rfl; rfl) | (apply sk_i; rfl) | (apply sk_g; rfl; rfl) | (apply sk_dr; rfl; rfl; rfl) | (apply sk_dg; rfl; rfl; rfl; rfl; rfl) | apply drd_i); (simp only [go_sem, Nat.reduceLT, Nat.reduceLeDiff, Nat.reduceEqDiff, Nat.reduceAdd, Nat.reduceSub, Nat.reduceMul, reduceIte, reduceCtorEq, h0, h3, h4, h5, h6, h7, h8, e1, e2, e4, e5, hc] <;> rfl); (first | refine sk_id ?_ | refine cs_t ?_ | refine cs_f ?_ | refine gs_t rfl ?_ | refine gs_f rfl ?_)))
          exact sk_stop ⟨data.length - (i + 1), by omega, i + 1, rfl, by omega, rfl, (by first | (simp only [go_sem, Nat.reduceLT, Nat.reduceLeDiff, Nat.reduceEqDiff, Nat.reduceAdd, Nat.reduceSub, Nat.reduceMul, reduceIte, reduceCtorEq, h0] <;> rfl) | fail), (by first | (simp only [go_sem, Nat.reduceLT, Nat.reduceLeDiff, Nat.reduceEqDiff, Nat.reduceAdd, Nat.reduceSub, Nat.reduceMul, reduceIte, reduceCtorEq, h3] <;> rfl) | fail), (by first | (simp only [go_sem, Nat.reduceLT, Nat.reduceLeDiff, Nat.reduceEqDiff, Nat.reduceAdd, Nat.reduceSub, Nat.reduceMul, reduceIte, reduceCtorEq, h4] <;> rfl) | fail), (by first | (simp only [go_sem, Nat.reduceLT, Nat.reduceLeDiff, Nat.reduceEqDiff, Nat.reduceAdd, Nat.reduceSub, Nat.reduceMul, reduceIte, reduceCtorEq, h5] <;> rfl) | fail), (by first | (simp only [go_sem, Nat.reduceLT, Nat.reduceLeDiff, Nat.reduceEqDiff, Nat.reduceAdd, Nat.reduceSub, Nat.reduceMul, reduceIte, reduceCtorEq, h6] <;> rfl) | fail), (by rw [en]; exact (by first | (simp only [go_sem, Nat.reduceLT, Nat.reduceLeDiff, Nat.reduceEqDiff, Nat.reduceAdd, Nat.reduceSub, Nat.reduceMul, reduceIte, reduceCtorEq] <;> rfl) | fail)), (by first | (simp only [go_sem, Nat.reduceLT, Nat.reduceLeDiff, Nat.reduceEqDiff, Nat.reduceAdd, Nat.reduceSub, Nat.reduceMul, reduceIte, reduceCtorEq] <;> rfl) | fail)⟩
        · have e5 : decide ((c : Int) < 128) = false := decide_eq_false (by omega)
          rw [decide_eq_false hc1] at en
          repeat (first
            | refine sk_seq ?_
            | refine sk_region ?_
            | refine sk_ops_nil ?_
            | refine sk_draw_nil ?_
            | refine sk_block ?_
            | refine sk_blk ?_
            | refine sk_skip ?_
            | refine sk_exit rfl ?_
            | refine sk_draw (id := 18) [0, 1, 2, 3, 4, 5, 6, 7, 8, 9, 10, 11, 12, 13, 14, 15, 16, 17, 18, 19, 20, 21, 22, 23, 24, 25, 26] mixed (by kernel_rfl) ?_
            | ((first | (apply sk_r; rfl; rfl) | (apply sk_w; rfl; rfl) | (apply sk_i; rfl) | (apply sk_g; rfl; rfl) | (apply sk_dr; rfl; rfl; rfl) | (apply sk_dg; rfl; rfl; rfl; rfl; rfl) | apply drd_i); (simp only [go_sem, Nat.reduceLT, Nat.reduceLeDiff, Nat.reduceEqDiff, Nat.reduceAdd, Nat.reduceSub, Nat.reduceMul, reduceIte, reduceCtorEq, h0, h3, h4, h5, h6, h7, h8, e1, e2, e4, e5, hc] <;> rfl); (first | refine sk_id ?_ | refine cs_t ?_ | refine cs_f ?_ | refine gs_t rfl ?_ | refine gs_f rfl ?_)))
          exact sk_stop ⟨data.length - (i + 1), by omega, i + 1, rfl, by omega, rfl, (by first | (simp only [go_sem, Nat.reduceLT, Nat.reduceLeDiff, Nat.reduceEqDiff, Nat.reduceAdd, Nat.reduceSub, Nat.reduceMul, reduceIte, reduceCtorEq, h0] <;> rfl) | fail), (by first | (simp only [go_sem, Nat.reduceLT, Nat.reduceLeDiff, Nat.reduceEqDiff, Nat.reduceAdd, Nat.reduceSub, Nat.reduceMul, reduceIte, reduceCtorEq, h3] <;> rfl) | fail), (by first | (simp only [go_sem, Nat.reduceLT, Nat.reduceLeDiff, Nat.reduceEqDiff, Nat.reduceAdd, Nat.reduceSub, Nat.reduceMul, reduceIte, reduceCtorEq, h4] <;> rfl) | fail), (by first | (simp only [go_sem, Nat.reduceLT, Nat.reduceLeDiff, Nat.reduceEqDiff, Nat.reduceAdd, Nat.reduceSub, Nat.reduceMul, reduceIte, reduceCtorEq, h5] <;> rfl) | fail), (by first | (simp only [go_sem, Nat.reduceLT, Nat.reduceLeDiff, Nat.reduceEqDiff, Nat.reduceAdd, Nat.reduceSub, Nat.reduceMul, reduceIte, reduceCtorEq, h6] <;> rfl) | fail), (by rw [en]; exact (by first | (simp only [go_sem, Nat.reduceLT, Nat.reduceLeDiff, Nat.reduceEqDiff, Nat.reduceAdd, Nat.reduceSub, Nat.reduceMul, reduceIte, reduceCtorEq] <;> rfl) | fail)), (by first | (simp only [go_sem, Nat.reduceLT, Nat.reduceLeDiff, Nat.reduceEqDiff, Nat.reduceAdd, Nat.reduceSub, Nat.reduceMul, reduceIte, reduceCtorEq] <;> rfl) | fail)⟩
    · have e1 : decide ((i : Int) < (data.length : Int)) = false := decide_eq_false (by omega)
      rw [List.take_of_length_le (by omega)] at h7
      repeat (first
        | refine sk_seq ?_
        | refine sk_region ?_
        | refine sk_ops_nil ?_
        | refine sk_draw_nil ?_
        | refine sk_block ?_
        | refine sk_blk ?_
        | refine sk_skip ?_
        | refine sk_exit rfl ?_
        | refine sk_draw (id := 18) [0, 1, 2, 3, 4, 5, 6, 7, 8, 9, 10, 11, 12, 13, 14, 15, 16, 17, 18, 19, 20, 21, 22, 23, 24, 25, 26] mixed (by kernel_rfl) ?_
        | ((first | (apply sk_r; rfl; rfl) | (apply sk_w; rfl; rfl) | (apply sk_i; rfl) | (apply sk_g; rfl; rfl) | (apply sk_dr; rfl; rfl; rfl) | (apply sk_dg; rfl; rfl; rfl; rfl; rfl) | apply drd_i); (simp only [go_sem, Nat.reduceLT, Nat.reduceLeDiff, Nat.reduceEqDiff, Nat.reduceAdd, Nat.reduceSub, Nat.reduceMul, reduceIte, reduceCtorEq, h0, h3, h4, h5, h6, h7, h8, e1] <;> rfl); (first | refine sk_id ?_ | refine cs_t ?_ | refine cs_f ?_ | refine gs_t rfl ?_ | refine gs_f rfl ?_)))
      exact sk_end ⟨rfl, (by first | (simp only [go_sem, Nat.reduceLT, Nat.reduceLeDiff, Nat.reduceEqDiff, Nat.reduceAdd, Nat.reduceSub, Nat.reduceMul, reduceIte, reduceCtorEq, h0] <;> rfl) | fail), (by first | (simp only [go_sem, Nat.reduceLT, Nat.reduceLeDiff, Nat.reduceEqDiff, Nat.reduceAdd, Nat.reduceSub, Nat.reduceMul, reduceIte, reduceCtorEq, h3] <;> rfl) | fail), (by first | (simp only [go_sem, Nat.reduceLT, Nat.reduceLeDiff, Nat.reduceEqDiff, Nat.reduceAdd, Nat.reduceSub, Nat.reduceMul, reduceIte, reduceCtorEq, h4] <;> rfl) | fail), (by first | (simp only [go_sem, Nat.reduceLT, Nat.reduceLeDiff, Nat.reduceEqDiff, Nat.reduceAdd, Nat.reduceSub, Nat.reduceMul, reduceIte, reduceCtorEq, h5] <;> rfl) | fail), (by first | (simp only [go_sem, Nat.reduceLT, Nat.reduceLeDiff, Nat.reduceEqDiff, Nat.reduceAdd, Nat.reduceSub, Nat.reduceMul, reduceIte, reduceCtorEq, h6] <;> rfl) | fail), (by first | (simp only [go_sem, Nat.reduceLT, Nat.reduceLeDiff, Nat.reduceEqDiff, Nat.reduceAdd, Nat.reduceSub, Nat.reduceMul, reduceIte, reduceCtorEq, h7] <;> rfl) | fail)⟩
  rintro fr σ' ⟨hσ, h0, h3, h4, h5, h6, h7⟩
  rw [hσ]
  have hna : allLow data = true → na = 0 ∧ A = B := fun e => by
    have := (allLow_iff data).1 e
    exact ⟨(a8 this).2, (a8 this).1.trans (b8 this).1.symm⟩
  have hAl := rise_len _ rfl a5
  have z0 : ((0 : Int) != 0) = false := rfl
  have zn : allLow data = true → (((na : Nat) : Int) != 0) = false := fun e => by rw [(hna e).1]; rfl
  have fin : ∀ fr' : PT AV, (∀ k, k = 0 ∨ k = 3 ∨ k = 5 ∨ k = 7 → fget fr' k = fget fr k) → True := fun _ _ => trivial
  cases hp : allLow data with
  | true =>
    rw [hp] at h7
    have zn := zn hp
    obtain ⟨_, hAB⟩ := hna hp
    rw [← hAB] at h5 b3
    clear hna
    repeat (first
      | refine sk_seq ?_
      | refine sk_region ?_
      | refine sk_ops_nil ?_
      | refine sk_draw_nil ?_
      | refine sk_block ?_
      | refine sk_blk ?_
      | refine sk_skip ?_
      | refine sk_exit rfl ?_
      | refine sk_draw (id := 18) [0, 1, 2, 3, 4, 5, 6, 7, 8, 9, 10, 11, 12, 13, 14, 15, 16, 17, 18, 19, 20, 21, 22, 23, 24, 25, 26] mixed (by kernel_rfl) ?_
      | ((first | (apply sk_r; rfl; rfl) | (apply sk_w; rfl; rfl) | (apply sk_i; rfl) | (apply sk_g; rfl; rfl) | (apply sk_dr; rfl; rfl; rfl) | (apply sk_dg; rfl; rfl; rfl; rfl; rfl) | apply drd_i); (simp only [go_sem, Nat.reduceLT, Nat.reduceLeDiff, Nat.reduceEqDiff, Nat.reduceAdd, Nat.reduceSub, Nat.reduceMul, reduceIte, reduceCtorEq, h0, h3, h4, h5, h6, h7, z0, zn] <;> rfl); (first | refine sk_id ?_ | refine cs_t ?_ | refine cs_f ?_ | refine gs_t rfl ?_ | refine gs_f rfl ?_)))
    refine sk_loop (fun m fr σ' => ∃ i p, m = A.length - i ∧ i ≤ A.length ∧ σ' = τ2 ∧ (∀ r ∈ A.drop i, p ≤ r.2) ∧ p ≤ data.length ∧ fget fr 0 = .str data ∧ fget fr 3 = slV oa A.length 2 ∧ fget fr 5 = slV ob A.length 2 ∧ fget fr 7 = .bool true ∧ fget fr 9 = .int .i64 (p : Nat) ∧ fget fr 10 = .int .i64 (i : Nat)) _
      ⟨0, 0, rfl, Nat.zero_le _, rfl, fun _ _ => Nat.zero_le _, Nat.zero_le _, (by first | (simp only [go_sem, Nat.reduceLT, Nat.reduceLeDiff, Nat.reduceEqDiff, Nat.reduceAdd, Nat.reduceSub, Nat.reduceMul, reduceIte, reduceCtorEq, h0] <;> rfl) | fail), (by first | (simp only [go_sem, Nat.reduceLT, Nat.reduceLeDiff, Nat.reduceEqDiff, Nat.reduceAdd, Nat.reduceSub, Nat.reduceMul, reduceIte, reduceCtorEq, h3] <;> rfl) | fail), (by first | (simp only [go_sem, Nat.reduceLT, Nat.reduceLeDiff, Nat.reduceEqDiff, Nat.reduceAdd, Nat.reduceSub, Nat.reduceMul, reduceIte, reduceCtorEq, h5] <;> rfl) | fail), (by first | (simp only [go_sem, Nat.reduceLT, Nat.reduceLeDiff, Nat.reduceEqDiff, Nat.reduceAdd, Nat.reduceSub, Nat.reduceMul, reduceIte, reduceCtorEq, h7] <;> rfl) | fail), (by first | (simp only [go_sem, Nat.reduceLT, Nat.reduceLeDiff, Nat.reduceEqDiff, Nat.reduceAdd, Nat.reduceSub, Nat.reduceMul, reduceIte, reduceCtorEq] <;> rfl) | fail), (by first | (simp only [go_sem, Nat.reduceLT, Nat.reduceLeDiff, Nat.reduceEqDiff, Nat.reduceAdd, Nat.reduceSub, Nat.reduceMul, reduceIte, reduceCtorEq] <;> rfl) | fail)⟩ ?_
    clear h0 h3 h4 h5 h6 h7 hσ
    rintro _ fr σ' ⟨i, p, rfl, hi, hσ, hpp, hpl, h0, h3, h5, h7, h9, h10⟩
    rw [hσ]
    by_cases hil : i < A.length
    · obtain ⟨r, hr⟩ : ∃ r, A[i]? = some r := ⟨_, List.getElem?_eq_getElem hil⟩
      have hrm : r ∈ A := List.mem_of_getElem? hr
      have hne : A ≠ [] := List.ne_nil_of_mem hrm
      rw [slV_some (by omega)] at h3 h5
      have gA := b4 _ _ (a3 hne).2
      have gB := (b3 hne).2
      have hrl := a5.2 r hrm
      rw [drop_cons hr] at hpp
      have hpr := hpp r (by simp)
      have e1 : decide ((i : Int) < (A.length : Int)) = true := decide_eq_true (by omega)
      have e2 : (0 : Int) ≤ (i : Int) := by omega
      have e3 : (i : Int) < (A.length : Int) := by omega
      have e4 : IntKind.wrap .i64 ((i : Int) + 1) = ((i + 1 : Nat) : Int) := wrap_i64 (by omega) (by omega)
      have e5 := flatR_get1 hr
      have e6 : decide (((r.2 : Nat) : Int) < (p : Int)) = false := decide_eq_false (by omega)
      have e7 : decide ((i : Int) ≥ (A.length : Int)) = false := decide_eq_false (by omega)
      have e8 := sub_flatR hr
      have e9 := eqR r.1 (r.2 : Nat)
      have e10 : IntKind.wrap .i64 (((r.2 : Nat) : Int) + 1) = ((r.2 + 1 : Nat) : Int) := wrap_i64 (by omega) (by omega)
      have hnext : ∀ x ∈ A.drop (i + 1), r.2 + 1 ≤ x.2 := by
        have hpw := a5.1
        rw [← List.take_append_drop i A, drop_cons hr] at hpw
        have := (List.pairwise_cons.1 (List.pairwise_append.1 hpw).2.1).1
        intro x hx
        exact this x hx
      repeat (first
        | refine sk_seq ?_
        | refine sk_region ?_
        | refine sk_ops_nil ?_
        | refine sk_draw_nil ?_
        | refine sk_block ?_
        | refine sk_blk ?_
        | refine sk_skip ?_
        | refine sk_exit rfl ?_
        | refine sk_draw (id := 18) [0, 1, 2, 3, 4, 5, 6, 7, 8, 9, 10, 11, 12, 13, 14, 15, 16, 17, 18, 19, 20, 21, 22, 23, 24, 25, 26] mixed (by kernel_rfl) ?_
        | ((first | (apply sk_r; rfl; rfl) | (apply sk_w; rfl; rfl) | (apply sk_i; rfl) | (apply sk_g; rfl; rfl) | (apply sk_dr; rfl; rfl; rfl) | (apply sk_dg; rfl; rfl; rfl; rfl; rfl) | apply drd_i); (simp only [go_sem, Nat.reduceLT, Nat.reduceLeDiff, Nat.reduceEqDiff, Nat.reduceAdd, Nat.reduceSub, Nat.reduceMul, reduceIte, reduceCtorEq, h0, h3, h5, h7, h9, h10, gA, gB, e1, e2, e3, e4, e5, e6, e7, e8, e9, e10, eqOk, eqg33, and_self, Bool.not_true, Bool.not_false] <;> rfl); (first | refine sk_id ?_ | refine cs_t ?_ | refine cs_f ?_ | refine gs_t rfl ?_ | refine gs_f rfl ?_)))
      exact sk_stop ⟨A.length - (i + 1), by omega, i + 1, r.2 + 1, rfl, by omega, rfl, hnext, by omega, (by first | (simp only [go_sem, Nat.reduceLT, Nat.reduceLeDiff, Nat.reduceEqDiff, Nat.reduceAdd, Nat.reduceSub, Nat.reduceMul, reduceIte, reduceCtorEq, h0] <;> rfl) | fail), (by rw [slV_some (by omega)]; exact (by first | (simp only [go_sem, Nat.reduceLT, Nat.reduceLeDiff, Nat.reduceEqDiff, Nat.reduceAdd, Nat.reduceSub, Nat.reduceMul, reduceIte, reduceCtorEq, h3] <;> rfl) | fail)), (by rw [slV_some (by omega)]; exact (by first | (simp only [go_sem, Nat.reduceLT, Nat.reduceLeDiff, Nat.reduceEqDiff, Nat.reduceAdd, Nat.reduceSub, Nat.reduceMul, reduceIte, reduceCtorEq, h5] <;> rfl) | fail)), (by first | (simp only [go_sem, Nat.reduceLT, Nat.reduceLeDiff, Nat.reduceEqDiff, Nat.reduceAdd, Nat.reduceSub, Nat.reduceMul, reduceIte, reduceCtorEq, h7] <;> rfl) | fail), (by first | (simp only [go_sem, Nat.reduceLT, Nat.reduceLeDiff, Nat.reduceEqDiff, Nat.reduceAdd, Nat.reduceSub, Nat.reduceMul, reduceIte, reduceCtorEq] <;> rfl) | fail), (by first | (simp only [go_sem, Nat.reduceLT, Nat.reduceLeDiff, Nat.reduceEqDiff, Nat.reduceAdd, Nat.reduceSub, Nat.reduceMul, reduceIte, reduceCtorEq] <;> rfl) | fail)⟩
    · have e1 : decide ((i : Int) < (A.length : Int)) = false := decide_eq_false (by omega)
      have e6 : decide (((p : Nat) : Int) ≤ (data.length : Int)) = true := decide_eq_true (by omega)
      have e7 : (((A.length : Nat) : Int) == ((A.length : Nat) : Int)) = true := by simp
      repeat (first
        | refine sk_len (b := oa) (m := A.length) (z := 2) Tryd.underlying29 rfl (by first | (simp only [go_sem, Nat.reduceLT, Nat.reduceLeDiff, Nat.reduceEqDiff, Nat.reduceAdd, Nat.reduceSub, Nat.reduceMul, reduceIte, reduceCtorEq, h0, h3, h5, h7, h9, h10, e1, e6, e7] <;> rfl) | fail) ?_
        | refine sk_len (b := ob) (m := A.length) (z := 2) Tryd.underlying29 rfl (by first | (simp only [go_sem, Nat.reduceLT, Nat.reduceLeDiff, Nat.reduceEqDiff, Nat.reduceAdd, Nat.reduceSub, Nat.reduceMul, reduceIte, reduceCtorEq, h0, h3, h5, h7, h9, h10, e1, e6, e7] <;> rfl) | fail) ?_
        | refine sk_seq ?_
        | refine sk_region ?_
        | refine sk_ops_nil ?_
        | refine sk_draw_nil ?_
        | refine sk_block ?_
        | refine sk_blk ?_
        | refine sk_skip ?_
        | refine sk_exit rfl ?_
        | refine sk_draw (id := 18) [0, 1, 2, 3, 4, 5, 6, 7, 8, 9, 10, 11, 12, 13, 14, 15, 16, 17, 18, 19, 20, 21, 22, 23, 24, 25, 26] mixed (by kernel_rfl) ?_
        | ((first | (apply sk_r; rfl; rfl) | (apply sk_w; rfl; rfl) | (apply sk_i; rfl) | (apply sk_g; rfl; rfl) | (apply sk_dr; rfl; rfl; rfl) | (apply sk_dg; rfl; rfl; rfl; rfl; rfl) | apply drd_i); (simp only [go_sem, Nat.reduceLT, Nat.reduceLeDiff, Nat.reduceEqDiff, Nat.reduceAdd, Nat.reduceSub, Nat.reduceMul, reduceIte, reduceCtorEq, h0, h3, h5, h7, h9, h10, e1, e6, e7] <;> rfl); (first | refine sk_id ?_ | refine cs_t ?_ | refine cs_f ?_ | refine gs_t rfl ?_ | refine gs_f rfl ?_)))
      exact sk_ret ⟨_, (by first | (simp only [aRet, Tryd.results5, aResults, aResult, go_sem, Nat.reduceLT, Nat.reduceLeDiff, Nat.reduceEqDiff, Nat.reduceAdd, Nat.reduceSub, Nat.reduceMul, reduceIte, reduceCtorEq] <;> rfl) | fail), by rfl⟩
  | false =>
    rw [hp] at h7
    repeat (first
      | refine sk_seq ?_
      | refine sk_region ?_
      | refine sk_ops_nil ?_
      | refine sk_draw_nil ?_
      | refine sk_block ?_
      | refine sk_blk ?_
      | refine sk_skip ?_
      | refine sk_exit rfl ?_
      | refine sk_draw (id := 18) [0, 1, 2, 3, 4, 5, 6, 7, 8, 9, 10, 11, 12, 13, 14, 15, 16, 17, 18, 19, 20, 21, 22, 23, 24, 25, 26] mixed (by kernel_rfl) ?_
      | ((first | (apply sk_r; rfl; rfl) | (apply sk_w; rfl; rfl) | (apply sk_i; rfl) | (apply sk_g; rfl; rfl) | (apply sk_dr; rfl; rfl; rfl) | (apply sk_dg; rfl; rfl; rfl; rfl; rfl) | apply drd_i); (simp only [go_sem, Nat.reduceLT, Nat.reduceLeDiff, Nat.reduceEqDiff, Nat.reduceAdd, Nat.reduceSub, Nat.reduceMul, reduceIte, reduceCtorEq, h0, h3, h4, h5, h6, h7, z0] <;> rfl); (first | refine sk_id ?_ | refine cs_t ?_ | refine cs_f ?_ | refine gs_t rfl ?_ | refine gs_f rfl ?_)))
    refine sk_loop (fun m fr σ' => ∃ i p, m = A.length - i ∧ i ≤ A.length ∧ σ' = τ2 ∧ (∀ r ∈ A.drop i, p ≤ r.2) ∧ p ≤ data.length ∧ fget fr 0 = .str data ∧ fget fr 3 = slV oa A.length 2 ∧ fget fr 7 = .bool false ∧ fget fr 9 = .int .i64 (p : Nat) ∧ fget fr 10 = .int .i64 (i : Nat)) _
      ⟨0, 0, rfl, Nat.zero_le _, rfl, fun _ _ => Nat.zero_le _, Nat.zero_le _, (by first | (simp only [go_sem, Nat.reduceLT, Nat.reduceLeDiff, Nat.reduceEqDiff, Nat.reduceAdd, Nat.reduceSub, Nat.reduceMul, reduceIte, reduceCtorEq, h0] <;> rfl) | fail), (by first | (simp only [go_sem, Nat.reduceLT, Nat.reduceLeDiff, Nat.reduceEqDiff, Nat.reduceAdd, Nat.reduceSub, Nat.reduceMul, reduceIte, reduceCtorEq, h3] <;> rfl) | fail), (by first | (simp only [go_sem, Nat.reduceLT, Nat.reduceLeDiff, Nat.reduceEqDiff, Nat.reduceAdd, Nat.reduceSub, Nat.reduceMul, reduceIte, reduceCtorEq, h7] <;> rfl) | fail), (by first | (simp only [go_sem, Nat.reduceLT, Nat.reduceLeDiff, Nat.reduceEqDiff, Nat.reduceAdd, Nat.reduceSub, Nat.reduceMul, reduceIte, reduceCtorEq] <;> rfl) | fail), (by first | (simp only [go_sem, Nat.reduceLT, Nat.reduceLeDiff, Nat.reduceEqDiff, Nat.reduceAdd, Nat.reduceSub, Nat.reduceMul, reduceIte, reduceCtorEq] <;> rfl) | fail)⟩ ?_
    clear h0 h3 h4 h5 h6 h7 hσ
    rintro _ fr σ' ⟨i, p, rfl, hi, hσ, hpp, hpl, h0, h3, h7, h9, h10⟩
    rw [hσ]
    by_cases hil : i < A.length
    · obtain ⟨r, hr⟩ : ∃ r, A[i]? = some r := ⟨_, List.getElem?_eq_getElem hil⟩
      have hrm : r ∈ A := List.mem_of_getElem? hr
      have hne : A ≠ [] := List.ne_nil_of_mem hrm
      rw [slV_some (by omega)] at h3
      have gA := b4 _ _ (a3 hne).2
      have hrl := a5.2 r hrm
      rw [drop_cons hr] at hpp
      have hpr := hpp r (by simp)
      have e1 : decide ((i : Int) < (A.length : Int)) = true := decide_eq_true (by omega)
      have e2 : (0 : Int) ≤ (i : Int) := by omega
      have e3 : (i : Int) < (A.length : Int) := by omega
      have e4 : IntKind.wrap .i64 ((i : Int) + 1) = ((i + 1 : Nat) : Int) := wrap_i64 (by omega) (by omega)
      have e5 := flatR_get1 hr
      have e6 : decide (((r.2 : Nat) : Int) < (p : Int)) = false := decide_eq_false (by omega)
      have e10 : IntKind.wrap .i64 (((r.2 : Nat) : Int) + 1) = ((r.2 + 1 : Nat) : Int) := wrap_i64 (by omega) (by omega)
      have hnext : ∀ x ∈ A.drop (i + 1), r.2 + 1 ≤ x.2 := by
        have hpw := a5.1
        rw [← List.take_append_drop i A, drop_cons hr] at hpw
        have := (List.pairwise_cons.1 (List.pairwise_append.1 hpw).2.1).1
        intro x hx
        exact this x hx
      repeat (first
        | refine sk_seq ?_
        | refine sk_region ?_
        | refine sk_ops_nil ?_
        | refine sk_draw_nil ?_
        | refine sk_block ?_
        | refine sk_blk ?_
        | refine sk_skip ?_
        | refine sk_exit rfl ?_
        | refine sk_draw (id := 18) [0, 1, 2, 3, 4, 5, 6, 7, 8, 9, 10, 11, 12, 13, 14, 15, 16, 17, 18, 19, 20, 21, 22, 23, 24, 25, 26] mixed (by kernel_rfl) ?_
        | ((first | (apply sk_r; rfl; rfl) | (apply sk_w; rfl; rfl) | (apply sk_i; rfl) | (apply sk_g; rfl; rfl) | (apply sk_dr; rfl; rfl; rfl) | (apply sk_dg; rfl; rfl; rfl; rfl; rfl) | apply drd_i); (simp only [go_sem, Nat.reduceLT, Nat.reduceLeDiff, Nat.reduceEqDiff, Nat.reduceAdd, Nat.reduceSub, Nat.reduceMul, reduceIte, reduceCtorEq, h0, h3, h7, h9, h10, gA, e1, e2, e3, e4, e5, e6, e10, and_self] <;> rfl); (first | refine sk_id ?_ | refine cs_t ?_ | refine cs_f ?_ | refine gs_t rfl ?_ | refine gs_f rfl ?_)))
      exact sk_stop ⟨A.length - (i + 1), by omega, i + 1, r.2 + 1, rfl, by omega, rfl, hnext, by omega, (by first | (simp only [go_sem, Nat.reduceLT, Nat.reduceLeDiff, Nat.reduceEqDiff, Nat.reduceAdd, Nat.reduceSub, Nat.reduceMul, reduceIte, reduceCtorEq, h0] <;> rfl) | fail), (by rw [slV_some (by omega)]; exact (by first | (simp only [go_sem, Nat.reduceLT, Nat.reduceLeDiff, Nat.reduceEqDiff, Nat.reduceAdd, Nat.reduceSub, Nat.reduceMul, reduceIte, reduceCtorEq, h3] <;> rfl) | fail)), (by first | (simp only [go_sem, Nat.reduceLT, Nat.reduceLeDiff, Nat.reduceEqDiff, Nat.reduceAdd, Nat.reduceSub, Nat.reduceMul, reduceIte, reduceCtorEq, h7] <;> rfl) | fail), (by first | (simp only [go_sem, Nat.reduceLT, Nat.reduceLeDiff, Nat.reduceEqDiff, Nat.reduceAdd, Nat.reduceSub, Nat.reduceMul, reduceIte, reduceCtorEq] <;> rfl) | fail), (by first | (simp only [go_sem, Nat.reduceLT, Nat.reduceLeDiff, Nat.reduceEqDiff, Nat.reduceAdd, Nat.reduceSub, Nat.reduceMul, reduceIte, reduceCtorEq] <;> rfl) | fail)⟩
    · have e1 : decide ((i : Int) < (A.length : Int)) = false := decide_eq_false (by omega)
      have e6 : decide (((p : Nat) : Int) ≤ (data.length : Int)) = true := decide_eq_true (by omega)
      repeat (first
        | refine sk_len (b := oa) (m := A.length) (z := 2) Tryd.underlying29 rfl (by first | (simp only [go_sem, Nat.reduceLT, Nat.reduceLeDiff, Nat.reduceEqDiff, Nat.reduceAdd, Nat.reduceSub, Nat.reduceMul, reduceIte, reduceCtorEq, h0, h3, h7, h9, h10, e1, e6] <;> rfl) | fail) ?_
        | refine sk_seq ?_
        | refine sk_region ?_
        | refine sk_ops_nil ?_
        | refine sk_draw_nil ?_
        | refine sk_block ?_
        | refine sk_blk ?_
        | refine sk_skip ?_
        | refine sk_exit rfl ?_
        | refine sk_draw (id := 18) [0, 1, 2, 3, 4, 5, 6, 7, 8, 9, 10, 11, 12, 13, 14, 15, 16, 17, 18, 19, 20, 21, 22, 23, 24, 25, 26] mixed (by kernel_rfl) ?_
        | ((first | (apply sk_r; rfl; rfl) | (apply sk_w; rfl; rfl) | (apply sk_i; rfl) | (apply sk_g; rfl; rfl) | (apply sk_dr; rfl; rfl; rfl) | (apply sk_dg; rfl; rfl; rfl; rfl; rfl) | apply drd_i); (simp only [go_sem, Nat.reduceLT, Nat.reduceLeDiff, Nat.reduceEqDiff, Nat.reduceAdd, Nat.reduceSub, Nat.reduceMul, reduceIte, reduceCtorEq, h0, h3, h7, h9, h10, e1, e6] <;> rfl); (first | refine sk_id ?_ | refine cs_t ?_ | refine cs_f ?_ | refine gs_t rfl ?_ | refine gs_f rfl ?_)))
      exact sk_ret ⟨_, (by first | (simp only [aRet, Tryd.results5, aResults, aResult, go_sem, Nat.reduceLT, Nat.reduceLeDiff, Nat.reduceEqDiff, Nat.reduceAdd, Nat.reduceSub, Nat.reduceMul, reduceIte, reduceCtorEq] <;> rfl) | fail), by rfl⟩
end Go.Proofs.YtophnlmdcidolaaDoor
