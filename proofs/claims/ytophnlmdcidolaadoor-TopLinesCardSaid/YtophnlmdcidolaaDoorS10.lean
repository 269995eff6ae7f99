import Derived.Test.YtophnlmdcidolaaDoorS8
set_option linter.all false
namespace Go.Am
variable {P : Program}
theorem app_two {st : TypeId} {σ : AHeap} {ba bb : Nat} {A B : List (Int × Nat)} (h : SlTy P st 2) (hW : WF σ) (hA : A ≠ [] → σ.m.get ba = some (.cells (flatR A) false 0 [])) (hB : B = [] ∨ ∃ r, B = [r] ∧ σ.m.get bb = some (.cells (flatR B) false 0 [])) (hl : A.length ≤ 1000000) :
    ∃ q σ', aAppend P σ [st, st] [slV ba A.length 2, slV bb B.length 2] = some (slV q (A ++ B).length 2, σ') ∧ WF σ' ∧ σ.next ≤ σ'.next ∧ (A ++ B ≠ [] → σ'.m.get q = some (.cells (flatR (A ++ B)) false 0 []) ∧ ((q = ba ∧ A ≠ []) ∨ σ.next ≤ q)) ∧
      ∀ b x, σ.m.get b = some x → (A ≠ [] → b ≠ ba) → σ'.m.get b = some x := by
  rcases hB with rfl | ⟨r, rfl, hB⟩
  · refine ⟨ba, σ, ?_, hW, Nat.le_refl _, fun e => ?_, fun b x h _ => h⟩
    · rw [List.append_nil]
      obtain ⟨e, i, zz, h1, h2, h3, h4, h5, h6, h7⟩ := h
      cases A with
      | nil =>
        show aAppend P σ [st, st] [.nilslice, .nilslice] = _
        unfold aAppend
        simp only [h1, h2, h5, isIntTy, aLenOf, aSrc]
        rfl
      | cons o t =>
        show aAppend P σ [st, st] [.slice ba 0 (t.length + 1) (t.length + 1) false 2, .nilslice] = some (.slice ba 0 (t.length + 1) (t.length + 1) false 2, σ)
        unfold aAppend
        simp only [h1, h2, h5, isIntTy, aLenOf, aSrc, h3, nat_beq, nat_ble, Nat.add_zero, Nat.le_refl, decide_true, aPutAt]
    · rw [List.append_nil] at e ⊢
      exact ⟨hA e, .inl ⟨rfl, e⟩⟩
  · cases A with
    | nil =>
      refine ⟨_, _, app_first (ex := false) h rfl hB, wf_push hW _, by rw [next_push]; omega, fun _ => ⟨get_push_same _ _, .inr (Nat.le_refl _)⟩, fun b x hb _ => keep_push hW (Nat.le_refl _) (fun _ _ k => k) b x hb⟩
    | cons o t =>
      have hba := hA (by simp)
      have hlt := wf_lt hW hba
      refine ⟨σ.next, ⟨(σ.m.del ba).set σ.next (.cells (flatR (o :: t) ++ [.int .i64 r.1, .int .i64 (r.2 : Nat)]) false 0 []), σ.next + 1⟩, ?_, wf_move hW, by show σ.next ≤ σ.next + 1; omega, fun _ => ⟨?_, .inr (Nat.le_refl _)⟩, fun b x hb hne => ?_⟩
      · rw [show ((o :: t) ++ [r]).length = t.length + 1 + 1 by simp]
        exact app_next (ex := false) (n := t.length + 1) h rfl hB hba (by rw [flatR_len]; rfl) (by omega) (by simp only [List.length_cons] at hl; omega) rfl
      · show ((σ.m.del ba).set σ.next _).get σ.next = _
        rw [get_move, if_pos rfl, flatR_app]
        rfl
      · have := wf_lt hW hb
        show ((σ.m.del ba).set σ.next _).get b = some x
        rw [get_move, if_neg (by omega), if_neg (Ne.symm (hne (by simp)))]
        exact hb
theorem pass_mem : ∀ {l : List (Int × Nat)} {a : Bool} {x : Int × Nat}, x ∈ passL a l → x.1 ≠ 13 ∧ ∃ y ∈ l, y.2 = x.2
  | [], _, x, h => by simp [passL] at h
  | r :: l, a, x, h => by
    simp only [passL] at h
    split at h
    · obtain ⟨h1, y, hy, e⟩ := pass_mem h
      exact ⟨h1, y, by simp [hy], e⟩
    · rcases List.mem_cons.1 h with rfl | h
      · refine ⟨?_, r, by simp, rfl⟩
        show (if r.1 = 13 then (10 : Int) else r.1) ≠ 13
        split
        · decide
        · assumption
      · obtain ⟨h1, y, hy, e⟩ := pass_mem h
        exact ⟨h1, y, by simp [hy], e⟩
theorem pass_rise : ∀ {l : List (Int × Nat)} {a : Bool} {k : Nat}, Rise l k → Rise (passL a l) k
  | [], a, k, h => by simpa [passL] using h
  | r :: l, a, k, h => by
    have h1 := List.pairwise_cons.1 h.1
    have ht : Rise l k := ⟨h1.2, fun a ha => h.2 a (by simp [ha])⟩
    simp only [passL]
    split
    · exact pass_rise ht
    · have z := pass_rise (a := r.1 == 13) ht
      refine ⟨List.pairwise_cons.2 ⟨fun b hb => ?_, z.1⟩, fun b hb => ?_⟩
      · obtain ⟨_, y, hy, e⟩ := pass_mem hb
        have := h1.1 y hy
        show r.2 < b.2
        omega
      · rcases List.mem_cons.1 hb with rfl | hb
        · exact h.2 r (by simp)
        · exact z.2 b hb
variable {n : Nat} {Q : Exit → PT AV → AHeap → Prop} {k : List Item} {fr : PT AV} {σ : AHeap}
theorem sk_len {arr : Array Oper} {rest : List Oper} {dst : Option Tmp} {ty t : TypeId} {pos : String} {aft : Array Edge} {x : Operand} {b m z : Nat} {e : TypeId} (ht : P.underlying t = some (.slice e)) (hok : opOk P (.call ⟨.builtin .len, #[x], #[t]⟩) = true) (hx : aeval fr x = slV b m z)
    (h : SK P n Q (.ops arr rest :: k) .normal (fput n fr dst (.int .i64 (m : Nat))) σ) : SK P n Q (.ops arr (⟨dst, .call ⟨.builtin .len, #[x], #[t]⟩, ty, pos, aft, none⟩ :: rest) :: k) .normal fr σ := by
  refine sk_rd hok ?_ h
  rw [rd_builtin]
  show rdBuiltin P σ.m .len [t] [aeval fr x] = _
  rw [hx]
  cases m <;> simp only [rdBuiltin, aLen, ht, slV] <;> rfl
end Go.Am
namespace Go.Proofs.YtophnlmdcidolaaDoor
open Go Go.Am
set_option maxHeartbeats 8000000
set_option maxRecDepth 100000

theorem fed0 (coding : Int) (data : List Nat) : Fed (coding == 1) data (dst0 (coding == 1) 0) 0 :=
  ⟨⟨rfl, rfl, by show 0 ≤ 3; omega, fun h => absurd h (by show ¬ 0 < 0; omega), rise_nil _, Nat.le_refl _⟩, fun _ => ⟨rfl, rfl, rfl⟩, fun _ => ⟨rfl, rfl⟩⟩

theorem f12_tr (data : List Nat) (hd8 : ∀ c ∈ data, c < 256) (hl : data.length ≤ 900000) (coding : Int) (σ : AHeap) :
    Tr Tryd.prog 12 [.str data, .int .i64 coding, .int .i64 0] σ fun r σ' => ∃ R nb ob, r = .tuple [slV ob R.length 2, .int .i64 (nb : Nat)] ∧ WF σ' ∧ σ.next ≤ σ'.next ∧ (R ≠ [] → σ.next ≤ ob ∧ σ'.m.get ob = some (.cells (flatR R) false 0 [])) ∧
      (∀ b x, σ.m.get b = some x → σ'.m.get b = some x) ∧ Rise R data.length ∧ (∀ r ∈ R, r.1 ≠ 13) ∧ ((coding == 1) = false → nb = 0) ∧ ((∀ c ∈ data, c < 128) → R = passL false (asMap 0 data) ∧ nb = 0) := by
  refine Tr.wf fun hW => ?_
  refine sk_body (m := 37) Tryd.func12 rfl (by decide) rfl ?_
  have s26 := f26_tr coding 0 σ
  have o0 : OwnD (σ.push (.cells (cellsOf (dst0 (coding == 1) 0)) false 0 [])) σ.next (dst0 (coding == 1) 0) := own_new hW
  repeat (first
    | refine sk_seq ?_
    | refine sk_region ?_
    | refine sk_ops_nil ?_
    | refine sk_block ?_
    | refine sk_blk ?_
    | refine sk_skip ?_
    | refine sk_exit rfl ?_
    | ((first | (apply sk_r; rfl; rfl) | (apply sk_w; rfl; rfl) | (apply sk_i; rfl) | (apply sk_g; rfl; rfl)); (simp only [go_sem, Nat.reduceLT, Nat.reduceLeDiff, Nat.reduceEqDiff, Nat.reduceAdd, Nat.reduceSub, Nat.reduceMul, reduceIte, reduceCtorEq] <;> rfl); (first | refine sk_id ?_ | refine cs_t ?_ | refine cs_f ?_ | refine gs_t rfl ?_ | refine gs_f rfl ?_))
    | ((first | (apply sk_c; rfl; rfl)); (simp only [go_sem, Nat.reduceLT, Nat.reduceLeDiff, Nat.reduceEqDiff, Nat.reduceAdd, Nat.reduceSub, Nat.reduceMul, reduceIte, reduceCtorEq] <;> rfl); (first
        | (refine s26.mono ?_; rintro _ τ ⟨rfl, hτ⟩; rw [hτ])
        | (refine (f27_tr data hd8 hl o0 (fed0 coding data)).mono ?_; rintro _ τ1 ⟨s1, σ2, rfl, p1, p2, p3, p4⟩; rw [p3])); refine sk_id ?_))
  have q1 := own_clear p1
  repeat (first
    | refine sk_seq ?_
    | refine sk_region ?_
    | refine sk_ops_nil ?_
    | refine sk_block ?_
    | refine sk_blk ?_
    | refine sk_skip ?_
    | refine sk_exit rfl ?_
    | ((first | (apply sk_r; rfl; rfl) | (apply sk_w; rfl; rfl) | (apply sk_i; rfl) | (apply sk_g; rfl; rfl)); (simp only [go_sem, Nat.reduceLT, Nat.reduceLeDiff, Nat.reduceEqDiff, Nat.reduceAdd, Nat.reduceSub, Nat.reduceMul, reduceIte, reduceCtorEq] <;> rfl); (first | refine sk_id ?_ | refine cs_t ?_ | refine cs_f ?_ | refine gs_t rfl ?_ | refine gs_f rfl ?_))
    | ((first | (apply sk_c; rfl; rfl)); (simp only [go_sem, Nat.reduceLT, Nat.reduceLeDiff, Nat.reduceEqDiff, Nat.reduceAdd, Nat.reduceSub, Nat.reduceMul, reduceIte, reduceCtorEq] <;> rfl); (first
        | (refine (f28_tr q1 rfl rfl).mono ?_; rintro _ τ2 ⟨s2, σ4, rfl, r1, r2, r3, r4, r5⟩; rw [r3])); refine sk_id ?_))
  simp only at r4 r5
  have hn1 := p2.1
  have hn2 := r2.1
  rw [next_push] at hn1
  rw [next_put] at hn2
  have hWG : WF (σ4.put σ.next (.cells (cellsOf { s2 with out := [], bad := [] }) false 0 []) []) := wf_put r1.wf r1.d
  have hGn : (σ4.put σ.next (.cells (cellsOf { s2 with out := [], bad := [] }) false 0 []) []).next = σ4.next := next_put _ _ _
  have gA : s1.out ≠ [] → (σ4.put σ.next (.cells (cellsOf { s2 with out := [], bad := [] }) false 0 []) []).m.get s1.ob = some (.cells (flatR s1.out) false 0 []) := fun e => by
    rw [get_put_ne (p1.n1 e)]
    exact (r2.2 _ _ (by rw [get_put_ne (p1.n1 e)]; exact p1.o e) ⟨p1.n1 e, fun h => absurd rfl h, fun h => absurd rfl h⟩).1
  have gB : s2.out ≠ [] → (σ4.put σ.next (.cells (cellsOf { s2 with out := [], bad := [] }) false 0 []) []).m.get s2.ob = some (.cells (flatR s2.out) false 0 []) := fun e => by
    rw [get_put_ne (r1.n1 e)]; exact r1.o e
  have gO : ∀ b x, σ.m.get b = some x → (σ4.put σ.next (.cells (cellsOf { s2 with out := [], bad := [] }) false 0 []) []).m.get b = some x ∧ (s1.out ≠ [] → b ≠ s1.ob) := fun b x hb => by
    have hlt := wf_lt hW hb
    obtain ⟨k1, k2⟩ := p2.2 b x (keep_push hW (Nat.le_refl _) (fun _ _ k => k) b x hb) ⟨by omega, fun h => absurd rfl h, fun h => absurd rfl h⟩
    refine ⟨?_, k2.2.1⟩
    rw [get_put_ne (by omega)]
    exact (r2.2 _ _ (by rw [get_put_ne (by omega)]; exact k1) ⟨by omega, fun h => absurd rfl h, fun h => absurd rfl h⟩).1
  obtain ⟨G, hG⟩ : ∃ G, G = σ4.put σ.next (.cells (cellsOf { s2 with out := [], bad := [] }) false 0 []) [] := ⟨_, rfl⟩
  rw [← hG] at hWG hGn gA gB gO
  rw [← hG]
  clear hG
  have kp : ∀ b x, G.m.get b = some x → (G.push (.cells [.bool false] false 0 [])).m.get b = some x := keep_push hWG (Nat.le_refl _) fun _ _ k => k
  have hlen := p4.inv.len
  have hbl := p4.inv.bad
  have hB : s2.out = [] ∨ ∃ r, s2.out = [r] ∧ (G.push (.cells [.bool false] false 0 [])).m.get s2.ob = some (.cells (flatR s2.out) false 0 []) := by
    rcases Nat.eq_zero_or_pos s1.lf with e | e
    · exact .inl (r4 e).1
    · exact .inr ⟨_, (r5 e).1, kp _ _ (gB (by rw [(r5 e).1]; simp))⟩
  have hB2 : s2.bad.length ≤ 1 ∧ s2.out.length ≤ 1 := by
    rcases Nat.eq_zero_or_pos s1.lf with e | e
    · rw [(r4 e).1, (r4 e).2]; simp
    · rw [(r5 e).1, (r5 e).2]; simp
  obtain ⟨q, H2, a1, a2, a3, a4, a5⟩ := app_two (P := Tryd.prog) slTy29 (wf_push hWG (.cells [.bool false] false 0 [])) (fun e => kp _ _ (gA e)) hB (by omega : s1.out.length ≤ 1000000)
  rw [next_push, hGn] at a3
  have hL : H2.m.get σ4.next = some (.cells [.bool false] false 0 []) := a5 _ _ (by rw [← hGn]; exact get_push_same _ _) fun e => by
    have := wf_lt hWG (gA e)
    omega
  have hN : s1.out ++ s2.out ≠ [] → q ≠ σ4.next := fun e => by
    rcases (a4 e).2 with ⟨k1, k2⟩ | k1
    · have := wf_lt hWG (gA k2); omega
    · rw [next_push] at k1; omega
  have ew : IntKind.wrap .i64 ((s1.bad.length : Int) + (s2.bad.length : Int)) = ((s1.bad.length + s2.bad.length : Nat) : Int) := by rw [wrap_i64 (by omega) (by omega)]; rfl
  repeat (first
    | refine sk_len (b := s1.bb) (m := s1.bad.length) (z := 3) Tryd.underlying52 rfl (by first | (simp only [go_sem, Nat.reduceLT, Nat.reduceLeDiff, Nat.reduceEqDiff, Nat.reduceAdd, Nat.reduceSub, Nat.reduceMul, reduceIte, reduceCtorEq, a1, ew] <;> rfl) | fail) ?_
    | refine sk_len (b := s2.bb) (m := s2.bad.length) (z := 3) Tryd.underlying52 rfl (by first | (simp only [go_sem, Nat.reduceLT, Nat.reduceLeDiff, Nat.reduceEqDiff, Nat.reduceAdd, Nat.reduceSub, Nat.reduceMul, reduceIte, reduceCtorEq, a1, ew] <;> rfl) | fail) ?_
    | refine sk_seq ?_
    | refine sk_region ?_
    | refine sk_ops_nil ?_
    | refine sk_block ?_
    | refine sk_blk ?_
    | refine sk_skip ?_
    | refine sk_exit rfl ?_
    | ((first | (apply sk_r; rfl; rfl) | (apply sk_w; rfl; rfl) | (apply sk_i; rfl) | (apply sk_g; rfl; rfl)); (simp only [go_sem, Nat.reduceLT, Nat.reduceLeDiff, Nat.reduceEqDiff, Nat.reduceAdd, Nat.reduceSub, Nat.reduceMul, reduceIte, reduceCtorEq, a1, ew] <;> rfl); (first | refine sk_id ?_ | refine cs_t ?_ | refine cs_f ?_ | refine gs_t rfl ?_ | refine gs_f rfl ?_))
    | ((first | (apply sk_c; rfl; rfl)); (simp only [go_sem, Nat.reduceLT, Nat.reduceLeDiff, Nat.reduceEqDiff, Nat.reduceAdd, Nat.reduceSub, Nat.reduceMul, reduceIte, reduceCtorEq, a1, ew] <;> rfl); (first
        | (refine (f29_tr (s1.out ++ s2.out) hL (fun e => (a4 e).1) hN (by rw [List.length_append]; omega)).mono ?_; rintro _ τ3 ⟨ob, rfl, v1, v2, v3, v4⟩)); refine sk_id ?_))
  have hrise : Rise (s1.out ++ s2.out) data.length := by
    have hr := p4.inv.rise
    rcases Nat.eq_zero_or_pos s1.lf with e | e
    · rw [if_pos e] at hr
      rw [(r4 e).1, List.append_nil]; exact hr
    · rw [if_neg (by omega)] at hr
      rw [(r5 e).1]
      exact rise_app hr (Nat.le_refl _) (p4.inv.bg e) _
  refine sk_ret ⟨_, (by first | (simp only [aRet, Tryd.results12, aResults, aResult, go_sem, Nat.reduceLT, Nat.reduceLeDiff, Nat.reduceEqDiff, Nat.reduceAdd, Nat.reduceSub, Nat.reduceMul, reduceIte, reduceCtorEq] <;> rfl) | fail), passL false (s1.out ++ s2.out), s1.bad.length + s2.bad.length, ob, rfl, v1, by omega, fun e => ⟨by have := (v3 e).1; omega, (v3 e).2⟩, fun b x hb => ?_, pass_rise hrise, fun r hr => (pass_mem hr).1, fun e => ?_, fun e => ?_⟩
  · have hlt := wf_lt hW hb
    exact v4 _ _ (a5 _ _ (kp _ _ (gO b x hb).1) (gO b x hb).2) (by omega)
  · obtain ⟨k1, k2⟩ := p4.win e
    rw [k2, (r4 k1).2]; rfl
  · have z := p4.plain (by rw [List.take_length]; exact e)
    rw [List.take_length] at z
    rw [z.bad, (r4 z.lf).1, (r4 z.lf).2, z.out, List.append_nil]
    exact ⟨rfl, rfl⟩
end Go.Proofs.YtophnlmdcidolaaDoor
