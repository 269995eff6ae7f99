import Derived.Test.YtophnlmdcidolaaDoorS14
import Derived.Test.YtophnlmdcidolaaDoorW2
set_option linter.all false
namespace Go.Am
theorem nlIdx_append : ∀ (a b : List (Int × Nat)) (k : Nat), nlIdx k (a ++ b) = nlIdx k a ++ nlIdx (k + a.length) b
  | [], b, k => by simp [nlIdx]
  | x :: a, b, k => by
    simp only [List.cons_append, nlIdx, nlIdx_append a b (k + 1), List.length_cons]
    rw [show k + 1 + a.length = k + (a.length + 1) by omega]
    split <;> rfl
theorem nlIdx_mem : ∀ {l : List (Int × Nat)} {k x : Nat}, x ∈ nlIdx k l → k ≤ x ∧ x < k + l.length
  | [], k, x, h => by simp [nlIdx] at h
  | r :: l, k, x, h => by
    simp only [nlIdx] at h
    simp only [List.length_cons]
    split at h
    · rcases List.mem_cons.1 h with rfl | h
      · omega
      · have := nlIdx_mem h; omega
    · have := nlIdx_mem h; omega
theorem nlIdx_sorted : ∀ (l : List (Int × Nat)) (k : Nat), (nlIdx k l).Pairwise (· ≤ ·)
  | [], _ => List.Pairwise.nil
  | r :: l, k => by
    simp only [nlIdx]
    split
    · exact List.pairwise_cons.2 ⟨fun x hx => by have := nlIdx_mem hx; omega, nlIdx_sorted l (k + 1)⟩
    · exact nlIdx_sorted l (k + 1)
theorem nl_firstGe (R : List (Int × Nat)) {i : Nat} (hi : i ≤ R.length) : firstGe (nlIdx 0 R) i = (nlIdx 0 (R.take i)).length ∧ nlIdx 0 R = nlIdx 0 (R.take i) ++ nlIdx i (R.drop i) := by
  have e : nlIdx 0 R = nlIdx 0 (R.take i) ++ nlIdx i (R.drop i) := by
    conv => lhs; rw [← List.take_append_drop i R]
    rw [nlIdx_append, List.length_take, Nat.min_eq_left hi, Nat.zero_add]
  refine ⟨firstGe_of (by rw [e, List.length_append]; omega) (fun a ha => ?_) (fun a ha => ?_), e⟩
  · rw [e, List.take_left] at ha
    have := nlIdx_mem ha
    rw [List.length_take] at this
    omega
  · rw [e, List.drop_left] at ha
    exact (nlIdx_mem ha).1
theorem lineCol_step {R : List (Int × Nat)} {i : Nat} {r : Int × Nat} (hr : R[i]? = some r) :
    lineCol (nlIdx 0 R) (i + 1) = if r.1 = 10 then ((lineCol (nlIdx 0 R) i).1 + 1, 1) else ((lineCol (nlIdx 0 R) i).1, (lineCol (nlIdx 0 R) i).2 + 1) := by
  have hi : i < R.length := (List.getElem?_eq_some_iff.1 hr).1
  obtain ⟨f1, e1⟩ := nl_firstGe R (i := i) (by omega)
  obtain ⟨f2, e2⟩ := nl_firstGe R (i := i + 1) (by omega)
  have et : nlIdx 0 (R.take (i + 1)) = nlIdx 0 (R.take i) ++ (if r.1 = 10 then [i] else []) := by
    rw [List.take_succ, hr]
    show nlIdx 0 (R.take i ++ [r]) = _
    rw [nlIdx_app, List.length_take, Nat.min_eq_left (by omega), Nat.zero_add]
  rw [et] at f2 e2
  have hm : ∀ x ∈ nlIdx 0 (R.take i), x < i := fun x hx => by have := nlIdx_mem hx; rw [List.length_take] at this; omega
  generalize nlIdx 0 (R.take i) = N1 at *
  generalize nlIdx (i + 1) (R.drop (i + 1)) = N3 at *
  unfold lineCol
  rw [f1, f2]
  by_cases h10 : r.1 = 10
  · simp only [if_pos h10] at e2 ⊢
    rw [if_neg (by simp)]
    have : (nlIdx 0 R)[(N1 ++ [i]).length - 1]? = some i := by
      rw [e2, List.getElem?_append_left (by simp)]
      simp
    rw [this]
    by_cases h0 : N1.length = 0
    · rw [if_pos h0]; simp [h0]
    · rw [if_neg h0]; simp
  · simp only [if_neg h10, List.append_nil] at e2 ⊢
    by_cases h0 : N1.length = 0
    · rw [if_pos h0, if_pos h0]
    · rw [if_neg h0, if_neg h0]
      obtain ⟨x, hx⟩ : ∃ x, N1[N1.length - 1]? = some x := ⟨_, List.getElem?_eq_getElem (by omega)⟩
      have hx2 : (nlIdx 0 R)[N1.length - 1]? = some x := by rw [e2, List.getElem?_append_left (by omega)]; exact hx
      have := hm x (List.mem_of_getElem? hx)
      rw [hx2]
      simp only [Option.getD_some, Prod.mk.injEq]
      exact ⟨trivial, by omega⟩
theorem lineCol_zero (R : List (Int × Nat)) : lineCol (nlIdx 0 R) 0 = (1, 1) := by
  have h := (nl_firstGe R (i := 0) (Nat.zero_le _)).1
  have h0 : firstGe (nlIdx 0 R) 0 = 0 := by rw [h]; rfl
  unfold lineCol
  rw [if_pos h0]
theorem lineCol_le (N : List Nat) (i : Nat) : (lineCol N i).1 ≤ N.length + 1 ∧ (lineCol N i).2 ≤ i + 1 := by
  have := firstGe_le N i
  unfold lineCol
  split <;> simp only <;> omega
theorem places_at {R : List (Int × Nat)} {k i : Nat} {r : Int × Nat} (h : Rise R k) (hr : R[i]? = some r) : firstGe (R.map (·.2)) r.2 = i := by
  have hi : i < R.length := (List.getElem?_eq_some_iff.1 hr).1
  have hp := h.1
  rw [← List.take_append_drop i R, drop_cons hr] at hp
  have hp := List.pairwise_append.1 hp
  refine firstGe_of (by rw [List.length_map]; omega) (fun a ha => ?_) (fun a ha => ?_)
  · rw [← List.map_take] at ha
    obtain ⟨y, hy, rfl⟩ := List.mem_map.1 ha
    exact hp.2.2 y hy r (by simp)
  · rw [← List.map_drop, drop_cons hr] at ha
    obtain ⟨y, hy, rfl⟩ := List.mem_map.1 ha
    rcases List.mem_cons.1 hy with rfl | hy
    · exact Nat.le_refl _
    · exact Nat.le_of_lt ((List.pairwise_cons.1 hp.2.1).1 y hy)
theorem places_end {R : List (Int × Nat)} {k x : Nat} (h : Rise R k) (hx : k ≤ x) : firstGe (R.map (·.2)) x = R.length := by
  refine firstGe_of (by rw [List.length_map]; omega) (fun a ha => ?_) (fun a ha => ?_)
  · obtain ⟨y, hy, rfl⟩ := List.mem_map.1 (List.mem_of_mem_take ha)
    have := h.2 y hy; omega
  · rw [List.drop_eq_nil_of_le (by rw [List.length_map]; omega)] at ha
    simp at ha
theorem places_sorted {R : List (Int × Nat)} {k : Nat} (h : Rise R k) : (R.map (·.2)).Pairwise (· ≤ ·) := by
  rw [List.pairwise_map]
  exact h.1.imp fun h => Nat.le_of_lt h
theorem flatR_get0 : ∀ {l : List (Int × Nat)} {i : Nat} {r : Int × Nat}, l[i]? = some r → (flatR l)[i * 2]? = some (.int .i64 r.1)
  | [], i, r, h => by simp at h
  | x :: l, 0, r, h => by simp at h; subst h; rfl
  | x :: l, i + 1, r, h => by
    have := flatR_get0 (l := l) (i := i) (r := r) (by simpa using h)
    rw [← this, Nat.succ_mul]
    rfl
theorem flatR_get1' : ∀ {l : List (Int × Nat)} {i : Nat} {r : Int × Nat}, l[i]? = some r → (flatR l)[i * 2 + 1]? = some (.int .i64 (r.2 : Nat))
  | [], i, r, h => by simp at h
  | x :: l, 0, r, h => by simp at h; subst h; rfl
  | x :: l, i + 1, r, h => by
    have := flatR_get1' (l := l) (i := i) (r := r) (by simpa using h)
    rw [← this, Nat.succ_mul]
    rfl
end Go.Am
namespace Go.Proofs.YtophnlmdcidolaaDoor
open Go Go.Am
set_option maxHeartbeats 8000000
set_option maxRecDepth 100000

theorem f6_tr (data : List Nat) (hd8 : ∀ c ∈ data, c < 256) (coding : Int) : Tr Tryd.prog 6 [.str data, .int .i64 coding] (heap0 Tryd.prog) fun v _ => v = .bool true := by
  refine sk_body (m := 86) Tryd.func6 rfl (by decide) rfl ?_
  repeat (first
    | refine sk_seq ?_
    | refine sk_region ?_
    | refine sk_ops_nil ?_
    | refine sk_block ?_
    | refine sk_blk ?_
    | refine sk_skip ?_
    | refine sk_exit rfl ?_
    | ((first | (apply sk_r; rfl; rfl) | (apply sk_w; rfl; rfl) | (apply sk_i; rfl) | (apply sk_g; rfl; rfl)); (simp only [go_sem, Nat.reduceLT, Nat.reduceLeDiff, Nat.reduceEqDiff, Nat.reduceAdd, Nat.reduceSub, Nat.reduceMul, reduceIte, reduceCtorEq] <;> rfl); (first | refine sk_id ?_ | refine cs_t ?_ | refine cs_f ?_ | refine gs_t rfl ?_ | refine gs_f rfl ?_))
    | ((first | (apply sk_c; rfl; rfl)); (simp only [go_sem, Nat.reduceLT, Nat.reduceLeDiff, Nat.reduceEqDiff, Nat.reduceAdd, Nat.reduceSub, Nat.reduceMul, reduceIte, reduceCtorEq] <;> rfl); (first
        | (refine stirs_tr.mono ?_; rintro _ τ rfl)); refine sk_id ?_))
  by_cases h5k : data.length > 2000
  · have e0 : decide ((data.length : Int) > 2000) = true := decide_eq_true (by omega)
    repeat (first
      | refine sk_seq ?_
      | refine sk_region ?_
      | refine sk_ops_nil ?_
      | refine sk_block ?_
      | refine sk_blk ?_
      | refine sk_skip ?_
      | refine sk_exit rfl ?_
      | ((first | (apply sk_r; rfl; rfl) | (apply sk_w; rfl; rfl) | (apply sk_i; rfl) | (apply sk_g; rfl; rfl)); (simp only [go_sem, Nat.reduceLT, Nat.reduceLeDiff, Nat.reduceEqDiff, Nat.reduceAdd, Nat.reduceSub, Nat.reduceMul, reduceIte, reduceCtorEq, e0] <;> rfl); (first | refine sk_id ?_ | refine cs_t ?_ | refine cs_f ?_ | refine gs_t rfl ?_ | refine gs_f rfl ?_)))
    exact sk_ret ⟨_, (by first | (simp only [aRet, Tryd.results6, aResults, aResult, go_sem, Nat.reduceLT, Nat.reduceLeDiff, Nat.reduceEqDiff, Nat.reduceAdd, Nat.reduceSub, Nat.reduceMul, reduceIte, reduceCtorEq] <;> rfl) | fail), by rfl⟩
  have e0 : decide ((data.length : Int) > 2000) = false := decide_eq_false (by omega)
  repeat (first
    | refine sk_seq ?_
    | refine sk_region ?_
    | refine sk_ops_nil ?_
    | refine sk_block ?_
    | refine sk_blk ?_
    | refine sk_skip ?_
    | refine sk_exit rfl ?_
    | ((first | (apply sk_r; rfl; rfl) | (apply sk_w; rfl; rfl) | (apply sk_i; rfl) | (apply sk_g; rfl; rfl)); (simp only [go_sem, Nat.reduceLT, Nat.reduceLeDiff, Nat.reduceEqDiff, Nat.reduceAdd, Nat.reduceSub, Nat.reduceMul, reduceIte, reduceCtorEq, e0] <;> rfl); (first | refine sk_id ?_ | refine cs_t ?_ | refine cs_f ?_ | refine gs_t rfl ?_ | refine gs_f rfl ?_))
    | ((first | (apply sk_c; rfl; rfl)); (simp only [go_sem, Nat.reduceLT, Nat.reduceLeDiff, Nat.reduceEqDiff, Nat.reduceAdd, Nat.reduceSub, Nat.reduceMul, reduceIte, reduceCtorEq, e0] <;> rfl); (first
        | (refine (f12_tr data hd8 (by omega) coding _).mono ?_; rintro _ τ1 ⟨R, na, ob, rfl, a1, a2, a3, a4, a5, a6, a7, a8⟩)); refine sk_id ?_))
  have hRl := rise_len _ rfl a5
  repeat (first
    | refine sk_seq ?_
    | refine sk_region ?_
    | refine sk_ops_nil ?_
    | refine sk_block ?_
    | refine sk_blk ?_
    | refine sk_skip ?_
    | refine sk_exit rfl ?_
    | ((first | (apply sk_r; rfl; rfl) | (apply sk_w; rfl; rfl) | (apply sk_i; rfl) | (apply sk_g; rfl; rfl)); (simp only [go_sem, Nat.reduceLT, Nat.reduceLeDiff, Nat.reduceEqDiff, Nat.reduceAdd, Nat.reduceSub, Nat.reduceMul, reduceIte, reduceCtorEq] <;> rfl); (first | refine sk_id ?_ | refine cs_t ?_ | refine cs_f ?_ | refine gs_t rfl ?_ | refine gs_f rfl ?_))
    | ((first | (apply sk_c; rfl; rfl)); (simp only [go_sem, Nat.reduceLT, Nat.reduceLeDiff, Nat.reduceEqDiff, Nat.reduceAdd, Nat.reduceSub, Nat.reduceMul, reduceIte, reduceCtorEq] <;> rfl); (first
        | (refine (f14_tr R (fun e => (a3 e).2) (by omega)).mono ?_; rintro _ τ2 ⟨rfl, pb, lb, hP⟩)); refine sk_id ?_))
  have gR := fun e => hP.keep _ _ (a3 e).2
  have hpl : (R.map (·.2)).length = R.length := List.length_map _
  have hnl := nlIdx_len 0 R
  have s15 := fun x => f15_tr (σ := τ2) (x := x) hP.tb (fun e => (hP.p (by intro h; exact e (List.eq_nil_of_length_eq_zero h))).2) (fun e => (hP.n (by intro h; exact e (List.eq_nil_of_length_eq_zero h))).2) (places_sorted a5) (nlIdx_sorted R 0) (by omega) (by omega)
  have e4 : IntKind.wrap .i64 ((data.length : Int) + 1) = ((data.length + 1 : Nat) : Int) := wrap_i64 (by omega) (by omega)
  refine sk_loop (fun m fr σ' => ∃ i, m = R.length - i ∧ i ≤ R.length ∧ σ' = τ2 ∧ fget fr 0 = .str data ∧ fget fr 5 = slV ob R.length 2 ∧ fget fr 7 = .ptr τ1.next 0 ∧ fget fr 8 = .int .i64 ((lineCol (nlIdx 0 R) i).1 : Nat) ∧ fget fr 9 = .int .i64 ((lineCol (nlIdx 0 R) i).2 : Nat) ∧ fget fr 10 = .int .i64 (i : Nat)) _
    ⟨0, rfl, Nat.zero_le _, rfl, (by first | (simp only [go_sem, Nat.reduceLT, Nat.reduceLeDiff, Nat.reduceEqDiff, Nat.reduceAdd, Nat.reduceSub, Nat.reduceMul, reduceIte, reduceCtorEq] <;> rfl) | fail), (by first | (simp only [go_sem, Nat.reduceLT, Nat.reduceLeDiff, Nat.reduceEqDiff, Nat.reduceAdd, Nat.reduceSub, Nat.reduceMul, reduceIte, reduceCtorEq] <;> rfl) | fail), (by first | (simp only [go_sem, Nat.reduceLT, Nat.reduceLeDiff, Nat.reduceEqDiff, Nat.reduceAdd, Nat.reduceSub, Nat.reduceMul, reduceIte, reduceCtorEq] <;> rfl) | fail), (by rw [lineCol_zero]; exact (by first | (simp only [go_sem, Nat.reduceLT, Nat.reduceLeDiff, Nat.reduceEqDiff, Nat.reduceAdd, Nat.reduceSub, Nat.reduceMul, reduceIte, reduceCtorEq] <;> rfl) | fail)), (by rw [lineCol_zero]; exact (by first | (simp only [go_sem, Nat.reduceLT, Nat.reduceLeDiff, Nat.reduceEqDiff, Nat.reduceAdd, Nat.reduceSub, Nat.reduceMul, reduceIte, reduceCtorEq] <;> rfl) | fail)), (by first | (simp only [go_sem, Nat.reduceLT, Nat.reduceLeDiff, Nat.reduceEqDiff, Nat.reduceAdd, Nat.reduceSub, Nat.reduceMul, reduceIte, reduceCtorEq] <;> rfl) | fail)⟩ ?_
  rintro _ fr σ' ⟨i, rfl, hi, hσ, h0, h5, h7, h8, h9, h10⟩
  rw [hσ]
  have hlc := lineCol_le (nlIdx 0 R) i
  by_cases hil : i < R.length
  · obtain ⟨r, hr⟩ : ∃ r, R[i]? = some r := ⟨_, List.getElem?_eq_getElem hil⟩
    have hrm : r ∈ R := List.mem_of_getElem? hr
    have hne : R ≠ [] := List.ne_nil_of_mem hrm
    have gR := gR hne
    rw [slV_some (n := R.length) (by omega)] at h5
    have hst := lineCol_step hr
    have c15 := s15 r.2
    rw [places_at a5 hr] at c15
    have hs13 := a6 r hrm
    have f0 := flatR_get0 hr
    have f1 := flatR_get1' hr
    obtain ⟨v, p⟩ := r
    simp only at hst c15 hs13 f0 f1
    generalize lineCol (nlIdx 0 R) i = lc at *
    obtain ⟨ln, col⟩ := lc
    simp only at hlc hst c15 h8 h9
    have e1 : decide ((i : Int) < (R.length : Int)) = true := decide_eq_true (by omega)
    have e2 : (0 : Int) ≤ (i : Int) := by omega
    have e3 : (i : Int) < (R.length : Int) := by omega
    have e5 : IntKind.wrap .i64 ((i : Int) + 1) = ((i + 1 : Nat) : Int) := wrap_i64 (by omega) (by omega)
    have e6 : IntKind.wrap .i64 ((col : Int) + 1) = ((col + 1 : Nat) : Int) := wrap_i64 (by omega) (by omega)
    have e7 : IntKind.wrap .i64 ((ln : Int) + 1) = ((ln + 1 : Nat) : Int) := wrap_i64 (by omega) (by omega)
    have n1 : ((ln : Int) != (ln : Int)) = false := by simp
    have n2 : ((col : Int) != (col : Int)) = false := by simp
    have n3 : (v == 13) = false := by simp [hs13]
    by_cases hv : v = 10
    · have n4 : (v == 10) = true := by simp [hv]
      rw [if_pos hv] at hst
      repeat (first
        | refine sk_seq ?_
        | refine sk_region ?_
        | refine sk_ops_nil ?_
        | refine sk_block ?_
        | refine sk_blk ?_
        | refine sk_skip ?_
        | refine sk_exit rfl ?_
        | ((first | (apply sk_r; rfl; rfl) | (apply sk_w; rfl; rfl) | (apply sk_i; rfl) | (apply sk_g; rfl; rfl)); (simp only [go_sem, Nat.reduceLT, Nat.reduceLeDiff, Nat.reduceEqDiff, Nat.reduceAdd, Nat.reduceSub, Nat.reduceMul, reduceIte, reduceCtorEq, h0, h5, h7, h8, h9, h10, gR, e1, e2, e3, e5, e6, e7, f0, f1, n1, n2, n3, n4, and_self] <;> rfl); (first | refine sk_id ?_ | refine cs_t ?_ | refine cs_f ?_ | refine gs_t rfl ?_ | refine gs_f rfl ?_))
        | ((first | (apply sk_c; rfl; rfl)); (simp only [go_sem, Nat.reduceLT, Nat.reduceLeDiff, Nat.reduceEqDiff, Nat.reduceAdd, Nat.reduceSub, Nat.reduceMul, reduceIte, reduceCtorEq, h0, h5, h7, h8, h9, h10, gR, e1, e2, e3, e5, e6, e7, f0, f1, n1, n2, n3, n4, and_self] <;> rfl); (first
            | (refine c15.mono ?_; rintro _ τ3 ⟨rfl, hτ3⟩; rw [hτ3])); refine sk_id ?_))
      exact sk_stop ⟨R.length - (i + 1), by omega, i + 1, rfl, by omega, rfl, (by first | (simp only [go_sem, Nat.reduceLT, Nat.reduceLeDiff, Nat.reduceEqDiff, Nat.reduceAdd, Nat.reduceSub, Nat.reduceMul, reduceIte, reduceCtorEq, h0] <;> rfl) | fail), (by rw [slV_some (n := R.length) (by omega)]; exact (by first | (simp only [go_sem, Nat.reduceLT, Nat.reduceLeDiff, Nat.reduceEqDiff, Nat.reduceAdd, Nat.reduceSub, Nat.reduceMul, reduceIte, reduceCtorEq, h5] <;> rfl) | fail)), (by first | (simp only [go_sem, Nat.reduceLT, Nat.reduceLeDiff, Nat.reduceEqDiff, Nat.reduceAdd, Nat.reduceSub, Nat.reduceMul, reduceIte, reduceCtorEq, h7] <;> rfl) | fail), (by rw [hst]; exact (by first | (simp only [go_sem, Nat.reduceLT, Nat.reduceLeDiff, Nat.reduceEqDiff, Nat.reduceAdd, Nat.reduceSub, Nat.reduceMul, reduceIte, reduceCtorEq] <;> rfl) | fail)), (by rw [hst]; exact (by first | (simp only [go_sem, Nat.reduceLT, Nat.reduceLeDiff, Nat.reduceEqDiff, Nat.reduceAdd, Nat.reduceSub, Nat.reduceMul, reduceIte, reduceCtorEq] <;> rfl) | fail)), (by first | (simp only [go_sem, Nat.reduceLT, Nat.reduceLeDiff, Nat.reduceEqDiff, Nat.reduceAdd, Nat.reduceSub, Nat.reduceMul, reduceIte, reduceCtorEq] <;> rfl) | fail)⟩
    · have n4 : (v == 10) = false := by simp [hv]
      rw [if_neg hv] at hst
      repeat (first
        | refine sk_seq ?_
        | refine sk_region ?_
        | refine sk_ops_nil ?_
        | refine sk_block ?_
        | refine sk_blk ?_
        | refine sk_skip ?_
        | refine sk_exit rfl ?_
        | ((first | (apply sk_r; rfl; rfl) | (apply sk_w; rfl; rfl) | (apply sk_i; rfl) | (apply sk_g; rfl; rfl)); (simp only [go_sem, Nat.reduceLT, Nat.reduceLeDiff, Nat.reduceEqDiff, Nat.reduceAdd, Nat.reduceSub, Nat.reduceMul, reduceIte, reduceCtorEq, h0, h5, h7, h8, h9, h10, gR, e1, e2, e3, e5, e6, e7, f0, f1, n1, n2, n3, n4, and_self] <;> rfl); (first | refine sk_id ?_ | refine cs_t ?_ | refine cs_f ?_ | refine gs_t rfl ?_ | refine gs_f rfl ?_))
        | ((first | (apply sk_c; rfl; rfl)); (simp only [go_sem, Nat.reduceLT, Nat.reduceLeDiff, Nat.reduceEqDiff, Nat.reduceAdd, Nat.reduceSub, Nat.reduceMul, reduceIte, reduceCtorEq, h0, h5, h7, h8, h9, h10, gR, e1, e2, e3, e5, e6, e7, f0, f1, n1, n2, n3, n4, and_self] <;> rfl); (first
            | (refine c15.mono ?_; rintro _ τ3 ⟨rfl, hτ3⟩; rw [hτ3])); refine sk_id ?_))
      exact sk_stop ⟨R.length - (i + 1), by omega, i + 1, rfl, by omega, rfl, (by first | (simp only [go_sem, Nat.reduceLT, Nat.reduceLeDiff, Nat.reduceEqDiff, Nat.reduceAdd, Nat.reduceSub, Nat.reduceMul, reduceIte, reduceCtorEq, h0] <;> rfl) | fail), (by rw [slV_some (n := R.length) (by omega)]; exact (by first | (simp only [go_sem, Nat.reduceLT, Nat.reduceLeDiff, Nat.reduceEqDiff, Nat.reduceAdd, Nat.reduceSub, Nat.reduceMul, reduceIte, reduceCtorEq, h5] <;> rfl) | fail)), (by first | (simp only [go_sem, Nat.reduceLT, Nat.reduceLeDiff, Nat.reduceEqDiff, Nat.reduceAdd, Nat.reduceSub, Nat.reduceMul, reduceIte, reduceCtorEq, h7] <;> rfl) | fail), (by rw [hst]; exact (by first | (simp only [go_sem, Nat.reduceLT, Nat.reduceLeDiff, Nat.reduceEqDiff, Nat.reduceAdd, Nat.reduceSub, Nat.reduceMul, reduceIte, reduceCtorEq, h8] <;> rfl) | fail)), (by rw [hst]; exact (by first | (simp only [go_sem, Nat.reduceLT, Nat.reduceLeDiff, Nat.reduceEqDiff, Nat.reduceAdd, Nat.reduceSub, Nat.reduceMul, reduceIte, reduceCtorEq] <;> rfl) | fail)), (by first | (simp only [go_sem, Nat.reduceLT, Nat.reduceLeDiff, Nat.reduceEqDiff, Nat.reduceAdd, Nat.reduceSub, Nat.reduceMul, reduceIte, reduceCtorEq] <;> rfl) | fail)⟩
  · have ei : i = R.length := by omega
    have c15 := s15 (data.length + 1)
    rw [places_end a5 (by omega), ← ei] at c15
    have e1 : decide ((i : Int) < (R.length : Int)) = false := decide_eq_false (by omega)
    generalize lineCol (nlIdx 0 R) i = lc at *
    obtain ⟨ln, col⟩ := lc
    simp only at c15 h8 h9
    have n1 : ((ln : Int) == (ln : Int)) = true := by simp
    have n2 : ((col : Int) == (col : Int)) = true := by simp
    repeat (first
      | refine sk_len (b := ob) (m := R.length) (z := 2) Tryd.underlying29 rfl (by first | (simp only [go_sem, Nat.reduceLT, Nat.reduceLeDiff, Nat.reduceEqDiff, Nat.reduceAdd, Nat.reduceSub, Nat.reduceMul, reduceIte, reduceCtorEq, h0, h5, h7, h8, h9, h10, e1, e4, n1, n2] <;> rfl) | fail) ?_
      | refine sk_seq ?_
      | refine sk_region ?_
      | refine sk_ops_nil ?_
      | refine sk_block ?_
      | refine sk_blk ?_
      | refine sk_skip ?_
      | refine sk_exit rfl ?_
      | ((first | (apply sk_r; rfl; rfl) | (apply sk_w; rfl; rfl) | (apply sk_i; rfl) | (apply sk_g; rfl; rfl)); (simp only [go_sem, Nat.reduceLT, Nat.reduceLeDiff, Nat.reduceEqDiff, Nat.reduceAdd, Nat.reduceSub, Nat.reduceMul, reduceIte, reduceCtorEq, h0, h5, h7, h8, h9, h10, e1, e4, n1, n2] <;> rfl); (first | refine sk_id ?_ | refine cs_t ?_ | refine cs_f ?_ | refine gs_t rfl ?_ | refine gs_f rfl ?_))
      | ((first | (apply sk_c; rfl; rfl)); (simp only [go_sem, Nat.reduceLT, Nat.reduceLeDiff, Nat.reduceEqDiff, Nat.reduceAdd, Nat.reduceSub, Nat.reduceMul, reduceIte, reduceCtorEq, h0, h5, h7, h8, h9, h10, e1, e4, n1, n2] <;> rfl); (first
          | (refine c15.mono ?_; rintro _ τ3 ⟨rfl, hτ3⟩; rw [hτ3])); refine sk_id ?_))
    exact sk_ret ⟨_, (by first | (simp only [aRet, Tryd.results6, aResults, aResult, go_sem, Nat.reduceLT, Nat.reduceLeDiff, Nat.reduceEqDiff, Nat.reduceAdd, Nat.reduceSub, Nat.reduceMul, reduceIte, reduceCtorEq] <;> rfl) | fail), by rfl⟩
end Go.Proofs.YtophnlmdcidolaaDoor
